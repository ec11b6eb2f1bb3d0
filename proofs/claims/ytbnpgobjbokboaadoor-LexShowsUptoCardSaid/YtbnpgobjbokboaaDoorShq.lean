/- Sh, as this claim needs it. -/
import Derived.Test.YtbnpgobjbokboaaDoorPLexx5q
import Derived.Test.YtbnpgobjbokboaaDoorPLexx6q
import Derived.Test.YtbnpgobjbokboaaDoorPLexx11q
import Derived.Test.YtbnpgobjbokboaaDoorPLexx16q
import Derived.Test.YtbnpgobjbokboaaDoorPLexx17q
import Derived.Test.YtbnpgobjbokboaaDoorPLexx18q
import Derived.Test.YtbnpgobjbokboaaDoorPLexx19q
import Derived.Test.YtbnpgobjbokboaaDoorPLexx20q
import Derived.Test.YtbnpgobjbokboaaDoorRefLq
import Derived.Test.YtbnpgobjbokboaaDoorBackq
namespace Go.Proofs.YtbnpgobjbokboaaDoor.Lx
open Go.RowKit Go.Proofs.YtbnpgobjbokboaaDoor.PLex Go.Proofs.YtbnpgobjbokboaaDoorW.PrintWords Go.Proofs.YtbnpgobjbokboaaDoorW.PrintLast
set_option linter.unusedVariables false
set_option linter.unusedSimpArgs false
theorem num_one : ∀ d : Nat, d < 10 → strOfNums [((48 + d : Nat) : Int)] = B [UInt8.ofNat (48 + d)] := by decide +kernel
theorem B_append (a b : L) : B a ++ B b = B (a ++ b) := by
  apply ByteArray.ext
  show (B a ++ B b).data = (a ++ b).toArray
  rw [ByteArray.data_append]
  show a.toArray ++ b.toArray = (a ++ b).toArray
  simp
theorem digits_q (u : Nat) (h : u ≤ 9223372036854775807) : Ev (fun k => gussetref04_digits.f k (u : Int)) (B (Lib.decDigits u)) := by
  induction u using Nat.strongRecOn with
  | _ u ih =>
    have h1 : (wrap64 (48 + (Int.tmod (u : Int) 10))) % 256 = ((48 + u % 10 : Nat) : Int) := by
      rw [Int.tmod_eq_emod_of_nonneg (by omega)]
      unfold wrap64
      omega
    have h2 : wrap64 (Int.tdiv (u : Int) 10) = ((u / 10 : Nat) : Int) := by
      rw [Int.tdiv_eq_ediv_of_nonneg (by omega)]
      unfold wrap64
      omega
    have hs := num_one (u % 10) (by omega)
    refine Ev.step (f := fun k => if (u : Int) > 9 then ((gussetref04_digits.f k ((u / 10 : Nat) : Int)).bind fun t398 => (if t398.size + (B [UInt8.ofNat (48 + u % 10)]).size ≤ 9223372036854775807 then (some (t398 ++ B [UInt8.ofNat (48 + u % 10)])) else none)) else some (B [UInt8.ofNat (48 + u % 10)])) (fun k => ?_) ?_
    ·
     rw [gussetref04_digits.f, Option.bind_some, h1, h2, hs]
    rw [Lib.decDigits]
    by_cases hu : u < 10
    ·
     rw [dif_pos hu]
     simp only [if_neg (show ¬ (u : Int) > 9 by omega)]
     rw [Nat.mod_eq_of_lt hu]
     exact Ev.now _
    rw [dif_neg hu]
    simp only [if_pos (show (u : Int) > 9 by omega)]
    refine Ev.bind (f := fun _ t398 => _) (ih (u / 10) (by omega) (by omega)) ?_
    have hl := digits_le 19 (u / 10) (by omega)
    simp only [if_pos (show (B (Lib.decDigits (u / 10))).size + (B [UInt8.ofNat (48 + u % 10)]).size ≤ 9223372036854775807 by rw [B_size, B_size]; simp only [List.length_cons, List.length_nil]; omega), B_append]
    exact Ev.now _
theorem hex_all : ∀ u : Nat, u < 256 → gussetref01_hex.f 3 (u : Int) = some (B (hexU u)) := by decide +kernel
theorem hexu_q (u : Nat) (h : u < 256) : Ev (fun k => gussetref01_hex.f k (u : Int)) (B (hexU u)) := Ev.of (fun k => gussetref01_hex.mono _ k) (hex_all u h)
def runesS : Nat → L → List L
  | 0, _ => []
  | k + 1, l => if l = [] then [] else l.take (dec l).2 :: runesS k (l.drop (dec l).2)
theorem head_width (l : L) : (headP l).1 = (((dec l).2 : Nat) : Int) := by
  unfold headP
  split
  rotate_left
  ·
   rfl
  rename_i h
  have h : dec l = (65533, 1) := h
  rw [h]
  rfl
theorem runes_l0 : ∀ (n : Nat) (l : L) (acc : List L) (b : Bool), l.length ≤ n → acc.length + n ≤ 1073741824 → ∃ b', Ev (fun k => gussetref01_Runes.l0 k (B l) (acc.map B) b) ((acc ++ runesS n l).map B, b') := by
  intro n
  induction n with
  | zero =>
    intro l acc b hl ha
    obtain rfl : l = [] := List.length_eq_zero_iff.1 (by omega)
    refine ⟨b, Ev.step (f := fun _ => some (acc.map B, b)) (fun k => ?_) ?_⟩
    rotate_left
    ·
     rw [runesS, List.append_nil]
     exact Ev.now _
    rw [gussetref01_Runes.l0, if_pos (by rw [B_toList])]
  | succ n ih =>
    intro l acc b hl ha
    by_cases h : l = []
    ·
     subst h
     refine ⟨b, Ev.step (f := fun _ => some (acc.map B, b)) (fun k => ?_) ?_⟩
     ·
      rw [gussetref01_Runes.l0, if_pos (by rw [B_toList])]
     rw [runesS, if_pos rfl, List.append_nil]
     exact Ev.now _
    have hw := dec_width h
    have hh : ∀ k, gussetref01_Head.f (k + 12) (B l) = some (headP l) := by
      intro k
      cases l with
      | nil => exact absurd rfl h
      | cons c r => exact head_b c r k
    have hev : Ev (fun k => gussetref01_Head.f k (B l)) (headP l) := ⟨12, fun k hk => by
      obtain ⟨k, rfl⟩ : ∃ m, k = m + 12 := ⟨k - 12, by omega⟩
      exact hh k⟩
    obtain ⟨b', hb'⟩ := ih (l.drop (dec l).2) (acc ++ [l.take (dec l).2]) (if b = true then decide ((headP l).2 ≥ 0) else false) (by rw [List.length_drop]; omega) (by rw [List.length_append]; simp only [List.length_cons, List.length_nil]; omega)
    refine ⟨b', Ev.step (f := fun k => (gussetref01_Head.f k (B l)).bind fun bt399 => (if b = true then (if 0 ≤ bt399.1 then (if bt399.1 ≤ ((B l).size : Int) then (if (acc.map B).length < 8796093022208 then (gussetref01_Runes.l0 k ((B l).extract (bt399.1 : Int).toNat (B l).size) (acc.map B ++ [(B l).extract 0 (bt399.1 : Int).toNat]) (decide (bt399.2 ≥ 0))) else (none)) else (none)) else (none)) else (if 0 ≤ bt399.1 then (if bt399.1 ≤ ((B l).size : Int) then (if (acc.map B).length < 8796093022208 then (gussetref01_Runes.l0 k ((B l).extract (bt399.1 : Int).toNat (B l).size) (acc.map B ++ [(B l).extract 0 (bt399.1 : Int).toNat]) false) else (none)) else (none)) else (none)))) (fun k => ?_) ?_⟩
    ·
     rw [gussetref01_Runes.l0, if_neg (by rw [B_toList]; exact h)]
    refine Ev.bind (f := fun k bt399 => _) hev ?_
    rw [runesS, if_neg h]
    rw [List.append_assoc, List.map_append] at hb'
    simp only [head_width, Int.toNat_natCast, B_drop, B_take, if_pos (show (0 : Int) ≤ (((dec l).2 : Nat) : Int) by omega), if_pos (show (((dec l).2 : Nat) : Int) ≤ ((B l).size : Int) by rw [B_size]; omega), if_pos (show (acc.map B).length < 8796093022208 by rw [List.length_map]; omega)]
    rw [List.map_append]
    cases b with
    | true =>
      simp only [if_true] at hb' ⊢
      simpa using hb'
    | false =>
      simp only [if_neg (show ¬ (false = true) by decide)] at hb' ⊢
      simpa using hb'
end Go.Proofs.YtbnpgobjbokboaaDoor.Lx
namespace Go.Proofs.YtbnpgobjbokboaaDoor.Lx
open Go.RowKit Go.Proofs.YtbnpgobjbokboaaDoor.PLex Go.Proofs.YtbnpgobjbokboaaDoorW.PrintWords Go.Proofs.YtbnpgobjbokboaaDoorW.PrintLast
set_option linter.unusedVariables false
set_option linter.unusedSimpArgs false
def Piece (p : L) : Prop := p ≠ [] ∧ ((Bad p ∧ p.length = 1) ∨ (¬ Bad p ∧ (dec p).2 = p.length))
theorem bad_one {c : UInt8} {r : L} (h : Bad (c :: r)) : Bad [c] := by
  rcases dec_cases c [] with ⟨h1, e⟩ | ⟨d, q, e, _⟩ | ⟨d, e1, q, e, _⟩ | ⟨d, e1, f, q, e, _⟩ | ⟨_, e⟩
  ·
   have h : dec (c :: r) = (65533, 1) := h
   rw [dec_1 h1] at h
   have := (Prod.mk.inj h).1
   omega
  ·
   cases e
  ·
   cases e
  ·
   cases e
  exact e
theorem take_piece (l : L) (hne : l ≠ []) : Piece (l.take (dec l).2) ∧ oneS (l.take (dec l).2) = oneS l := by
  have hw := dec_width hne
  by_cases hb : Bad l
  ·
   have hb' : dec l = (65533, 1) := hb
   rw [hb']
   match l with
   | [] => exact absurd rfl hne
   | c :: r =>
     have h1 := bad_one hb
     refine ⟨⟨by simp, Or.inl ⟨h1, rfl⟩⟩, ?_⟩
     show oneS [c] = _
     unfold oneS
     rw [if_pos h1, if_pos hb]
     rfl
  have hd := (dec_local hne hb []).1
  rw [List.append_nil] at hd
  have hlen : (l.take (dec l).2).length = (dec l).2 := by rw [List.length_take]; omega
  have hb2 : ¬ Bad (l.take (dec l).2) := by unfold Bad at hb ⊢; rw [hd]; exact hb
  refine ⟨⟨fun e => by rw [e] at hlen; simp at hlen; omega, Or.inr ⟨hb2, by rw [hd, hlen]⟩⟩, ?_⟩
  unfold oneS
  rw [if_neg hb, if_neg hb2, hd]
theorem runes_pieces : ∀ (n : Nat) (l : L), l.length ≤ n → (∀ p ∈ runesS n l, Piece p) ∧ (runesS n l).flatMap oneS = qS n l ∧ (runesS n l).length ≤ l.length := by
  intro n
  induction n with
  | zero =>
    intro l hl
    exact ⟨(fun p hp => by cases hp), rfl, Nat.zero_le _⟩
  | succ n ih =>
    intro l hl
    rw [runesS, qS]
    by_cases h : l = []
    ·
     rw [if_pos h, if_pos h]
     exact ⟨(fun p hp => by cases hp), rfl, Nat.zero_le _⟩
    rw [if_neg h, if_neg h]
    have hw := dec_width h
    obtain ⟨i1, i2, i3⟩ := ih (l.drop (dec l).2) (by rw [List.length_drop]; omega)
    obtain ⟨p1, p2⟩ := take_piece l h
    rw [List.length_drop] at i3
    refine ⟨fun p hp => ?_, ?_, ?_⟩
    ·
     rcases List.mem_cons.1 hp with rfl | hp
     ·
      exact p1
     exact i1 p hp
    ·
     rw [List.flatMap_cons, i2, p2]
    rw [List.length_cons]
    omega
theorem quote_step (ps : List L) (i : Nat) (hi : i < ps.length) (hl : ps.length ≤ 1073741824) (hp : Piece ps[i]) (a : L) (ha : a.length ≤ 1000000000000) : ∃ K, ∀ k, K ≤ k → gussetref01_Quote.l0 (k + 2) (ps.map B) (B a) (i : Int) = gussetref01_Quote.l0 k (ps.map B) (B (a ++ oneS ps[i])) ((i + 1 : Nat) : Int) := by
  have hr := rdOf_b ps i hi
  have hlen : (i : Int) < ((ps.map B).length : Int) := by rw [List.length_map]; omega
  generalize ps[i] = p at hp hr
  obtain ⟨hne, hcase⟩ := hp
  have hpl : p.length ≤ 4 ∧ (p.length = 1 ∨ p = enc (dec p).1) := by
    rcases hcase with ⟨_, h⟩ | ⟨hb, h⟩
    ·
     exact ⟨by omega, Or.inl h⟩
    have := (enc_dec hne hb).1
    rw [h, List.take_length] at this
    exact ⟨by rw [← this]; exact encLe _, Or.inr this.symm⟩
  have hh : ∀ k, gussetref01_Head.f (k + 12) (B p) = some (headP p) := by
    intro k
    cases p with
    | nil => exact absurd rfl hne
    | cons c r => exact head_b c r k
  have hone := one_le p
  have hw : wrap64 ((i : Int) + 1) = ((i + 1 : Nat) : Int) := wrap_1 _ (by omega)
  have start : ∀ k, gussetref01_Quote.l0 (k + 14) (ps.map B) (B a) (i : Int) = gussetref01_Quote.j1 (k + 13) (ps.map B) (B a) (i : Int) (headP p).2 (decide (p = [34] ∨ p = [92])) := by
    intro k
    rw [gussetref01_Quote.l0, if_pos hlen, if_pos (by omega), hr, hh (k + 1), Option.bind_some, B_toList]
    by_cases c1 : p = [34]
    ·
     rw [if_pos c1, decide_eq_true (Or.inl c1)]
    rw [if_neg c1]
    congr 1
    rw [Bool.eq_iff_iff, beq_iff_eq, decide_eq_true_eq]
    exact ⟨Or.inr, fun h => h.resolve_left c1⟩
  by_cases cq : p = [34] ∨ p = [92]
  ·
   refine ⟨20, fun k hk => ?_⟩
   obtain ⟨k, rfl⟩ : ∃ m, k = m + 12 := ⟨k - 12, by omega⟩
   have ho : oneS p = 92 :: p := by rcases cq with rfl | rfl <;> decide
   rw [show k + 12 + 2 = k + 14 from rfl, start, decide_eq_true cq, gussetref01_Quote.j1, if_pos rfl, if_pos (by omega), if_pos hlen, hr, if_pos (by rw [B_size]; omega), show (⟨#[92]⟩ : ByteArray) = B [92] from rfl, B_append, if_pos (by rw [B_size, B_size]; simp only [List.length_append, List.length_cons, List.length_nil]; omega), B_append, hw, ho]
   rfl
  have key : ∃ K, ∀ k, K ≤ k → gussetref01_Quote.j1 (k + 1) (ps.map B) (B a) (i : Int) (headP p).2 false = gussetref01_Quote.l0 k (ps.map B) (B (a ++ oneS p)) ((i + 1 : Nat) : Int) := by
    by_cases hb : Bad p
    ·
     obtain ⟨c, rfl⟩ : ∃ c, p = [c] := by
       rcases hcase with ⟨_, h⟩ | ⟨h, _⟩
       rotate_left
       ·
        exact absurd hb h
       exact List.length_eq_one_iff.1 h
     obtain ⟨K, hK⟩ := hexu_q c.toNat (UInt8.toNat_lt c)
     have h2 := hexLe c.toNat
     refine ⟨K, fun k hk => ?_⟩
     have hK' : gussetref01_hex.f k (c.toNat : Int) = some (B (hexU c.toNat)) := hK k hk
     have hbt : wrap64 (bt (B [c]) 0) = (c.toNat : Int) := by
       rw [show bt (B [c]) 0 = (c.toNat : Int) from B_bt _ 0]
       have := UInt8.toNat_lt c
       unfold wrap64
       omega
     have ho : oneS [c] = 92 :: 117 :: 123 :: (hexU c.toNat ++ [125]) := by unfold oneS; rw [if_pos hb]; rfl
     rw [headP_bad hb, gussetref01_Quote.j1, if_neg (by decide), if_neg (by decide), if_neg (by decide), if_pos (by decide), if_pos (by omega), if_pos hlen, hr, if_pos (by rw [B_size, List.length_singleton]; omega), hbt, hK', Option.bind_some, if_pos (by rw [B_size]; omega), show (⟨#[92, 117, 123]⟩ : ByteArray) = B [92, 117, 123] from rfl, show (⟨#[125]⟩ : ByteArray) = B [125] from rfl, B_append, if_pos (by rw [B_size]; simp only [List.length_append, List.length_cons, List.length_nil]; omega), B_append, if_pos (by rw [B_size, B_size]; simp only [List.length_append, List.length_cons, List.length_nil]; omega), B_append, hw, ho]
     congr 2
    have he := (enc_dec hne hb).2
    have hx : headP p = ((((dec p).2 : Nat) : Int), (((dec p).1 : Nat) : Int)) := by unfold headP; rw [if_neg hb]
    have hpe : p = enc (dec p).1 := by
      rcases hcase with ⟨h, _⟩ | ⟨_, h⟩
      ·
       exact absurd h hb
      have := (enc_dec hne hb).1
      rw [h, List.take_length] at this
      exact this.symm
    have ho : oneS p = if (dec p).1 = 34 ∨ (dec p).1 = 92 then 92 :: enc (dec p).1 else if (dec p).1 = 10 then [92, 110] else if (dec p).1 = 9 then [92, 116] else if (dec p).1 < 32 ∨ (dec p).1 = 127 then 92 :: 117 :: 123 :: (hexU (dec p).1 ++ [125]) else enc (dec p).1 := by unfold oneS; rw [if_neg hb]
    rw [hx, ho]
    have hn34 : ¬ ((dec p).1 = 34 ∨ (dec p).1 = 92) := fun e => cq (by
      rcases e with e | e
      ·
       rw [e] at hpe; exact Or.inl hpe
      rw [e] at hpe; exact Or.inr hpe)
    rw [if_neg hn34]
    generalize (dec p).1 = n at hpe he
    by_cases c2 : n = 10
    ·
     refine ⟨0, fun k hk => ?_⟩
     rw [if_pos c2, gussetref01_Quote.j1, if_neg (by decide), if_pos (by simp only; omega), if_pos (by rw [B_size]; omega), show (⟨#[92, 110]⟩ : ByteArray) = B [92, 110] from rfl, B_append, hw]
    rw [if_neg c2]
    by_cases c3 : n = 9
    ·
     refine ⟨0, fun k hk => ?_⟩
     rw [if_pos c3, gussetref01_Quote.j1, if_neg (by decide), if_neg (by simp only; omega), if_pos (by simp only; omega), if_pos (by rw [B_size]; omega), show (⟨#[92, 116]⟩ : ByteArray) = B [92, 116] from rfl, B_append, hw]
    rw [if_neg c3]
    by_cases c4 : n < 32 ∨ n = 127
    rotate_left
    ·
     refine ⟨0, fun k hk => ?_⟩
     rw [if_neg c4, gussetref01_Quote.j1, if_neg (by decide), if_neg (by simp only; omega), if_neg (by simp only; omega), if_neg (by simp only; omega), if_neg (by simp only; omega), if_neg (by simp only; omega), if_pos (by omega), if_pos hlen, hr, if_pos (by rw [B_size, B_size]; omega), B_append, hw, ← hpe]
    obtain ⟨K, hK⟩ := hexu_q n (by omega)
    have h2 := hexLe n
    refine ⟨K, fun k hk => ?_⟩
    have fin : (gussetref01_hex.f k (n : Int)).bind (fun t421 => (if 3 + t421.size ≤ 9223372036854775807 then (if ((⟨#[92, 117, 123]⟩ : ByteArray) ++ t421).size + 1 ≤ 9223372036854775807 then (if (B a).size + (((⟨#[92, 117, 123]⟩ : ByteArray) ++ t421) ++ (⟨#[125]⟩ : ByteArray)).size ≤ 9223372036854775807 then (gussetref01_Quote.l0 k (ps.map B) ((B a) ++ (((⟨#[92, 117, 123]⟩ : ByteArray) ++ t421) ++ (⟨#[125]⟩ : ByteArray))) (wrap64 ((i : Int) + 1))) else (none)) else (none)) else (none))) = gussetref01_Quote.l0 k (ps.map B) (B (a ++ 92 :: 117 :: 123 :: (hexU n ++ [125]))) ((i + 1 : Nat) : Int) := by
      have hK' : gussetref01_hex.f k (n : Int) = some (B (hexU n)) := hK k hk
      rw [hK', Option.bind_some, if_pos (by rw [B_size]; omega), show (⟨#[92, 117, 123]⟩ : ByteArray) = B [92, 117, 123] from rfl, show (⟨#[125]⟩ : ByteArray) = B [125] from rfl, B_append, if_pos (by rw [B_size]; simp only [List.length_append, List.length_cons, List.length_nil]; omega), B_append, if_pos (by rw [B_size, B_size]; simp only [List.length_append, List.length_cons, List.length_nil]; omega), B_append, hw]
      congr 2
    rw [if_pos c4, gussetref01_Quote.j1, if_neg (by decide), if_neg (by simp only; omega), if_neg (by simp only; omega), if_neg (by simp only; omega)]
    by_cases c5 : n < 32
    ·
     rw [if_pos (by simp only; omega)]
     exact fin
    rw [if_neg (by simp only; omega), if_pos (by simp only; omega)]
    exact fin
  obtain ⟨K, hK⟩ := key
  refine ⟨K + 20, fun k hk => ?_⟩
  obtain ⟨k, rfl⟩ : ∃ m, k = m + 12 := ⟨k - 12, by omega⟩
  rw [show k + 12 + 2 = k + 14 from rfl, start, decide_eq_false cq]
  exact hK (k + 12) (by omega)
theorem quoteq_l0 (ps : List L) (hl : ps.length ≤ 1073741824) (hp : ∀ p ∈ ps, Piece p) : ∀ (d i : Nat) (a : L), ps.length - i = d → i ≤ ps.length → a.length ≤ 10 * i + 1 → Ev (fun k => gussetref01_Quote.l0 k (ps.map B) (B a) (i : Int)) (B (a ++ ((ps.drop i).flatMap oneS ++ [34]))) := by
  intro d
  induction d with
  | zero =>
    intro i a hd hi ha
    refine Ev.step (f := fun _ => some (B (a ++ [34]))) (fun k => ?_) ?_
    rotate_left
    ·
     rw [List.drop_of_length_le (by omega)]
     exact Ev.now _
    rw [gussetref01_Quote.l0, if_neg (by rw [List.length_map]; omega), if_pos (by rw [B_size]; omega), show (⟨#[34]⟩ : ByteArray) = B [34] from rfl, B_append]
  | succ d ih =>
    intro i a hd hi ha
    have hlt : i < ps.length := by omega
    obtain ⟨K, hK⟩ := quote_step ps i hlt hl (hp _ (List.getElem_mem hlt)) a (by omega)
    have h1 := one_le ps[i]
    obtain ⟨K2, hK2⟩ := ih (i + 1) (a ++ oneS ps[i]) (by omega) (by omega) (by rw [List.length_append]; omega)
    refine ⟨K + K2 + 2, fun k hk => ?_⟩
    obtain ⟨k, rfl⟩ : ∃ m, k = m + 2 := ⟨k - 2, by omega⟩
    show gussetref01_Quote.l0 (k + 2) (ps.map B) (B a) (i : Int) = _
    rw [hK k (by omega)]
    have := hK2 k (by omega)
    rw [List.drop_eq_getElem_cons hlt, List.flatMap_cons]
    rw [List.append_assoc] at this
    rw [List.append_assoc]
    exact this
theorem quote_q (l : L) (hl : l.length ≤ 536870912) : Ev (fun k => gussetref01_Quote.f k (B l)) (B (34 :: (qS l.length l ++ [34]))) := by
  obtain ⟨p1, p2, p3⟩ := runes_pieces l.length l (Nat.le_refl _)
  obtain ⟨b, hb⟩ := runes_l0 l.length l [] true (Nat.le_refl _) (by simp only [List.length_nil]; omega)
  unfold gussetref01_Quote.f
  refine Ev.bind (f := fun k bt => _) (show Ev (fun k => gussetref01_Runes.f k (B l)) _ from hb) ?_
  have := quoteq_l0 (runesS l.length l) (by omega) p1 (runesS l.length l).length 0 [34] rfl (Nat.zero_le _) (by simp)
  rw [List.drop_zero, p2] at this
  rw [List.nil_append]
  exact this
end Go.Proofs.YtbnpgobjbokboaaDoor.Lx
namespace Go.Proofs.YtbnpgobjbokboaaDoor.Lx
open Go.RowKit Go.Proofs.YtbnpgobjbokboaaDoor.PLex Go.Proofs.YtbnpgobjbokboaaDoorW.PrintWords Go.Proofs.YtbnpgobjbokboaaDoorW.PrintLast
set_option linter.unusedVariables false
set_option linter.unusedSimpArgs false
theorem lex_single {x : L} {t : T} {m : Nat} (h : lexS true x = .ok [(t, m)]) : ∃ r n, skipS x = (r, true) ∧ r ≠ [] ∧ tokS true r = .ok (t, n) ∧ m = r.length := by
  rcases hs : skipS x with ⟨r, b⟩
  cases b with
  | false => rw [lex_open hs] at h; cases h
  | true =>
    by_cases hr : r = []
    ·
     subst hr
     rw [lex_done hs] at h
     cases h
    cases ht : tokS true r with
    | error e => rw [lex_bad hs hr ht] at h; cases h
    | ok p =>
      rw [lex_step (t := p.1) (n := p.2) hs hr ht] at h
      obtain ⟨ts, _, h2⟩ := map_ok h
      injection h2 with h2 _
      injection h2 with h2 h3
      exact ⟨r, p.2, rfl, hr, by rw [ht, h2], h3⟩
def MatchX (e : S36) (x : L) : Prop := ∃ t m, lexS true x = .ok [(t, m)] ∧ e.f0 = (t.kind : Int) ∧ e.f1 = B t.text ∧ e.f2 = (t.n : Int)
theorem match_good (e : S36) (x : L) (hs : lex_text.s e.f0 e.f1 e.f2 = some (B x)) (h3 : e.f0 = 3 → x = Lib.itoa e.f2) (h4 : e.f0 = 4 → ∃ k l, l.length ≤ k ∧ x = 34 :: (qS k l ++ [34])) (h0 : e.f0 ≠ 3 → e.f0 ≠ 4 → e.f1 = B x) (h : MatchX e x) : ∃ p, Good e p ∧ p.1 = x := by
  obtain ⟨t, m, hlx, e0, e1, e2⟩ := h
  obtain ⟨r, n, hsk, hr, ht, rfl⟩ := lex_single hlx
  obtain ⟨t1, t2, _⟩ := tok_len ht
  obtain ⟨_, s2, _⟩ := skip_suffix x
  rw [hsk] at s2
  have hst : Stay r := (s2 rfl).resolve_left hr
  refine ⟨(x, t), ⟨hs, ?_, e0, e1, e2⟩, rfl⟩
  have hskx : ∀ y : L, Stay y → x = y → r = x := fun y hy hxy => by
    rw [hxy, skip_stay hy] at hsk
    rw [hxy]
    exact ((Prod.mk.inj hsk).1).symm
  rcases kind_text ht with ⟨k1, k2⟩ | ⟨k1, k2, k3, k4, c, q, hc, hd⟩ | ⟨k1, k2, k3⟩
  ·
   have hx := h0 (by omega) (by omega)
   rw [e1] at hx
   have hb := congrArg ByteArray.toList hx
   rw [B_toList, B_toList, k2] at hb
   have h6 := skip_le x
   rw [hsk] at h6
   simp only at h6
   have hl := congrArg List.length hb
   rw [List.length_take] at hl
   have hn : n = r.length := by omega
   rw [hn, List.take_length] at hb
   subst hb
   exact ⟨hst, by rw [ht, hn]⟩
  ·
   have hi := h3 (by omega)
   have hn0 : ¬ e.f2 < 0 := by omega
   unfold Lib.itoa at hi
   rw [if_neg hn0] at hi
   have hw := whole_num e.f2.toNat (by omega)
   have hrx := hskx _ hw.1 hi
   subst hrx
   have := hw.2
   rw [← hi] at this
   rw [ht] at this
   obtain ⟨rfl, rfl⟩ := Prod.mk.inj (Except.ok.inj this)
   exact ⟨hst, ht⟩
  obtain ⟨k, l, hk, hq⟩ := h4 (by omega)
  obtain ⟨q, hw, _⟩ := whole_quote k l hk
  have hrx := hskx _ hw.1 hq
  subst hrx
  have := hw.2
  rw [← hq] at this
  rw [ht] at this
  obtain ⟨rfl, rfl⟩ := Prod.mk.inj (Except.ok.inj this)
  exact ⟨hst, ht⟩
theorem good_match (e : S36) (p : L × T) (h : Good e p) : MatchX e p.1 := by
  obtain ⟨h1, h2, h3, h4, h5⟩ := h
  obtain ⟨w1, w2, w3⟩ := whole_cut h2 [] (Or.inl rfl)
  rw [List.append_nil] at w1 w2 w3
  refine ⟨p.2, p.1.length, ?_, h3, h4, h5⟩
  rw [lex_step w1 w2 w3, List.drop_length, lex_done skip_nil]
  rfl
def lookQ (e : S36) (x : ByteArray) (bt : List S36 × Int × Int) : Option (ByteArray × Bool) :=
  if bt.2.2 = 0 then (if (bt.1.length : Int) = 1 then (if 0 < (bt.1.length : Int) then (if ((rd_T36 bt.1 0).f0) = e.f0 then (if ((rd_T36 bt.1 0).f1).toList = e.f1.toList then (some (x, (((rd_T36 bt.1 0).f2) == e.f2))) else (some (x, false))) else (some (x, false))) else (none)) else (some (x, false))) else (some (x, false))
theorem look_q (e : S36) (x : L) (hx : x.length ≤ 1073741824) : ∃ b : Bool, Ev (fun k => (gussetref04_Lex.f k (B x) true).bind fun bt => lookQ e (B x) bt) (B x, b) ∧ (b = true ↔ MatchX e x) := by
  cases hlx : lexS true x with
  | error p =>
    obtain ⟨m, er⟩ := p
    obtain ⟨he, _, _⟩ := lex_err x m er hlx
    refine ⟨false, Ev.bind (f := fun k bt => lookQ e (B x) bt) (ref_ev true x hx) ?_, ?_⟩
    rotate_left
    ·
     refine ⟨(fun h => by cases h), fun h => ?_⟩
     obtain ⟨t, m, h1, _⟩ := h
     rw [hlx] at h1
     cases h1
    rw [hlx]
    show Ev (fun k => if ((er : Nat) : Int) = 0 then _ else some (B x, false)) _
    simp only [if_neg (show ¬ ((er : Nat) : Int) = 0 by omega)]
    exact Ev.now _
  | ok ts =>
    by_cases hone : ts.length = 1
    rotate_left
    ·
     refine ⟨false, Ev.bind (f := fun k bt => lookQ e (B x) bt) (ref_ev true x hx) ?_, ?_⟩
     rotate_left
     ·
      refine ⟨(fun h => by cases h), fun h => ?_⟩
      obtain ⟨t, m, h1, _⟩ := h
      rw [hlx] at h1
      have h1 := Except.ok.inj h1
      rw [h1] at hone
      exact absurd rfl hone
     rw [hlx]
     show Ev (fun k => if (0 : Int) = 0 then (if ((([] ++ ts.map (tok36 x.length)).length : Nat) : Int) = 1 then _ else some (B x, false)) else _) _
     simp only [List.nil_append, List.length_map, if_neg (show ¬ ((ts.length : Nat) : Int) = 1 by omega), if_true]
     exact Ev.now _
    obtain ⟨⟨t, m⟩, rfl⟩ := List.length_eq_one_iff.1 hone
    have hr : rd_T36 [tok36 x.length (t, m)] 0 = tok36 x.length (t, m) := rd_nat _ 0 (by simp)
    have hM : MatchX e x ↔ (e.f0 = (t.kind : Int) ∧ e.f1 = B t.text ∧ e.f2 = (t.n : Int)) := by
      constructor
      rotate_left
      ·
       exact fun h2 => ⟨t, m, hlx, h2⟩
      rintro ⟨t', m', h1, h2⟩
      rw [hlx] at h1
      have h1 := Except.ok.inj h1
      injection h1 with h1 _
      obtain ⟨rfl, rfl⟩ := Prod.mk.inj h1
      exact h2
    have hlook : lookQ e (B x) ([tok36 x.length (t, m)], 0, 0) = some (B x, decide (e.f0 = (t.kind : Int) ∧ e.f1 = B t.text ∧ e.f2 = (t.n : Int))) := by
      obtain ⟨l, hl⟩ : ∃ l, e.f1 = B l := ⟨_, (B_of e.f1).symm⟩
      unfold lookQ
      rw [if_pos rfl, if_pos (by simp), if_pos (by simp), hr]
      unfold tok36
      simp only [hl, B_toList]
      have hB : B l = B t.text ↔ l = t.text := ⟨fun h => by have := congrArg ByteArray.toList h; rwa [B_toList, B_toList] at this, fun h => by rw [h]⟩
      by_cases c0 : (t.kind : Int) = e.f0
      rotate_left
      ·
       rw [if_neg c0]
       congr 2
       rw [eq_comm, decide_eq_false_iff_not]
       exact fun h => c0 h.1.symm
      rw [if_pos c0]
      by_cases c1 : t.text = l
      rotate_left
      ·
       rw [if_neg c1]
       congr 2
       rw [eq_comm, decide_eq_false_iff_not, hB]
       exact fun h => c1 h.2.1.symm
      rw [if_pos c1]
      congr 2
      rw [Bool.eq_iff_iff, beq_iff_eq, decide_eq_true_eq, hB]
      exact ⟨fun h => ⟨c0.symm, c1.symm, h.symm⟩, fun h => h.2.2.symm⟩
    refine ⟨decide (e.f0 = (t.kind : Int) ∧ e.f1 = B t.text ∧ e.f2 = (t.n : Int)), Ev.bind (f := fun k bt => lookQ e (B x) bt) (ref_ev true x hx) ?_, ?_⟩
    rotate_left
    ·
     rw [decide_eq_true_eq, hM]
    rw [hlx]
    show Ev (fun k => lookQ e (B x) ([tok36 x.length (t, m)], 0, 0)) _
    rw [hlook]
    exact Ev.now _
theorem textq (e : S36) (hf : Fit e) : ∃ x : ByteArray, ∃ b : Bool, Ev (fun k => gussetref04_text.f k e.f0 e.f1 e.f2 e.f3) (x, b) ∧ (b = true → ∃ p, Good e p ∧ x = B p.1 ∧ p.1.length ≤ 6 * e.f1.size + 24) ∧ (b = false → ¬ ∃ p, Good e p) := by
  obtain ⟨x, hs, hx, h3, h4, h0⟩ := text_s e hf
  have hfs := hf.1
  have fin : ∀ b : Bool, (b = true ↔ MatchX e x) → (b = true → ∃ p, Good e p ∧ B x = B p.1 ∧ p.1.length ≤ 6 * e.f1.size + 24) ∧ (b = false → ¬ ∃ p, Good e p) := by
    intro b hb
    refine ⟨fun h => ?_, fun h hg => ?_⟩
    ·
     obtain ⟨p, hp, hpx⟩ := match_good e x hs h3 h4 h0 (hb.1 h)
     exact ⟨p, hp, by rw [hpx], by rw [hpx]; exact hx⟩
    obtain ⟨p, hp⟩ := hg
    have hpx : B p.1 = B x := Option.some.inj (hp.1.symm.trans hs)
    have := congrArg ByteArray.toList hpx
    rw [B_toList, B_toList] at this
    have hm := good_match e p hp
    rw [this] at hm
    rw [hb.2 hm] at h
    cases h
  obtain ⟨b, hev, hb⟩ := look_q e x (by omega)
  unfold gussetref04_text.f
  by_cases c3 : e.f0 = 3
  ·
   simp only [if_pos c3]
   by_cases hn : e.f2 < 0
   ·
    refine ⟨⟨#[]⟩, false, ?_, (fun h => by cases h), fun _ hg => ?_⟩
    ·
     simp only [if_pos hn]
     exact Ev.now _
    obtain ⟨p, hp⟩ := hg
    have := hp.2.2.2.2
    omega
   refine ⟨B x, b, ?_, fin b hb⟩
   simp only [if_neg hn]
   have hi := h3 c3
   unfold Lib.itoa at hi
   rw [if_neg hn] at hi
   have hd := digits_q e.f2.toNat (by have := hf.2.2; omega)
   rw [Int.toNat_of_nonneg (by omega), ← hi] at hd
   exact Ev.bind (f := fun k t425 => (gussetref04_Lex.f k t425 true).bind fun bt => lookQ e t425 bt) hd hev
  simp only [if_neg c3]
  by_cases c4 : e.f0 = 4
  rotate_left
  ·
   simp only [if_neg c4]
   refine ⟨B x, b, ?_, fin b hb⟩
   have := h0 c3 c4
   rw [← this] at hev
   rw [← this]
   exact hev
  simp only [if_pos c4]
  refine ⟨B x, b, ?_, fin b hb⟩
  obtain ⟨l, hl⟩ : ∃ l, e.f1 = B l := ⟨_, (B_of e.f1).symm⟩
  rw [hl, B_size] at hfs
  have hq := quote_q l (by omega)
  have hxq : B (34 :: (qS l.length l ++ [34])) = B x := by
    have := hs
    unfold lex_text.s at this
    rw [if_neg c3, if_pos c4, hl, quote_b l (by omega)] at this
    exact Option.some.inj this
  rw [hxq, ← hl] at hq
  exact Ev.bind (f := fun k t434 => (gussetref04_Lex.f k t434 true).bind fun bt => lookQ e t434 bt) hq hev
def tailS : List L → L
  | [] => []
  | x :: r => 32 :: (x ++ tailS r)
theorem joinS_cons : ∀ (x : L) (r : List L), joinS (x :: r) = x ++ tailS r
  | x, [] => by simp [joinS, tailS]
  | x, y :: r => by rw [joinS, joinS_cons y r, tailS]
theorem tailS_snoc : ∀ (q : List L) (x : L), tailS (q ++ [x]) = tailS q ++ 32 :: x
  | [], x => by simp [tailS]
  | y :: q, x => by
    show 32 :: (y ++ tailS (q ++ [x])) = 32 :: (y ++ tailS q) ++ 32 :: x
    rw [tailS_snoc q x]
    simp
theorem joinS_snoc (q : List L) (x : L) : joinS (q ++ [x]) = if q = [] then x else joinS q ++ 32 :: x := by
  cases q with
  | nil => rfl
  | cons y q =>
    rw [if_neg (by simp), List.cons_append, joinS_cons, joinS_cons, tailS_snoc, List.append_assoc]
theorem showq_l0 (es : List S36) (hi : es.length ≤ 1073741824) (hf : ∀ e ∈ es, Fit e) : ∀ (d i : Nat) (qs : List L), es.length - i = d → i ≤ es.length → qs.length = i → W qs + wt (es.drop i) ≤ 1073741824 →
    ∃ r, Ev (fun k => gussetref04_Show.l0 k es (bytesOf (B (joinS qs))) (i : Int)) r ∧ Ev (fun k => lex_Show.l0 k (qs.map B) es (es.length : Int) (i : Int)) r := by
  intro d
  induction d with
  | zero =>
    intro i qs hd hil hq hw
    refine ⟨_, Ev.step (f := fun _ => some (B (joinS qs))) (fun k => ?_) (Ev.now _), Ev.step (fun k => show_end k qs es i (by omega) (by omega)) (Ev.now _)⟩
    rw [gussetref04_Show.l0, if_neg (by omega), strOf_bytes]
  | succ d ih =>
    intro i qs hd hil hq hw
    have hlt : i < es.length := by omega
    rw [List.drop_eq_getElem_cons hlt] at hw
    have hwt : wt (es[i] :: es.drop (i + 1)) = (6 * es[i].f1.size + 25) + wt (es.drop (i + 1)) := by
      unfold wt
      rw [List.map_cons, List.sum_cons]
    have hql := W_len qs
    have hJ := joinS_le qs
    have hfi := hf _ (List.getElem_mem hlt)
    have hst : ∀ k, gussetref04_Show.l0 (k + 1) es (bytesOf (B (joinS qs))) (i : Int) = (gussetref04_text.f k es[i].f0 es[i].f1 es[i].f2 es[i].f3).bind fun bt452 => (if bt452.2 = true then (if (i : Int) > 0 then (if (bytesOf (B (joinS qs))).length < 140737488355328 then ((some (bytesOf (B (joinS qs)) ++ [32] : List Int)).bind fun y454 => (if y454.length + bt452.1.size < 140737488355328 then (gussetref04_Show.l0 k es (y454 ++ bytesOf bt452.1) (wrap64 ((i : Int) + 1))) else (none))) else (none)) else (if (bytesOf (B (joinS qs))).length + bt452.1.size < 140737488355328 then (gussetref04_Show.l0 k es (bytesOf (B (joinS qs)) ++ bytesOf bt452.1) (wrap64 ((i : Int) + 1))) else (none))) else (some (⟨#[]⟩ : ByteArray))) := fun k => by
      rw [gussetref04_Show.l0, if_pos (by omega), if_pos (by omega), rd_nat es i hlt]
    obtain ⟨x, b, hx, hg1, hg2⟩ := textq es[i] hfi
    cases b with
    | true =>
      obtain ⟨p, hp, rfl, hpl⟩ := hg1 rfl
      have hpl2 : p.1.length ≤ 1073741824 := by have := hfi.1; omega
      obtain ⟨r, h3, h4⟩ := ih (i + 1) (qs ++ [p.1]) (by omega) (by omega) (by rw [List.length_append]; simp; omega) (by rw [W_snoc]; omega)
      refine ⟨r, ?_, show_one qs es i hlt hi (by omega) p.1 r (text_good es[i] p hp hpl2) h4⟩
      refine Ev.step hst ?_
      refine Ev.bind (f := fun k bt452 => _) hx ?_
      have e32 : ([32] : List Int) = bytesOf (B [32]) := by decide
      simp only [if_true, Option.bind_some, bytes_len, B_size, List.length_append, List.length_cons, List.length_nil]
      rw [wrap_1 _ (by omega)]
      rw [joinS_snoc] at h3
      by_cases hz : qs = []
      ·
       have hi0 : i = 0 := by rw [← hq, hz]; rfl
       rw [if_pos hz] at h3
       simp only [if_neg (show ¬ (i : Int) > 0 by omega), if_pos (show (joinS qs).length + p.1.length < 140737488355328 by omega), strOf_app]
       rw [hz]
       exact h3
      have hi0 : 0 < i := by
        rw [← hq]
        exact List.length_pos_iff.2 hz
      rw [if_neg hz] at h3
      simp only [if_pos (show (i : Int) > 0 by omega), if_pos (show (joinS qs).length < 140737488355328 by omega), if_pos (show (joinS qs).length + (0 + 1) + p.1.length < 140737488355328 by omega), e32, strOf_app]
      rw [List.append_assoc]
      exact h3
    | false =>
      obtain ⟨r, h1, h2⟩ := text_any es[i] hfi
      rcases h2 with h2 | ⟨p, hg, _, _⟩
      rotate_left
      ·
       exact absurd ⟨p, hg⟩ (hg2 rfl)
      refine ⟨⟨#[]⟩, ?_, ?_⟩
      ·
       refine Ev.step hst ?_
       refine Ev.bind (f := fun k bt452 => _) hx ?_
       simp only [if_neg (show ¬ (false = true) by decide)]
       exact Ev.now _
      refine Ev.step (fun k => show_step k qs es i hlt (by omega)) ?_
      refine Ev.bind (f := fun k bt => _) h1 ?_
      simp only [h2, if_neg (show ¬ (false = true) by decide)]
      exact Ev.now _
end Go.Proofs.YtbnpgobjbokboaaDoor.Lx
