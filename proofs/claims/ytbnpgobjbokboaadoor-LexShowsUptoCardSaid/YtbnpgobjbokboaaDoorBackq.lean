/- Back, as this claim needs it. -/
import Derived.Test.YtbnpgobjbokboaaDoorPLexx2q
import Derived.Test.YtbnpgobjbokboaaDoorPLexx5q
import Derived.Test.YtbnpgobjbokboaaDoorPLexx6q
import Derived.Test.YtbnpgobjbokboaaDoorBriq
namespace Go.Proofs.YtbnpgobjbokboaaDoor.Lx
open Go.RowKit Go.Proofs.YtbnpgobjbokboaaDoor.PLex Go.Proofs.YtbnpgobjbokboaaDoorW.PrintWords Go.Proofs.YtbnpgobjbokboaaDoorW.PrintLast
set_option linter.unusedVariables false
set_option linter.unusedSimpArgs false
theorem encodeRune_b (n : Nat) (h : validN n) : Lib.encodeRune (n : Int) = enc n := by
  unfold validN at h
  have e : ∀ a : Nat, ((a : Int)).toNat.toUInt8 = UInt8.ofNat a := fun a => by rw [Int.toNat_natCast]
  unfold enc
  split
  ·
   rw [show Lib.encodeRune (n : Int) = [((n : Int)).toNat.toUInt8] by unfold Lib.encodeRune; rw [Lib.encodeRuneZ_one (by omega) (by omega)]; rfl, e]
  split
  ·
   unfold Lib.encodeRune
   rw [Lib.encodeRuneZ_two (by omega) (by omega), show (192 + (n : Int) / 64) = ((192 + n / 64 : Nat) : Int) by omega, show (128 + (n : Int) % 64) = ((128 + n % 64 : Nat) : Int) by omega]
   simp only [List.map_cons, List.map_nil, e]
  split
  ·
   unfold Lib.encodeRune
   rw [Lib.encodeRuneZ_three (by omega), show (224 + (n : Int) / 4096) = ((224 + n / 4096 : Nat) : Int) by omega, show (128 + (n : Int) / 64 % 64) = ((128 + n / 64 % 64 : Nat) : Int) by omega, show (128 + (n : Int) % 64) = ((128 + n % 64 : Nat) : Int) by omega]
   simp only [List.map_cons, List.map_nil, e]
  unfold Lib.encodeRune
  rw [show Lib.encodeRuneZ (n : Int) = [240 + (n : Int) / 262144, 128 + (n : Int) / 4096 % 64, 128 + (n : Int) / 64 % 64, 128 + (n : Int) % 64] by
    unfold Lib.encodeRuneZ
    rw [if_neg (by omega), if_neg (by omega), if_neg (by omega), if_pos (by omega)],
    show (240 + (n : Int) / 262144) = ((240 + n / 262144 : Nat) : Int) by omega, show (128 + (n : Int) / 4096 % 64) = ((128 + n / 4096 % 64 : Nat) : Int) by omega, show (128 + (n : Int) / 64 % 64) = ((128 + n / 64 % 64 : Nat) : Int) by omega, show (128 + (n : Int) % 64) = ((128 + n % 64 : Nat) : Int) by omega]
  simp only [List.map_cons, List.map_nil, e]
def oneS (l : L) : L :=
  if Bad l then 92 :: 117 :: 123 :: (hexU (nb l 0) ++ [125])
  else if (dec l).1 = 34 ∨ (dec l).1 = 92 then 92 :: enc (dec l).1
  else if (dec l).1 = 10 then [92, 110]
  else if (dec l).1 = 9 then [92, 116]
  else if (dec l).1 < 32 ∨ (dec l).1 = 127 then 92 :: 117 :: 123 :: (hexU (dec l).1 ++ [125])
  else enc (dec l).1
theorem bad_q (l : L) (i : Nat) (hi : l.drop i ≠ []) : ((Utf8.decode (B l) i).1 = 65533 ∧ runes_Quote.bad (B l) i = true) ↔ Bad (l.drop i) := by
  rw [decode_b]
  unfold runes_Quote.bad
  rw [B_drop, show ((B (l.drop i)).extract 0 3) = B ((l.drop i).take 3) from B_take _ 3, B_toList]
  generalize l.drop i = r at *
  have he : enc 65533 = [239, 191, 189] := by decide
  have hd : ∀ x : L, dec ([239, 191, 189] ++ x) = (65533, 3) := fun x => by rw [← he]; exact dec_enc (by unfold validN; omega) x
  constructor
  rotate_left
  ·
   intro hb
   have hb' : dec r = (65533, 1) := hb
   refine ⟨by rw [hb'], ?_⟩
   rw [Bool.not_eq_true', beq_eq_false_iff_ne]
   intro h3
   have h4 : r = [239, 191, 189] ++ r.drop 3 := by rw [← h3, List.take_append_drop]
   rw [h4, hd] at hb'
   cases hb'
  rintro ⟨h1, h2⟩
  by_cases hb : Bad r
  ·
   exact hb
  exfalso
  have h3 := (enc_dec hi hb).1
  rw [h1, he] at h3
  have h4 := (dec_width hi).2
  have h5 : (dec r).2 = 3 := by
    have := congrArg List.length h3
    rw [List.length_take, Nat.min_eq_left h4] at this
    exact this.symm
  rw [h5] at h3
  rw [← h3] at h2
  revert h2
  decide
theorem one_q (l : L) (i : Nat) (hi : l.drop i ≠ []) : runes_Quote.one (B l) i = oneS (l.drop i) := by
  unfold runes_Quote.one oneS
  have hbt : bt (B l) (i : Int) = (nb (l.drop i) 0 : Int) := by
    rw [B_bt]
    unfold nb
    rw [List.getD_eq_getElem?_getD, List.getD_eq_getElem?_getD, List.getElem?_drop]
    rfl
  by_cases hb : Bad (l.drop i)
  ·
   rw [if_pos ((bad_q l i hi).2 hb), if_pos hb, hbt, Int.toNat_natCast]
  rw [if_neg (fun h => hb ((bad_q l i hi).1 h)), if_neg hb, decode_b, encodeRune_b _ (enc_dec hi hb).2]
def qS : Nat → L → L
  | 0, _ => []
  | k + 1, l => if l = [] then [] else oneS l ++ qS k (l.drop (dec l).2)
theorem go_q (l : L) : ∀ (k i : Nat), runes_Quote.go (B l) k i = qS k (l.drop i) := by
  intro k
  induction k with
  | zero => intro i; rfl
  | succ k ih =>
    intro i
    rw [runes_Quote.go, qS]
    by_cases h : l.drop i = []
    ·
     have : ¬ i < (B l).size := by
       rw [B_size]
       have := List.drop_eq_nil_iff.1 h
       omega
     rw [if_neg this, if_pos h]
    have : i < (B l).size := by
      rw [B_size]
      exact Nat.lt_of_not_le fun x => h (List.drop_eq_nil_iff.2 x)
    rw [if_pos this, if_neg h, one_q l i h, ih, decode_b, List.drop_drop]
theorem quote_b (t : L) (h : t.length ≤ 1099511627776) : runes_Quote.f (B t) = some (B (34 :: (qS t.length t ++ [34]))) := by
  unfold runes_Quote.f
  rw [B_size, if_pos h, go_q]
  rfl
theorem hexU_all : ∀ u, u < 256 → hnum (hexU u) = u ∧ (∀ c ∈ hexU u, hx c = true) ∧ hexU u ≠ [] ∧ (hexU u).length ≤ 6 := by decide +kernel
theorem esc_hexU (u : Nat) (h : u < 256) (x : L) : escS (117 :: 123 :: (hexU u ++ 125 :: x)) = some (enc u, x) := by
  obtain ⟨h1, h2, h3, h4⟩ := hexU_all u h
  obtain ⟨t1, t2⟩ := takeWhile_hex (p := hx) (c := 125) h2 (by decide) x
  show Lx.escU (123 :: (hexU u ++ 125 :: x)) = _
  rw [escU_cons, t1, t2, h1, if_pos ⟨rfl, h3, h4, rfl, Or.inl (by omega)⟩]
  rfl
theorem unq_hexU (u : Nat) (h : u < 256) (x : L) : unqS 34 (92 :: 117 :: 123 :: (hexU u ++ [125]) ++ x) = (unqS 34 x).map fun p => (enc u ++ p.1, p.2) := by
  rw [show 92 :: 117 :: 123 :: (hexU u ++ [125]) ++ x = 92 :: (117 :: 123 :: (hexU u ++ 125 :: x)) by simp]
  exact unq_esc (by decide) (esc_hexU u h x)
theorem unq_one (l : L) (hne : l ≠ []) : ∃ u, (∀ x, unqS 34 (oneS l ++ x) = (unqS 34 x).map fun p => (u ++ p.1, p.2)) ∧ (¬ Bad l → u = l.take (dec l).2) := by
  by_cases hb : Bad l
  ·
   have hn : nb l 0 < 256 := by
     unfold nb
     exact UInt8.toNat_lt _
   refine ⟨enc (nb l 0), fun x => ?_, fun h => absurd hb h⟩
   unfold oneS
   rw [if_pos hb]
   exact unq_hexU _ hn x
  obtain ⟨h1, h2⟩ := enc_dec hne hb
  refine ⟨enc (dec l).1, fun x => ?_, fun _ => h1⟩
  unfold oneS
  rw [if_neg hb]
  generalize (dec l).1 = n at h2
  by_cases c1 : n = 34 ∨ n = 92
  ·
   rw [if_pos c1]
   rcases c1 with rfl | rfl
   rotate_left
   ·
    exact unq_esc (r := 92 :: x) (t := [92]) (z := x) (by decide) rfl
   exact unq_esc (r := 34 :: x) (t := [34]) (z := x) (by decide) rfl
  rw [if_neg c1]
  by_cases c2 : n = 10
  ·
   rw [if_pos c2, c2]
   exact unq_esc (r := 110 :: x) (t := [10]) (z := x) (by decide) rfl
  rw [if_neg c2]
  by_cases c3 : n = 9
  ·
   rw [if_pos c3, c3]
   exact unq_esc (r := 116 :: x) (t := [9]) (z := x) (by decide) rfl
  rw [if_neg c3]
  by_cases c4 : n < 32 ∨ n = 127
  ·
   rw [if_pos c4]
   exact unq_hexU n (by omega) x
  rw [if_neg c4]
  have hd := dec_enc h2 x
  have hbad := not_bad_enc h2 x
  obtain ⟨c, r, hr⟩ : ∃ c r, enc n ++ x = c :: r := by
    cases he : enc n with
    | nil => exact absurd he (enc_ne n)
    | cons c r => exact ⟨c, r ++ x, rfl⟩
  have hlt : (enc n ++ x).take (enc n).length = enc n := by rw [List.take_append_of_le_length (Nat.le_refl _), List.take_length]
  have hdr : (enc n ++ x).drop (enc n).length = x := drop_len _ _
  rw [hr] at hd hbad hlt hdr
  have a1 : c ≠ 34 := fun e => by
    rw [e, dec_1 (by decide)] at hd
    have := (Prod.mk.inj hd).1
    exact c1 (Or.inl this.symm)
  have a2 : c ≠ 92 := fun e => by
    rw [e, dec_1 (by decide)] at hd
    have := (Prod.mk.inj hd).1
    exact c1 (Or.inr this.symm)
  rw [hr, unq_step a1 a2 (by
    unfold BadQ
    rw [hd]
    simp only
    rintro (h | h | h)
    ·
     exact c2 h
    ·
     omega
    exact hbad h), hd, hdr, hlt]
theorem val_cons {l : L} (h : Val l) (hne : l ≠ []) : ¬ Bad l ∧ Val (l.drop (dec l).2) := by
  cases h with
  | nil => exact absurd rfl hne
  | rune hn hr =>
    refine ⟨not_bad_enc hn _, ?_⟩
    rw [dec_enc hn, drop_len]
    exact hr
theorem unq_quote : ∀ (k : Nat) (l : L), l.length ≤ k → ∃ t, (∀ x, unqS 34 (qS k l ++ 34 :: x) = some (t, x)) ∧ (Val l → t = l) := by
  intro k
  induction k with
  | zero =>
    intro l hl
    obtain rfl : l = [] := List.length_eq_zero_iff.1 (by omega)
    exact ⟨[], fun x => unq_end 34 x, fun _ => rfl⟩
  | succ k ih =>
    intro l hl
    rw [qS]
    by_cases h : l = []
    ·
     rw [if_pos h]
     exact ⟨[], fun x => unq_end 34 x, fun _ => h.symm⟩
    rw [if_neg h]
    have hw := dec_width h
    obtain ⟨t, ht, hv⟩ := ih (l.drop (dec l).2) (by rw [List.length_drop]; omega)
    obtain ⟨u, hu, huv⟩ := unq_one l h
    refine ⟨u ++ t, fun x => ?_, fun hval => ?_⟩
    ·
     rw [List.append_assoc, hu, ht]
     rfl
    obtain ⟨hb, hr⟩ := val_cons hval h
    rw [huv hb, hv hr, List.take_append_drop]
end Go.Proofs.YtbnpgobjbokboaaDoor.Lx
namespace Go.Proofs.YtbnpgobjbokboaaDoor.Lx
open Go.RowKit Go.Proofs.YtbnpgobjbokboaaDoor.PLex Go.Proofs.YtbnpgobjbokboaaDoorW.PrintWords Go.Proofs.YtbnpgobjbokboaaDoorW.PrintLast
set_option linter.unusedVariables false
set_option linter.unusedSimpArgs false
theorem dec_digits (u : Nat) : (∀ c ∈ Lib.decDigits u, dig c = true) ∧ val (Lib.decDigits u) = u ∧ Lib.decDigits u ≠ [] ∧ ((Lib.decDigits u).head? = some 48 → u = 0) := by
  have one : ∀ d, d < 10 → dig (UInt8.ofNat (48 + d)) = true ∧ (UInt8.ofNat (48 + d)).toNat - 48 = d ∧ (UInt8.ofNat (48 + d) = 48 → d = 0) := by decide
  induction u using Nat.strongRecOn with
  | _ u ih =>
    by_cases h : u < 10
    ·
     rw [Lib.decDigits, dif_pos h]
     obtain ⟨h1, h2, h3⟩ := one u h
     refine ⟨fun c hc => by rw [List.mem_singleton.1 hc]; exact h1, ?_, by simp, fun e => h3 (Option.some.inj e)⟩
     unfold val
     simp only [List.foldl_cons, List.foldl_nil]
     omega
    rw [Lib.decDigits, dif_neg h]
    obtain ⟨i1, i2, i3, i4⟩ := ih (u / 10) (by omega)
    obtain ⟨h1, h2, h3⟩ := one (u % 10) (by omega)
    refine ⟨fun c hc => ?_, ?_, by simp, fun e => ?_⟩
    ·
     rcases List.mem_append.1 hc with hc | hc
     ·
      exact i1 c hc
     rw [List.mem_singleton.1 hc]; exact h1
    ·
     unfold val at i2 ⊢
     rw [List.foldl_append, i2]
     simp only [List.foldl_cons, List.foldl_nil]
     omega
    exfalso
    cases hd : Lib.decDigits (u / 10) with
    | nil => exact i3 hd
    | cons a b =>
      rw [hd] at e i4
      have := i4 e
      omega
theorem digs_while {x : L} (h : ∀ c ∈ x, dig c = true) : x.takeWhile dig = x ∧ x.dropWhile dig = [] := by
  have := takeWhile_app (p := dig) (a := x) (y := []) h (fun c r e => by cases e)
  rw [List.append_nil] at this
  exact this
def Whole (x : L) (t : T) : Prop := Stay x ∧ tokS true x = .ok (t, x.length)
theorem dig_stay {c : UInt8} (h : dig c = true) (r : L) : Stay (c :: r) := by
  unfold dig at h
  simp only [Bool.and_eq_true, decide_eq_true_eq] at h
  refine ⟨c, r, rfl, ?_, fun e => ?_⟩
  rotate_left
  ·
   rw [e.1] at h
   exact absurd h.1 (by decide)
  unfold blank
  simp only [Bool.or_eq_false_iff, beq_eq_false_iff_ne]
  omega
theorem name_dig {s : Bool} {c : UInt8} {r : L} (h : dig c = true) : nameS s (c :: r) = 0 := by
  by_cases h0 : nameS s (c :: r) = 0
  ·
   exact h0
  obtain ⟨d, q, e, _, _, _, h5⟩ := name_head h0
  injection e with e1 e2
  rw [e1, h5] at h
  cases h
theorem name_quote {s : Bool} {r : L} : nameS s (34 :: r) = 0 := by
  by_cases h0 : nameS s (34 :: r) = 0
  ·
   exact h0
  obtain ⟨d, q, e, _, _, h4, _⟩ := name_head h0
  injection e with e1 e2
  exact absurd (Or.inl e1.symm) h4
theorem whole_num (u : Nat) (h : u ≤ 9007199254740991) : Whole (Lib.decDigits u) ⟨3, [], u⟩ := by
  obtain ⟨h1, h2, h3, h4⟩ := dec_digits u
  obtain ⟨w1, w2⟩ := digs_while h1
  have hnot : ¬ (1 < (Lib.decDigits u).length ∧ (Lib.decDigits u).head? = some 48) := by
    rintro ⟨a, b⟩
    have := h4 b
    subst this
    rw [Lib.decDigits, dif_pos (by omega)] at a
    simp at a
  generalize Lib.decDigits u = x at *
  match x with
  | [] => exact absurd rfl h3
  | c :: r =>
    have hd : dig c = true := h1 c (by simp)
    refine ⟨dig_stay hd r, ?_⟩
    rw [tok_num (name_dig hd) hd]
    unfold numS
    rw [w1, w2, if_neg, if_neg (by omega), h2]
    rintro (a | a)
    rotate_left
    ·
     exact a rfl
    exact hnot a
theorem whole_quote (k : Nat) (l : L) (hk : l.length ≤ k) : ∃ t, Whole (34 :: (qS k l ++ [34])) ⟨4, t, 0⟩ ∧ (Val l → t = l) := by
  obtain ⟨t, h1, h2⟩ := unq_quote k l hk
  refine ⟨t, ⟨⟨34, _, rfl, by decide, fun e => absurd e.1 (by decide)⟩, ?_⟩, h2⟩
  rw [tok_text name_quote (by decide) (Or.inl rfl), h1 []]
  rfl
theorem stay_take {r : L} (h : Stay r) (n : Nat) (hn : 0 < n) (y : L) (hy : Cut y) : Stay (r.take n ++ y) := by
  obtain ⟨c, q, rfl, h1, h2⟩ := h
  obtain ⟨m, rfl⟩ : ∃ m, n = m + 1 := ⟨n - 1, by omega⟩
  refine ⟨c, q.take m ++ y, rfl, h1, fun e => h2 ⟨e.1, ?_⟩⟩
  have e2 := e.2
  have hc : y.head? ≠ some 47 ∧ y.head? ≠ some 42 := by
    rcases hy with rfl | ⟨z, rfl⟩ <;> exact ⟨by simp, by simp⟩
  cases hq : q.take m with
  | nil =>
    rw [hq, List.nil_append] at e2
    exact (e2.elim hc.1 hc.2).elim
  | cons d z =>
    rw [hq] at e2
    have hq2 : q.head? = some d := by
      cases q with
      | nil => simp at hq
      | cons a b =>
        cases m with
        | zero => simp at hq
        | succ m =>
          rw [List.take_succ_cons] at hq
          injection hq with hq _
          rw [hq]
          rfl
    rw [hq2]
    exact e2
theorem whole_cut {x : L} {t : T} (h : Whole x t) (y : L) (hy : Cut y) : skipS (x ++ y) = (x ++ y, true) ∧ x ++ y ≠ [] ∧ tokS true (x ++ y) = .ok (t, x.length) := by
  obtain ⟨h1, h2⟩ := h
  obtain ⟨c, r, hx, h3, h4⟩ := h1
  have hpos : 0 < x.length := by rw [hx]; simp
  have hst := stay_take ⟨c, r, hx, h3, h4⟩ x.length hpos y hy
  rw [List.take_length] at hst
  refine ⟨skip_stay hst, by rw [hx]; simp, ?_⟩
  have := tok_local h2 (c := []) (z := []) (y := y) (by rw [List.drop_length]; rfl) hy
  rw [List.take_length, List.nil_append] at this
  exact this
def joinS : List L → L
  | [] => []
  | [x] => x
  | x :: y :: r => x ++ 32 :: joinS (y :: r)
theorem lex_one {x : L} {t : T} {m : Nat} (h : lexS true x = .ok [(t, m)]) (hm : x.length ≤ m) : Stay x ∧ ∃ n, tokS true x = .ok (t, n) := by
  have h6 := skip_le x
  obtain ⟨_, s2, _⟩ := skip_suffix x
  rcases hs : skipS x with ⟨r, b⟩
  cases b with
  | false => rw [lex_open hs] at h; cases h
  | true =>
    by_cases hr : r = []
    ·
     subst hr
     rw [lex_done hs] at h
     cases h
    cases ht : tokS true r with
    | error e => rw [lex_bad hs hr ht] at h; cases h
    | ok p =>
      rw [lex_step (t := p.1) (n := p.2) hs hr ht] at h
      obtain ⟨ts, _, h2⟩ := map_ok h
      injection h2 with h2 _
      injection h2 with h2 h3
      obtain ⟨a, ha⟩ := skip_split hs
      have hl : a = [] := by
        have := congrArg List.length ha
        rw [List.length_append] at this
        exact List.length_eq_zero_iff.1 (by omega)
      rw [hl, List.nil_append] at ha
      subst ha
      rw [hs] at s2
      refine ⟨(s2 rfl).resolve_left hr, p.2, ?_⟩
      rw [ht, h2]
theorem kind_text {s : Bool} {l : L} {t : T} {n : Nat} (h : tokS s l = .ok (t, n)) : ((t.kind = 1 ∨ t.kind = 2 ∨ t.kind = 5) ∧ t.text = l.take n) ∨ (t.kind = 3 ∧ t.text = [] ∧ n = (l.takeWhile dig).length ∧ t.n ≤ 9007199254740991 ∧ ∃ c r, l = c :: r ∧ dig c = true) ∨ (t.kind = 4 ∧ t.n = 0 ∧ Val t.text) := by
  rcases tok_cases h with ⟨h0, rfl, rfl⟩ | ⟨h0, ⟨d, r, hl, hdg⟩, h1, h2, rfl, rfl⟩ | ⟨h0, d, r, z', rfl, hdg, hc, hu, ht, rfl⟩ | ⟨h0, d, r, g, rfl, hdg, hc, hf, rfl, rfl⟩
  ·
   refine Or.inl ⟨?_, rfl⟩
   show (if _ then 2 else 1) = 1 ∨ (if _ then 2 else 1) = 2 ∨ (if _ then 2 else 1) = 5
   split
   rotate_left
   ·
    exact Or.inl rfl
   exact Or.inr (Or.inl rfl)
  ·
   exact Or.inr (Or.inl ⟨rfl, rfl, rfl, h2, d, r, hl, hdg⟩)
  ·
   have hv := (unq_local r t.text z' hu).2
   rw [ht]
   exact Or.inr (Or.inr ⟨rfl, rfl, hv⟩)
  obtain ⟨hp, _⟩ := List.find?_eq_some_iff_append.1 hf
  rw [List.isPrefixOf_iff_prefix, List.prefix_iff_eq_take] at hp
  exact Or.inl ⟨Or.inr (Or.inr rfl), hp⟩
end Go.Proofs.YtbnpgobjbokboaaDoor.Lx
namespace Go.Proofs.YtbnpgobjbokboaaDoor.Lx
open Go.RowKit Go.Proofs.YtbnpgobjbokboaaDoor.PLex Go.Proofs.YtbnpgobjbokboaaDoorW.PrintWords Go.Proofs.YtbnpgobjbokboaaDoorW.PrintLast
set_option linter.unusedVariables false
set_option linter.unusedSimpArgs false
theorem digits_le : ∀ (k u : Nat), u < 10 ^ (k + 1) → (Lib.decDigits u).length ≤ k + 1 := by
  intro k
  induction k with
  | zero =>
    intro u h
    rw [Lib.decDigits, dif_pos (by simpa using h)]
    exact Nat.le_refl _
  | succ k ih =>
    intro u h
    rw [Lib.decDigits]
    split
    ·
     simp
    rw [List.length_append]
    have := ih (u / 10) (by rw [Nat.pow_succ] at h; omega)
    simp only [List.length_cons, List.length_nil]
    omega
theorem itoa_le (n : Int) (h1 : -9223372036854775808 ≤ n) (h2 : n ≤ 9223372036854775807) : (Lib.itoa n).length ≤ 21 := by
  unfold Lib.itoa
  split
  rotate_left
  ·
   have := digits_le 19 n.toNat (by omega)
   omega
  have := digits_le 19 n.natAbs (by omega)
  rw [List.length_cons]
  omega
theorem encLe (n : Nat) : (enc n).length ≤ 4 := by
  unfold enc
  repeat' split
  all_goals simp
theorem hexLe (u : Nat) : (hexU u).length ≤ 2 := by unfold hexU; split <;> simp
theorem one_le (l : L) : (oneS l).length ≤ 6 := by
  have h1 := hexLe (nb l 0)
  have h2 := hexLe (dec l).1
  have h3 := encLe (dec l).1
  unfold oneS
  repeat' split
  all_goals try simp only [List.length_cons, List.length_append, List.length_nil]
  all_goals omega
theorem qS_le : ∀ (k : Nat) (l : L), (qS k l).length ≤ 6 * l.length := by
  intro k
  induction k with
  | zero => intro l; exact Nat.zero_le _
  | succ k ih =>
    intro l
    rw [qS]
    by_cases h : l = []
    ·
     rw [if_pos h]
     exact Nat.zero_le _
    rw [if_neg h, List.length_append]
    have h1 := one_le l
    have h2 := ih (l.drop (dec l).2)
    have h3 := dec_width h
    rw [List.length_drop] at h2
    omega
def Good (e : S36) (p : L × T) : Prop := lex_text.s e.f0 e.f1 e.f2 = some (B p.1) ∧ Whole p.1 p.2 ∧ e.f0 = (p.2.kind : Int) ∧ e.f1 = B p.2.text ∧ e.f2 = (p.2.n : Int)
def Fit (e : S36) : Prop := e.f1.size ≤ 1048576 ∧ -9223372036854775808 ≤ e.f2 ∧ e.f2 ≤ 9223372036854775807
theorem text_s (e : S36) (h : Fit e) : ∃ x, lex_text.s e.f0 e.f1 e.f2 = some (B x) ∧ x.length ≤ 6 * e.f1.size + 24 ∧
    (e.f0 = 3 → x = Lib.itoa e.f2) ∧ (e.f0 = 4 → ∃ k l, l.length ≤ k ∧ x = 34 :: (qS k l ++ [34])) ∧ (e.f0 ≠ 3 → e.f0 ≠ 4 → e.f1 = B x) := by
  obtain ⟨h1, h2, h3⟩ := h
  obtain ⟨l, hl⟩ : ∃ l, e.f1 = B l := ⟨_, (B_of e.f1).symm⟩
  rw [hl, B_size] at h1
  unfold lex_text.s
  by_cases c3 : e.f0 = 3
  ·
   rw [if_pos c3]
   unfold strconv_Itoa_40.f
   rw [if_pos ⟨h2, h3⟩]
   refine ⟨_, rfl, ?_, fun _ => rfl, fun c => by omega, fun c => absurd c3 c⟩
   have := itoa_le e.f2 h2 h3
   omega
  rw [if_neg c3]
  by_cases c4 : e.f0 = 4
  rotate_left
  ·
   rw [if_neg c4]
   refine ⟨l, by rw [hl], ?_, fun c => absurd c c3, fun c => absurd c c4, fun _ _ => hl⟩
   rw [hl, B_size]
   omega
  rw [if_pos c4, hl, quote_b l (by omega)]
  refine ⟨_, rfl, ?_, fun c => absurd c c3, fun _ => ⟨l.length, l, Nat.le_refl _, rfl⟩, fun _ c => absurd c4 c⟩
  have := qS_le l.length l
  rw [B_size]
  simp only [List.length_cons, List.length_append, List.length_nil]
  omega
theorem text_good (e : S36) (p : L × T) (h : Good e p) (hl : p.1.length ≤ 1073741824) : Ev (fun k => lex_text.f k e.f0 e.f1 e.f2 e.f3) (B p.1, true) := by
  obtain ⟨h1, h2, h3, h4, h5⟩ := h
  obtain ⟨w1, w2, w3⟩ := whole_cut h2 [] (Or.inl rfl)
  rw [List.append_nil] at w1 w2 w3
  have hx : lexS true p.1 = .ok [(p.2, p.1.length)] := by
    rw [lex_step w1 w2 w3, List.drop_length, lex_done skip_nil]
    rfl
  unfold lex_text.f
  simp only [h1, Option.bind_some]
  refine Ev.bind (f := fun k b => _) (lex_ev true p.1 hl) ?_
  rw [hx]
  show Ev (fun k => if (0 : Int) = 0 then (if ([tok36 p.1.length (p.2, p.1.length)] : List S36).length = 1 then (if ((rd_T36 [tok36 p.1.length (p.2, p.1.length)] 0).f0 == e.f0 && ((rd_T36 [tok36 p.1.length (p.2, p.1.length)] 0).f1.toList == e.f1.toList && (rd_T36 [tok36 p.1.length (p.2, p.1.length)] 0).f2 == e.f2)) = true then some (B p.1, (rd_T36 [tok36 p.1.length (p.2, p.1.length)] 0).f3 == 0) else some (B p.1, false)) else some (⟨#[]⟩, false)) else some (⟨#[]⟩, false)) _
  have hr : rd_T36 [tok36 p.1.length (p.2, p.1.length)] 0 = tok36 p.1.length (p.2, p.1.length) := rd_nat _ 0 (by simp)
  rw [hr]
  unfold tok36
  simp only [h3, h4, h5, Nat.sub_self, List.length_cons, List.length_nil, beq_self_eq_true, Bool.and_self, if_true]
  exact Ev.now _
theorem text_any (e : S36) (h : Fit e) : ∃ r, Ev (fun k => lex_text.f k e.f0 e.f1 e.f2 e.f3) r ∧ (r.2 = false ∨ ∃ p, Good e p ∧ r = (B p.1, true) ∧ p.1.length ≤ 6 * e.f1.size + 24) := by
  obtain ⟨x, hs, hx, h3, h4, h0⟩ := text_s e h
  have hxl : x.length ≤ 1073741824 := by have := h.1; omega
  have key : ∀ t m, lexS true x = .ok [(t, m)] → x.length ≤ m → e.f0 = (t.kind : Int) → e.f1 = B t.text → e.f2 = (t.n : Int) → Good e (x, t) := by
    intro t m hlx hm e0 e1 e2
    obtain ⟨hst, n, hn⟩ := lex_one hlx hm
    obtain ⟨t1, t2, _⟩ := tok_len hn
    refine ⟨hs, ⟨hst, ?_⟩, e0, e1, e2⟩
    rcases kind_text hn with ⟨k1, k2⟩ | ⟨k1, k2, k3, k4, c, r, hc, hd⟩ | ⟨k1, k2, k3⟩
    ·
     have := h0 (by omega) (by omega)
     rw [e1] at this
     have hb := congrArg ByteArray.toList this
     rw [B_toList, B_toList, k2] at hb
     have := congrArg List.length hb
     rw [List.length_take] at this
     rw [hn]
     congr 2
     show n = x.length
     omega
    ·
     have hi := h3 (by omega)
     unfold Lib.itoa at hi
     split at hi
     ·
      rw [hc] at hi
      injection hi with hi _
      rw [hi] at hd
      exact absurd hd (by decide)
     obtain ⟨d1, _⟩ := dec_digits e.f2.toNat
     rw [← hi] at d1
     rw [hn, k3, (digs_while d1).1]
    obtain ⟨k, l, hk, hq⟩ := h4 (by omega)
    obtain ⟨q, hw, _⟩ := whole_quote k l hk
    rw [← hq] at hw
    have := hw.2
    rw [hn] at this
    obtain ⟨_, rfl⟩ := Prod.mk.inj (Except.ok.inj this)
    exact hn
  unfold lex_text.f
  simp only [hs, Option.bind_some]
  cases hlx : lexS true x with
  | error p =>
    obtain ⟨m, er⟩ := p
    obtain ⟨he, _, _⟩ := lex_err x m er hlx
    refine ⟨(⟨#[]⟩, false), Ev.bind (f := fun k b => _) (lex_ev true x hxl) ?_, Or.inl rfl⟩
    rw [hlx]
    show Ev (fun k => if ((er : Nat) : Int) = 0 then _ else some ((⟨#[]⟩ : ByteArray), false)) _
    simp only [if_neg (show ¬ ((er : Nat) : Int) = 0 by omega)]
    exact Ev.now _
  | ok ts =>
    by_cases hone : ts.length = 1
    rotate_left
    ·
     refine ⟨(⟨#[]⟩, false), Ev.bind (f := fun k b => _) (lex_ev true x hxl) ?_, Or.inl rfl⟩
     rw [hlx]
     show Ev (fun k => if (0 : Int) = 0 then (if ([] ++ ts.map (tok36 x.length)).length = 1 then _ else some ((⟨#[]⟩ : ByteArray), false)) else _) _
     simp only [List.nil_append, List.length_map, if_neg hone, if_true]
     exact Ev.now _
    obtain ⟨⟨t, m⟩, rfl⟩ := List.length_eq_one_iff.1 hone
    have hr : rd_T36 [tok36 x.length (t, m)] 0 = tok36 x.length (t, m) := rd_nat _ 0 (by simp)
    by_cases hc : ((rd_T36 [tok36 x.length (t, m)] 0).f0 == e.f0 && ((rd_T36 [tok36 x.length (t, m)] 0).f1.toList == e.f1.toList && (rd_T36 [tok36 x.length (t, m)] 0).f2 == e.f2)) = true
    rotate_left
    ·
     refine ⟨(B x, false), Ev.bind (f := fun k b => _) (lex_ev true x hxl) ?_, Or.inl rfl⟩
     rw [hlx]
     show Ev (fun k => if (0 : Int) = 0 then (if ([tok36 x.length (t, m)] : List S36).length = 1 then (if ((rd_T36 [tok36 x.length (t, m)] 0).f0 == e.f0 && ((rd_T36 [tok36 x.length (t, m)] 0).f1.toList == e.f1.toList && (rd_T36 [tok36 x.length (t, m)] 0).f2 == e.f2)) = true then some (B x, (rd_T36 [tok36 x.length (t, m)] 0).f3 == 0) else some (B x, false)) else some (⟨#[]⟩, false)) else some (⟨#[]⟩, false)) _
     simp only [if_neg hc, List.length_cons, List.length_nil, if_true]
     exact Ev.now _
    refine ⟨(B x, (rd_T36 [tok36 x.length (t, m)] 0).f3 == 0), Ev.bind (f := fun k b => _) (lex_ev true x hxl) ?_, ?_⟩
    ·
     rw [hlx]
     show Ev (fun k => if (0 : Int) = 0 then (if ([tok36 x.length (t, m)] : List S36).length = 1 then (if ((rd_T36 [tok36 x.length (t, m)] 0).f0 == e.f0 && ((rd_T36 [tok36 x.length (t, m)] 0).f1.toList == e.f1.toList && (rd_T36 [tok36 x.length (t, m)] 0).f2 == e.f2)) = true then some (B x, (rd_T36 [tok36 x.length (t, m)] 0).f3 == 0) else some (B x, false)) else some (⟨#[]⟩, false)) else some (⟨#[]⟩, false)) _
     simp only [hc, List.length_cons, List.length_nil, if_true]
     exact Ev.now _
    by_cases hz : ((rd_T36 [tok36 x.length (t, m)] 0).f3 == 0) = true
    rotate_left
    ·
     left
     simpa using hz
    right
    rw [hr] at hc hz
    unfold tok36 at hc hz
    simp only [Bool.and_eq_true, beq_iff_eq] at hc hz
    obtain ⟨c1, c2, c3⟩ := hc
    refine ⟨(x, t), key t m hlx (by omega) c1.symm ?_ c3.symm, ?_, hx⟩
    rotate_left
    ·
     rw [hr]
     unfold tok36
     simp only [hz, beq_self_eq_true]
    obtain ⟨l, hl⟩ : ∃ l, e.f1 = B l := ⟨_, (B_of e.f1).symm⟩
    rw [hl] at c2 ⊢
    rw [B_toList, B_toList] at c2
    rw [c2]
end Go.Proofs.YtbnpgobjbokboaaDoor.Lx
namespace Go.Proofs.YtbnpgobjbokboaaDoor.Lx
open Go.RowKit Go.Proofs.YtbnpgobjbokboaaDoor.PLex Go.Proofs.YtbnpgobjbokboaaDoorW.PrintWords Go.Proofs.YtbnpgobjbokboaaDoorW.PrintLast
set_option linter.unusedVariables false
set_option linter.unusedSimpArgs false
def wt (es : List S36) : Nat := (es.map fun e => 6 * e.f1.size + 25).sum
def W (qs : List L) : Nat := (qs.map fun q => q.length + 1).sum
theorem join_eq : ∀ (qs : List L), Lib.join qs [32] = joinS qs
  | [] => rfl
  | [x] => Lib.join_one x [32]
  | x :: y :: r => by
    have ih := join_eq (y :: r)
    unfold Lib.join at ih ⊢
    rw [joinS, ← ih]
    rfl
theorem joinS_le : ∀ (qs : List L), (joinS qs).length ≤ W qs
  | [] => Nat.zero_le _
  | [x] => by simp [joinS, W]
  | x :: y :: r => by
    have ih := joinS_le (y :: r)
    rw [joinS]
    unfold W at ih ⊢
    rw [List.map_cons, List.sum_cons, List.length_append, List.length_cons]
    omega
theorem W_len (qs : List L) : qs.length ≤ W qs := by
  induction qs with
  | nil => exact Nat.zero_le _
  | cons a b ih =>
    unfold W at ih ⊢
    rw [List.map_cons, List.sum_cons, List.length_cons]
    omega
theorem W_snoc (qs : List L) (q : L) : W (qs ++ [q]) = W qs + (q.length + 1) := by
  unfold W
  rw [List.map_append, List.sum_append]
  rfl
theorem join_f (qs : List L) (h : W qs ≤ 1073741824) : strings_Join.f (qs.map B) (⟨#[32]⟩ : ByteArray) = some (B (joinS qs)) := by
  have e : (qs.map B).map (·.data.toList) = qs := by
    rw [List.map_map]
    conv => rhs; rw [← List.map_id qs]
    apply List.map_congr_left
    intro a _
    rfl
  have h1 := W_len qs
  have h2 := joinS_le qs
  unfold strings_Join.f
  rw [e, List.length_map, show (⟨#[32]⟩ : ByteArray).data.toList = [32] from rfl, join_eq, if_pos ⟨by omega, by omega⟩]
  rfl
theorem show_end (k : Nat) (qs : List L) (es : List S36) (i : Nat) (h : es.length ≤ i) (hw : W qs ≤ 1073741824) : lex_Show.l0 (k + 1) (qs.map B) es (es.length : Int) (i : Int) = some (B (joinS qs)) := by
  rw [lex_Show.l0, if_neg (by omega), join_f qs hw]
  rfl
theorem show_step (k : Nat) (qs : List L) (es : List S36) (i : Nat) (h : i < es.length) (hq : qs.length ≤ 1073741824) : lex_Show.l0 (k + 1) (qs.map B) es (es.length : Int) (i : Int) = (lex_text.f k es[i].f0 es[i].f1 es[i].f2 es[i].f3).bind fun bt => (if bt.2 = true then lex_Show.l0 k (qs.map B ++ [bt.1]) es (es.length : Int) (wrap64 ((i : Int) + 1)) else some (⟨#[]⟩ : ByteArray)) := by
  rw [lex_Show.l0, if_pos (by omega), if_pos (by omega), if_pos (by omega), rd_nat es i h]
  have : (qs.map B).length < 8796093022208 := by rw [List.length_map]; omega
  simp only [if_pos this]
theorem show_one (qs : List L) (es : List S36) (i : Nat) (h : i < es.length) (hi : es.length ≤ 1073741824) (hq : qs.length ≤ 1073741824) (x : L) (r : ByteArray) (ht : Ev (fun k => lex_text.f k es[i].f0 es[i].f1 es[i].f2 es[i].f3) (B x, true)) (hk : Ev (fun k => lex_Show.l0 k ((qs ++ [x]).map B) es (es.length : Int) ((i + 1 : Nat) : Int)) r) : Ev (fun k => lex_Show.l0 k (qs.map B) es (es.length : Int) (i : Int)) r := by
  refine Ev.step (fun k => show_step k qs es i h hq) ?_
  refine Ev.bind (f := fun k bt => _) ht ?_
  simp only [if_true]
  rw [wrap_1 _ (by omega)]
  rw [List.map_append] at hk
  exact hk
end Go.Proofs.YtbnpgobjbokboaaDoor.Lx
