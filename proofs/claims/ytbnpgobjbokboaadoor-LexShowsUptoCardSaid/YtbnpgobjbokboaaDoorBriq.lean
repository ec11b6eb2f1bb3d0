/- Bri, as this claim needs it. -/
import Derived.Test.YtbnpgobjbokboaaDoorPLexx1q
import Derived.Test.YtbnpgobjbokboaaDoorPLexx2q
import Derived.Test.YtbnpgobjbokboaaDoorPLexx3q
import Derived.Test.YtbnpgobjbokboaaDoorPLexx4q
import Derived.Test.YtbnpgobjbokboaaDoorPLexx5q
import Derived.Test.YtbnpgobjbokboaaDoorPLexx7q
import Derived.Test.YtbnpgobjbokboaaDoorPLexx8q
import Derived.Test.YtbnpgobjbokboaaDoorPLexx0q
import Derived.Test.YtbnpgobjbokboaaDoorLxq
import Derived.Lib.Index
import Derived.Lib.ParseIntB
import Derived.KernelRfl
namespace Go.Proofs.YtbnpgobjbokboaaDoor.Lx
open Go.RowKit Go.Proofs.YtbnpgobjbokboaaDoor.PLex Go.Proofs.YtbnpgobjbokboaaDoorW.PrintWords Go.Proofs.YtbnpgobjbokboaaDoorW.PrintLast
set_option linter.unusedVariables false
set_option linter.unusedSimpArgs false
def B (l : L) : ByteArray := ⟨l.toArray⟩
theorem B_data (l : L) : (B l).data.toList = l := rfl
theorem B_toList (l : L) : (B l).toList = l := by rw [Lib.toList_data]; rfl
theorem B_size (l : L) : (B l).size = l.length := by show l.toArray.size = _; simp
theorem B_of (s : ByteArray) : B s.data.toList = s := by
  apply ByteArray.ext
  simp [B]
theorem B_extract (l : L) (a b : Nat) : (B l).extract a b = B ((l.drop a).take (b - a)) := by
  apply ByteArray.ext
  apply Array.toList_inj.1
  rw [Lib.extract_data]
  rfl
theorem B_drop (l : L) (a : Nat) : (B l).extract a (B l).size = B (l.drop a) := by
  rw [B_extract, B_size, List.take_of_length_le (by rw [List.length_drop]; omega)]
theorem B_take (l : L) (a : Nat) : (B l).extract 0 a = B (l.take a) := by
  rw [B_extract, List.drop_zero]
  rfl
theorem B_bt (l : L) (i : Nat) : bt (B l) (i : Int) = (nb l i : Int) := by
  unfold bt nb
  rw [Int.toNat_natCast]
  by_cases h : i < l.length
  rotate_left
  ·
   rw [dif_neg (by rw [B_size]; exact h), List.getD_eq_getElem?_getD, List.getElem?_eq_none (by omega)]
   rfl
  rw [dif_pos (by rw [B_size]; exact h)]
  have : (B l)[i]'(by rw [B_size]; exact h) = l[i] := by
    show l.toArray[i]'(by simpa using h) = _
    simp
  rw [this, List.getD_eq_getElem?_getD, List.getElem?_eq_getElem h]
  rfl
theorem nb_cons (c : UInt8) (r : L) : nb (c :: r) 0 = c.toNat := rfl
theorem nb_app (a : L) (c : UInt8) (r : L) : nb (a ++ c :: r) a.length = c.toNat := by
  unfold nb
  rw [List.getD_eq_getElem?_getD, List.getElem?_append_right (Nat.le_refl _), Nat.sub_self]
  rfl
theorem prefix_b (l p : L) : strings_HasPrefix.f (B l) (B p) = some (p.isPrefixOf l) := by
  rw [lex_skip.prefix_is, B_size, B_take, B_toList, B_toList]
  congr 1
  rw [Bool.eq_iff_iff, beq_iff_eq, List.isPrefixOf_iff_prefix, List.prefix_iff_eq_take]
  exact eq_comm
theorem two_b (s : L) (i : Nat) (x y : UInt8) : lex_skip.two (B s) i x y = [x, y].isPrefixOf (s.drop i) := by
  have h := lex_skip.two_is (B s) i x y
  rw [B_drop, show (⟨#[x, y]⟩ : ByteArray) = B [x, y] from rfl, prefix_b] at h
  exact (Option.some.inj h).symm
theorem idx_byte (c : UInt8) : ∀ l : L, (Lib.indexByte l c < 0 ∧ l.dropWhile (· != c) = []) ∨ ∃ m : Nat, Lib.indexByte l c = m ∧ l.drop m = l.dropWhile (· != c) ∧ m < l.length
  | [] => Or.inl ⟨by rw [Lib.indexByte]; decide, rfl⟩
  | b :: l => by
    rw [Lib.indexByte]
    by_cases hb : (b == c) = true
    · refine Or.inr ⟨0, by rw [if_pos hb]; rfl, ?_, by simp⟩
      rw [List.dropWhile_cons_of_neg (by rw [beq_iff_eq] at hb; simp [hb])]
      rfl
    · have hd : (b :: l).dropWhile (· != c) = l.dropWhile (· != c) := List.dropWhile_cons_of_pos (by simpa using hb)
      rw [if_neg hb, hd]
      rcases idx_byte c l with ⟨h1, h2⟩ | ⟨m, h1, h2, h3⟩
      · have := Lib.indexByte_ge l c
        exact Or.inl ⟨by rw [if_pos (by rw [beq_iff_eq]; omega)]; decide, h2⟩
      · exact Or.inr ⟨m + 1, by rw [if_neg (by rw [beq_iff_eq]; omega), h1]; rfl, h2, by simpa using h3⟩
theorem idx_close : ∀ l : L, (Lib.index l [42, 47] < 0 ∧ close l = none) ∨ ∃ m : Nat, Lib.index l [42, 47] = m ∧ close l = some (l.drop (m + 2)) ∧ m + 2 ≤ l.length
  | [] => Or.inl ⟨by rw [Lib.index]; decide, rfl⟩
  | b :: l => by
    rw [Lib.index, close]
    by_cases hb : ([42, 47] : L).isPrefixOf (b :: l) = true
    · have hc : b = 42 ∧ l.head? = some 47 := by
        match l with
        | [] => simp [List.isPrefixOf] at hb
        | d :: l => 
          simp [List.isPrefixOf] at hb
          exact ⟨hb.1.symm, by rw [hb.2]; rfl⟩
      refine Or.inr ⟨0, by rw [if_pos hb]; rfl, ?_, ?_⟩
      · rw [if_pos hc]
        match l with
        | [] => exact absurd hc.2 (by simp)
        | d :: l => rfl
      · match l with
        | [] => exact absurd hc.2 (by simp)
        | d :: l => simp
    · have hc : ¬ (b = 42 ∧ l.head? = some 47) := fun hc => hb (by
        match l with
        | [] => exact absurd hc.2 (by simp)
        | d :: l =>
          have : d = 47 := by simpa using hc.2
          rw [hc.1, this]
          simp [List.isPrefixOf])
      rw [if_neg hb, if_neg hc]
      rcases idx_close l with ⟨h1, h2⟩ | ⟨m, h1, h2, h3⟩
      · have := Lib.index_ge l [42, 47]
        exact Or.inl ⟨by rw [if_pos (by rw [beq_iff_eq]; omega)]; decide, h2⟩
      · exact Or.inr ⟨m + 1, by rw [if_neg (by rw [beq_iff_eq]; omega), h1]; rfl, h2, by simpa using h3⟩
theorem two_pre (x y c : UInt8) (r : L) : ([x, y].isPrefixOf (c :: r) = true) ↔ (c = x ∧ r.head? = some y) := by
  match r with
  | [] => simp [List.isPrefixOf]
  | d :: r =>
    simp [List.isPrefixOf]
    exact ⟨fun h => ⟨h.1.symm, h.2.symm⟩, fun h => ⟨h.1.symm, h.2.symm⟩⟩
theorem blank_b (c : UInt8) : blank c = true ↔ ((c.toNat : Int) = 9 ∨ (c.toNat : Int) = 10 ∨ (c.toNat : Int) = 13 ∨ (c.toNat : Int) = 32) := by
  unfold blank
  simp only [Bool.or_eq_true, beq_iff_eq]
  omega
theorem skip_b (l : L) : ∀ (a : L) (k : Nat), l.length < k → lex_skip.go k (B (a ++ l)) a.length = some ((((a ++ l).length - (skipS l).1.length : Nat) : Int), (skipS l).2) := by
  refine skip_ind (P := fun l => ∀ (a : L) (k : Nat), l.length < k → lex_skip.go k (B (a ++ l)) a.length = some ((((a ++ l).length - (skipS l).1.length : Nat) : Int), (skipS l).2)) ?_ ?_ ?_ ?_ ?_ ?_ _ l (Nat.le_refl _)
  ·
   intro a k hk
   obtain ⟨k, rfl⟩ : ∃ m, k = m + 1 := ⟨k - 1, by omega⟩
   rw [skip_nil, lex_skip.go, if_pos (by rw [B_size]; simp)]
   simp
  ·
   intro c r hc ih a k hk
   obtain ⟨k, rfl⟩ : ∃ m, k = m + 1 := ⟨k - 1, by omega⟩
   rw [skip_blank hc, lex_skip.go, if_neg (by rw [B_size]; simp), B_bt, nb_app, if_pos ((blank_b c).1 hc)]
   have := ih (a ++ [c]) k (by simpa using hk)
   rw [List.append_assoc, List.length_append] at this
   exact this
  ·
   intro r hr ih a k hk
   obtain ⟨k, rfl⟩ : ∃ m, k = m + 1 := ⟨k - 1, by omega⟩
   have hd : (a ++ 47 :: r).drop a.length = 47 :: r := by rw [List.drop_append_of_le_length (Nat.le_refl _), List.drop_length, List.nil_append]
   rw [skip_line hr, lex_skip.go, if_neg (by rw [B_size]; simp), B_bt, nb_app, if_neg (fun h => by have := (blank_b 47).2 h; revert this; decide), two_b, hd, if_pos ((two_pre 47 47 47 r).2 ⟨rfl, hr⟩), B_drop, B_data, hd]
   have hw : (47 :: r).dropWhile (· != 10) = r.dropWhile (· != 10) := List.dropWhile_cons_of_pos (by decide)
   rcases idx_byte 10 (47 :: r) with ⟨h1, h2⟩ | ⟨m, h1, h2, h3⟩
   ·
    rw [if_pos h1, B_size]
    rw [hw] at h2
    rw [h2, skip_nil]
    simp
   rw [if_neg (by omega), h1, Int.toNat_natCast]
   rw [hw] at h2
   have hm : m ≠ 0 := by
     rintro rfl
     rw [List.drop_zero] at h2
     have := dropWhile_le (· != 10) r
     rw [← h2, List.length_cons] at this
     omega
   have := ih (a ++ (47 :: r).take m) k (by rw [← h2, List.length_drop]; omega)
   rw [← h2, List.append_assoc, List.take_append_drop, List.length_append, List.length_take] at this
   rw [← h2, ← this]
   congr 1
   omega
  ·
   intro r t hr ht ih a k hk
   obtain ⟨k, rfl⟩ : ∃ m, k = m + 1 := ⟨k - 1, by omega⟩
   have hd : (a ++ 47 :: r).drop a.length = 47 :: r := by rw [List.drop_append_of_le_length (Nat.le_refl _), List.drop_length, List.nil_append]
   have hd2 : (a ++ 47 :: r).drop (a.length + 2) = r.tail := by
     rw [← List.drop_drop, hd]
     match r with
     | [] => cases hr
     | d :: r => rfl
   have hno : ¬ ([47, 47].isPrefixOf (47 :: r) = true) := fun h => by
     have := ((two_pre 47 47 47 r).1 h).2
     rw [hr] at this
     revert this
     decide
   rw [skip_note hr ht, lex_skip.go, if_neg (by rw [B_size]; simp), B_bt, nb_app, if_neg (fun h => by have := (blank_b 47).2 h; revert this; decide), two_b, hd, if_neg hno, two_b, hd, if_pos ((two_pre 47 42 47 r).2 ⟨rfl, hr⟩), B_drop, B_data, hd2]
   rcases idx_close r.tail with ⟨h1, h2⟩ | ⟨m, h1, h2, h3⟩
   ·
    rw [ht] at h2
    cases h2
   rw [if_neg (by omega), h1, Int.toNat_natCast]
   rw [ht] at h2
   have h2 := Option.some.inj h2
   have hlen : (47 :: r).length = 4 + m + t.length := by
     match r with
     | [] => cases hr
     | d :: r =>
       rw [h2]
       simp only [List.length_cons, List.length_drop, List.tail_cons] at h3 ⊢
       omega
   have hsp : 47 :: r = (47 :: r).take (4 + m) ++ t := by
     have : t = (47 :: r).drop (4 + m) := by
       rw [h2]
       match r with
       | [] => cases hr
       | d :: r =>
         rw [show 4 + m = (m + 2) + 1 + 1 by omega]
         rfl
     conv => rhs; rw [this]
     rw [List.take_append_drop]
   have := ih (a ++ (47 :: r).take (4 + m)) k (by omega)
   rw [List.append_assoc, ← hsp, List.length_append, List.length_take] at this
   rw [← this]
   congr 1
   omega
  ·
   intro r hr ht a k hk
   obtain ⟨k, rfl⟩ : ∃ m, k = m + 1 := ⟨k - 1, by omega⟩
   have hd : (a ++ 47 :: r).drop a.length = 47 :: r := by rw [List.drop_append_of_le_length (Nat.le_refl _), List.drop_length, List.nil_append]
   have hd2 : (a ++ 47 :: r).drop (a.length + 2) = r.tail := by
     rw [← List.drop_drop, hd]
     match r with
     | [] => cases hr
     | d :: r => rfl
   have hno : ¬ ([47, 47].isPrefixOf (47 :: r) = true) := fun h => by
     have := ((two_pre 47 47 47 r).1 h).2
     rw [hr] at this
     revert this
     decide
   rw [skip_open hr ht, lex_skip.go, if_neg (by rw [B_size]; simp), B_bt, nb_app, if_neg (fun h => by have := (blank_b 47).2 h; revert this; decide), two_b, hd, if_neg hno, two_b, hd, if_pos ((two_pre 47 42 47 r).2 ⟨rfl, hr⟩), B_drop, B_data, hd2]
   rcases idx_close r.tail with ⟨h1, h2⟩ | ⟨m, h1, h2, h3⟩
   ·
    rw [if_pos h1]
    simp
   rw [ht] at h2
   cases h2
  intro l hl a k hk
  obtain ⟨k, rfl⟩ : ∃ m, k = m + 1 := ⟨k - 1, by omega⟩
  rw [skip_stay hl]
  obtain ⟨c, r, rfl, h1, h2⟩ := hl
  have hd : (a ++ c :: r).drop a.length = c :: r := by rw [List.drop_append_of_le_length (Nat.le_refl _), List.drop_length, List.nil_append]
  rw [lex_skip.go, if_neg (by rw [B_size]; simp), B_bt, nb_app, if_neg (fun h => by have := (blank_b c).2 h; rw [h1] at this; cases this), two_b, hd, if_neg (fun h => by have := (two_pre 47 47 c r).1 h; exact h2 ⟨this.1, Or.inl this.2⟩), two_b, hd, if_neg (fun h => by have := (two_pre 47 42 c r).1 h; exact h2 ⟨this.1, Or.inr this.2⟩)]
  simp
theorem skip_f (a l : L) (h : (a ++ l).length ≤ 1073741824) : lex_skip.f (B (a ++ l)) a.length = some ((((a ++ l).length - (skipS l).1.length : Nat) : Int), (skipS l).2) := by
  unfold lex_skip.f
  rw [List.length_append] at h
  rw [if_pos ⟨by omega, by omega, by rw [B_size, List.length_append]; omega⟩, Int.toNat_natCast]
  exact skip_b l a _ (by rw [B_size, List.length_append]; omega)
end Go.Proofs.YtbnpgobjbokboaaDoor.Lx
namespace Go.Proofs.YtbnpgobjbokboaaDoor.Lx
open Go.RowKit Go.Proofs.YtbnpgobjbokboaaDoor.PLex Go.Proofs.YtbnpgobjbokboaaDoorW.PrintWords Go.Proofs.YtbnpgobjbokboaaDoorW.PrintLast
set_option linter.unusedVariables false
set_option linter.unusedSimpArgs false
theorem B_get (l : L) (j : Nat) : ((B l).get! j).toNat = nb l j := by
  unfold nb
  show (l.toArray[j]!).toNat = _
  rw [List.getD_eq_getElem?_getD, ← List.getElem?_toArray, Array.getElem!_eq_getD, Array.getD_eq_getD_getElem?]
  rfl
theorem decode_b (l : L) (i : Nat) : Utf8.decode (B l) i = dec (l.drop i) := by
  rw [Lib.decode_at, B_size, B_get, B_get, B_get, B_get]
  unfold dec
  have e : ∀ j, nb l (i + j) = nb (l.drop i) j := fun j => by
    unfold nb
    rw [List.getD_eq_getElem?_getD, List.getD_eq_getElem?_getD, List.getElem?_drop]
  rw [List.length_drop, ← e 0, ← e 1, ← e 2, ← e 3]
  rfl
theorem decodeGo_b (l : L) : Lib.decodeGo (B l) = if l = [] then (65533, 0) else dec l := by
  unfold Lib.decodeGo
  rw [B_size]
  by_cases h : l = []
  ·
   subst h
   rfl
  rw [if_neg (fun e => h (List.eq_nil_of_length_eq_zero e)), if_neg h, decode_b]
  rfl
theorem letter_p (r k : Nat) : runes_Letter.f (k + 3) (r : Int) = some (letter r) := by
  unfold runes_Letter.f
  simp only [runes_Letter.j0, runes_Letter.j1, runes_Letter.j2, decide_eq_true_eq, Bool.false_eq_true, if_false]
  unfold letter
  have h : r < 65 ∨ (65 ≤ r ∧ r ≤ 90) ∨ (90 < r ∧ r < 97) ∨ (97 ≤ r ∧ r ≤ 122) ∨ (122 < r ∧ r < 192) ∨ (192 ≤ r ∧ r ≤ 591 ∧ r = 215) ∨ (192 ≤ r ∧ r ≤ 591 ∧ r ≠ 215) ∨ (591 < r ∧ r < 913) ∨ (913 ≤ r ∧ r ≤ 969) ∨ (969 < r ∧ r < 1040) ∨ 1040 ≤ r := by omega
  rcases h with h | h | h | h | h | h | h | h | h | h | h
  all_goals
    repeat (first | rw [if_pos (by omega)] | rw [if_neg (by omega)])
    congr 1
    rw [Bool.eq_iff_iff]
    simp only [Bool.or_eq_true, Bool.and_eq_true, decide_eq_true_eq, bne_iff_ne, ne_eq, Bool.false_eq_true, false_iff, true_iff]
    omega
theorem digit_p (r : Nat) : runes_Digit.f (r : Int) = some (48 ≤ r && r ≤ 57) := by
  unfold runes_Digit.f
  split
  all_goals
    simp only [Option.some.injEq]
    rw [Bool.eq_iff_iff]
    simp only [Bool.and_eq_true, decide_eq_true_eq, Bool.false_eq_true, false_iff]
    omega
theorem name_j (s f : Bool) (r n k : Nat) : lex_name.j0 (k + 4) s f (r : Int) (n : Int) false = some (if okR s f r = true then (n : Int) else 0) := by
  rw [lex_name.j0, if_neg (by decide), letter_p, digit_p]
  simp only [Option.bind_some]
  unfold okR
  cases hl : letter r
  rotate_left
  ·
   simp
  simp only [Bool.false_eq_true, if_false, Bool.false_or]
  by_cases h95 : r = 95
  ·
   subst h95
   simp
  have e95 : (r == 95) = false := by simpa using h95
  rw [if_neg (by omega), e95]
  cases s
  ·
   cases f
   rotate_left
   ·
    simp
   simp
   split <;> rfl
  cases f
  rotate_left
  ·
   by_cases h36 : r = 36
   ·
    subst h36
    simp
   have e36 : (r == 36) = false := by simpa using h36
   simp only [if_true]
   rw [if_neg (by omega), e36]
   simp
  by_cases h36 : r = 36
  ·
   subst h36
   simp
  have e36 : (r == 36) = false := by simpa using h36
  simp only [if_true]
  rw [if_neg (by omega), e36]
  simp
  split <;> rfl
theorem okR_err (s f : Bool) : okR s f 65533 = false := by
  cases h : okR s f 65533 with
  | false => rfl
  | true => have := okR_le h; omega
theorem name_b (s f : Bool) (l : L) (k : Nat) : lex_name.f (k + 4) (B l) s f = some ((sgn s f l : Nat) : Int) := by
  unfold lex_name.f utf8_DecodeRuneInString.f
  rw [decodeGo_b]
  simp only [Option.bind_some]
  by_cases h : l = []
  ·
   subst h
   simp [lex_name.j0, sgn]
  rw [if_neg h]
  have hw := dec_width h
  rw [if_neg (by omega), sgn_dec]
  by_cases hb : (dec l).1 = 65533
  rotate_left
  ·
   rw [if_neg (by omega), name_j]
   split <;> simp
  rw [if_pos (by omega), hb, okR_err]
  by_cases h1 : (dec l).2 = 1
  ·
   rw [show (((dec l).2 : Int) == 1) = true by rw [h1]; rfl]
   rw [lex_name.j0, if_pos rfl]
   simp
  rw [show (((dec l).2 : Int) == 1) = false by rw [beq_eq_false_iff_ne]; omega, name_j, okR_err]
  simp
theorem rdOf_b (xs : List L) (j : Nat) (h : j < xs.length) : rdOf ByteArray.empty (xs.map B) (j : Int) = B xs[j] := by
  unfold rdOf
  rw [Int.toNat_natCast, List.getD_eq_getElem?_getD, List.getElem?_map, List.getElem?_eq_getElem h]
  rfl
theorem words_b : lex_Words.f = some (words.map B) := rfl
theorem wrap_1 (n : Nat) (h : n < 9223372036854775807) : wrap64 ((n : Int) + 1) = ((n + 1 : Nat) : Int) := by unfold wrap64; omega
theorem word_l0 (x : L) (xs : List L) (hx : xs.length ≤ 1000) : ∀ (d j k : Nat), xs.length - j = d → j ≤ xs.length → d < k → lex_word.l0 k (B x) (xs.map B) (xs.length : Int) (j : Int) = some (decide (x ∈ xs.drop j)) := by
  intro d
  induction d with
  | zero =>
    intro j k hd hj hk
    obtain ⟨k, rfl⟩ : ∃ m, k = m + 1 := ⟨k - 1, by omega⟩
    rw [lex_word.l0, if_neg (by omega), List.drop_of_length_le (by omega)]
    simp
  | succ d ih =>
    intro j k hd hj hk
    obtain ⟨k, rfl⟩ : ∃ m, k = m + 1 := ⟨k - 1, by omega⟩
    have hlt : j < xs.length := by omega
    rw [lex_word.l0, if_pos (by omega), if_pos (by omega), if_pos (by rw [List.length_map]; omega), rdOf_b xs j hlt, B_toList, B_toList, List.drop_eq_getElem_cons hlt]
    by_cases he : xs[j] = x
    ·
     rw [if_pos he]
     simp [he]
    rw [if_neg he, wrap_1 _ (by omega), ih (j + 1) k (by omega) (by omega) (by omega)]
    congr 1
    apply decide_eq_decide.2
    rw [List.mem_cons]
    exact ⟨Or.inr, fun h => h.resolve_left (Ne.symm he)⟩
theorem word_b (x : L) (k : Nat) : lex_word.f (k + 20) (B x) = some (decide (x ∈ words)) := by
  unfold lex_word.f
  rw [words_b, Option.bind_some, List.length_map]
  exact word_l0 x words (by decide) 19 0 (k + 20) rfl (by decide) (by omega)
def valF (acc : Nat) (l : L) : Nat := l.foldl (fun n c => 10 * n + (c.toNat - 48)) acc
theorem valF_ge : ∀ (l : L) (acc : Nat), acc ≤ valF acc l
  | [], acc => Nat.le_refl _
  | c :: r, acc => by
    have := valF_ge r (10 * acc + (c.toNat - 48))
    show acc ≤ valF (10 * acc + (c.toNat - 48)) r
    omega
theorem parseM : ∀ (l : L) (acc : Nat), (∀ c ∈ l, dig c = true) → acc ≤ 18446744073709551615 → Lib.parseUintM 18446744073709551615 acc l = if valF acc l ≤ 18446744073709551615 then .ok (valF acc l) else .range
  | [], acc, _, h => by
    rw [Lib.parseUintM]
    exact (if_pos h).symm
  | c :: r, acc, hd, h => by
    have hc := hd c (by simp)
    unfold dig at hc
    simp only [Bool.and_eq_true, decide_eq_true_eq] at hc
    have hge := valF_ge r (10 * acc + (c.toNat - 48))
    have hv : valF acc (c :: r) = valF (10 * acc + (c.toNat - 48)) r := rfl
    rw [Lib.parseUintM, if_pos hc, hv]
    by_cases h1 : 1844674407370955162 ≤ acc
    · rw [if_pos h1, if_neg (by omega)]
    · rw [if_neg h1]
      by_cases h2 : 18446744073709551615 < acc * 10 + (c.toNat - 48)
      · rw [if_pos h2, if_neg (by omega)]
      · rw [if_neg h2, show acc * 10 + (c.toNat - 48) = 10 * acc + (c.toNat - 48) by omega]
        exact parseM r _ (fun x hx => hd x (by simp [hx])) (by omega)
theorem parseI (l : L) (h0 : l ≠ []) (hd : ∀ c ∈ l, dig c = true) : Lib.parseIntB 64 l = if val l ≤ 9223372036854775807 then .ok (val l : Int) else .range := by
  match l with
  | [] => exact absurd rfl h0
  | c :: r =>
    have hc := hd c (by simp)
    unfold dig at hc
    simp only [Bool.and_eq_true, decide_eq_true_eq] at hc
    have hm := parseM (c :: r) 0 hd (by omega)
    have hv : valF 0 (c :: r) = val (c :: r) := rfl
    rw [hv] at hm
    unfold Lib.parseIntB
    simp only
    rw [if_neg (by omega)]
    unfold Lib.parseUintB
    rw [if_neg (by simp), show 2 ^ 64 - 1 = 18446744073709551615 from rfl, hm]
    by_cases h1 : val (c :: r) ≤ 18446744073709551615
    rotate_left
    ·
     rw [if_neg h1, if_neg (by omega)]
    rw [if_pos h1]
    simp only
    by_cases h2 : val (c :: r) ≤ 9223372036854775807
    rotate_left
    ·
     rw [if_pos ⟨by omega, by omega⟩, if_neg h2]
    rw [if_neg (by omega), if_neg (by omega), if_pos h2, if_neg (by omega)]
theorem parse_b (l : L) (h0 : l ≠ []) (hd : ∀ c ∈ l, dig c = true) (hs : l.length ≤ 1073741824) : ∃ x : Option Int, strconv_ParseInt_53.f (B l) 10 64 = some (if val l ≤ 9223372036854775807 then (val l : Int) else 9223372036854775807, if val l ≤ 9223372036854775807 then none else some 0) := by
  refine ⟨none, ?_⟩
  unfold strconv_ParseInt_53.f
  rw [if_pos ⟨rfl, rfl, by rw [B_size]; omega⟩, B_data, parseI l h0 hd]
  by_cases h : val l ≤ 9223372036854775807
  ·
   rw [if_pos h, if_pos h, if_pos h]
  rw [if_neg h, if_neg h, if_neg h]
  have : Lib.intSat 64 l = 9223372036854775807 := by
    unfold Lib.intSat
    rw [if_neg]
    ·
     rfl
    match l with
    | [] => simp
    | c :: r =>
      have hc := hd c (by simp)
      unfold dig at hc
      simp only [Bool.and_eq_true, decide_eq_true_eq] at hc
      simp only [List.head?_cons, Option.map_some, Option.some.injEq]
      omega
  simp only [this]
def tokP (r : Except Nat (T × Nat)) : Int × ByteArray × Int × Int × Int × Int :=
  match r with
  | .error e => (0, B [], 0, 0, 0, (e : Int))
  | .ok (t, n) => ((t.kind : Int), B t.text, (t.n : Int), 0, (n : Int), 0)
theorem num_j2 (l : L) (k n : Nat) (hn : n ≤ l.length) (h0 : n ≠ 0) (hd : ∀ c ∈ l.take n, dig c = true) (hs : l.length ≤ 1073741824) : lex_number.j2 (k + 1) (B l) (n : Int) false = some (tokP (if 9007199254740991 < val (l.take n) then .error 41 else .ok (⟨3, [], val (l.take n)⟩, n))) := by
  obtain ⟨_, hp⟩ := parse_b (l.take n) (by
    intro e
    have := congrArg List.length e
    rw [List.length_take, List.length_nil] at this
    omega) hd (by rw [List.length_take]; omega)
  rw [lex_number.j2, if_neg (by decide), if_pos (by omega), if_pos (by rw [B_size]; omega), Int.toNat_natCast, B_take, hp]
  simp only [Option.bind_some]
  by_cases h : val (l.take n) ≤ 9223372036854775807
  rotate_left
  ·
   rw [if_neg h, if_neg h]
   simp only [Option.isNone_some]
   rw [if_neg (by decide), if_pos (show 9007199254740991 < val (l.take n) by omega)]
   rfl
  rw [if_pos h, if_pos h]
  simp only [Option.isNone_none, if_true]
  by_cases h2 : 9007199254740991 < val (l.take n)
  rotate_left
  ·
   rw [if_neg (by omega), if_neg h2]
   rfl
  rw [if_pos (by omega), if_pos h2]
  rfl
theorem nb_head (l : L) : nb l 0 = 48 ↔ l.head? = some 48 := by
  match l with
  | [] => simp [nb]
  | c :: r =>
    rw [nb_cons, List.head?_cons, Option.some.injEq]
    exact ⟨fun h => UInt8.toNat_inj.1 h, fun h => by rw [h]; rfl⟩
theorem num_j1 (s : Bool) (l : L) (k n : Nat) (hn : n ≤ l.length) (h0 : n ≠ 0) (hd : ∀ c ∈ l.take n, dig c = true) (hs : l.length ≤ 1073741824) :
    lex_number.j1 (k + 5) (B l) s (n : Int) = some (tokP (if (1 < n ∧ l.head? = some 48) ∨ sgn s true (l.drop n) ≠ 0 then .error 40 else if 9007199254740991 < val (l.take n) then .error 41 else .ok (⟨3, [], val (l.take n)⟩, n))) := by
  have hb0 : bt (B l) 0 = (nb l 0 : Int) := B_bt l 0
  have hname : lex_name.f (k + 4) ((B l).extract n (B l).size) s true = some ((sgn s true (l.drop n) : Nat) : Int) := by rw [B_drop, name_b]
  have herr : lex_number.j2 (k + 4) (B l) (n : Int) true = some (tokP (.error 40)) := by rw [lex_number.j2, if_pos rfl]; rfl
  have hj2 := num_j2 l (k + 3) n hn h0 hd hs
  have key : lex_number.j2 (k + 4) (B l) (n : Int) (decide (((sgn s true (l.drop n) : Nat) : Int) > 0)) = some (tokP (if sgn s true (l.drop n) ≠ 0 then .error 40 else if 9007199254740991 < val (l.take n) then .error 41 else .ok (⟨3, [], val (l.take n)⟩, n))) := by
    by_cases h : sgn s true (l.drop n) = 0
    ·
     rw [h, show decide (((0 : Nat) : Int) > 0) = false from rfl, if_neg (fun hh => hh rfl)]
     exact hj2
    rw [show decide (((sgn s true (l.drop n) : Nat) : Int) > 0) = true from decide_eq_true (by omega), if_pos h]
    exact herr
  rw [lex_number.j1]
  by_cases h1 : 1 < n
  rotate_left
  ·
   rw [if_neg (by omega), if_pos (by omega), if_pos (by rw [B_size]; omega), Int.toNat_natCast, hname, Option.bind_some, key]
   by_cases h : sgn s true (l.drop n) = 0
   rotate_left
   ·
    rw [if_pos h, if_pos (Or.inr h)]
   have hC : ¬ ((1 < n ∧ l.head? = some 48) ∨ sgn s true (l.drop n) ≠ 0) := fun hh => hh.elim (fun hh => h1 hh.1) (fun hh => hh h)
   have hD : ¬ (sgn s true (l.drop n) ≠ 0) := fun hh => hh h
   rw [if_neg hC, if_neg hD]
  rw [if_pos (by omega), if_pos (by rw [B_size]; omega), hb0]
  by_cases h48 : nb l 0 = 48
  ·
   rw [if_pos (by omega), herr, if_pos (Or.inl ⟨h1, (nb_head l).1 h48⟩)]
  rw [if_neg (by omega), if_pos (by omega), if_pos (by rw [B_size]; omega), Int.toNat_natCast, hname, Option.bind_some, key]
  by_cases h : sgn s true (l.drop n) = 0
  rotate_left
  ·
   rw [if_pos h, if_pos (Or.inr h)]
  have hC : ¬ ((1 < n ∧ l.head? = some 48) ∨ sgn s true (l.drop n) ≠ 0) := fun hh => hh.elim (fun hh => h48 ((nb_head l).2 hh.2)) (fun hh => hh h)
  have hD : ¬ (sgn s true (l.drop n) ≠ 0) := fun hh => hh h
  rw [if_neg hC, if_neg hD]
theorem num_l0 (s : Bool) (hs : ∀ l : L, True) : ∀ (r a : L) (k : Nat), (a ++ r).length ≤ 1073741824 → (a ++ r).takeWhile dig ≠ [] → (∀ c ∈ a, dig c = true) → r.length + 6 ≤ k → lex_number.l0 k (B (a ++ r)) s (a.length : Int) = some (tokP (numS s (a ++ r))) := by
  intro r
  induction r with
  | nil =>
    intro a k hl h0 ha hk
    obtain ⟨k, rfl⟩ : ∃ m, k = m + 6 := ⟨k - 6, by simp at hk; omega⟩
    have hw := takeWhile_app (p := dig) (a := a) (y := []) ha (fun c r e => by cases e)
    rw [lex_number.l0, if_neg (by rw [B_size]; simp), num_j1 s (a ++ []) k a.length (by simp) (by
      intro e
      have := List.eq_nil_of_length_eq_zero e
      subst this
      exact h0 rfl) (by simpa using ha) hl]
    unfold numS
    rw [hw.1, hw.2]
    simp
  | cons c r ih =>
    intro a k hl h0 ha hk
    obtain ⟨k, rfl⟩ : ∃ m, k = m + 1 := ⟨k - 1, by simp at hk; omega⟩
    have hb : bt (B (a ++ c :: r)) (a.length : Int) = (c.toNat : Int) := by rw [B_bt, nb_app]
    rw [lex_number.l0, if_pos (by rw [B_size, List.length_append, List.length_cons]; omega), if_pos (by omega), hb]
    by_cases hd : dig c = true
    ·
     have hc := hd
     unfold dig at hc
     simp only [Bool.and_eq_true, decide_eq_true_eq] at hc
     rw [if_pos (by omega), if_pos (by omega), wrap_1 _ (by rw [List.length_append] at hl; omega)]
     have := ih (a ++ [c]) k (by simpa using hl) (by simpa using h0) (fun x hx => by
       rcases List.mem_append.1 hx with hx | hx
       ·
        exact ha x hx
       rw [List.mem_singleton.1 hx]
       exact hd) (by simp at hk; omega)
     rw [List.append_assoc, List.length_append] at this
     exact this
    have hd2 : dig c = false := by simpa using hd
    obtain ⟨k, rfl⟩ : ∃ m, k = m + 5 := ⟨k - 5, by simp at hk; omega⟩
    have hw := takeWhile_hex (p := dig) (a := a) ha hd2 r
    have hj := num_j1 s (a ++ c :: r) k a.length (by simp) (by
      intro e
      have := List.eq_nil_of_length_eq_zero e
      subst this
      exact h0 hw.1) (by rw [List.take_append_of_le_length (Nat.le_refl _), List.take_length]; exact ha) hl
    rw [List.take_append_of_le_length (Nat.le_refl _), List.take_length, List.drop_append_of_le_length (Nat.le_refl _), List.drop_length, List.nil_append] at hj
    have hout : lex_number.j1 (k + 5) (B (a ++ c :: r)) s (a.length : Int) = some (tokP (numS s (a ++ c :: r))) := by
      rw [hj]
      unfold numS
      rw [hw.1, hw.2]
    have hn : ¬ (48 ≤ c.toNat ∧ c.toNat ≤ 57) := fun hh => hd (by unfold dig; simp only [Bool.and_eq_true, decide_eq_true_eq]; exact hh)
    by_cases h1 : (c.toNat : Int) ≥ 48
    rotate_left
    ·
     rw [if_neg h1]
     exact hout
    rw [if_pos h1, if_neg (by omega)]
    exact hout
theorem number_b (s : Bool) (c : UInt8) (r : L) (hc : dig c = true) (hl : (c :: r).length ≤ 1073741824) (k : Nat) (hk : r.length + 7 ≤ k) : lex_number.f k (B (c :: r)) s = some (tokP (numS s (c :: r))) := by
  unfold lex_number.f
  exact num_l0 s (fun _ => trivial) (c :: r) [] k hl (by rw [List.nil_append, List.takeWhile_cons_of_pos hc]; simp) (fun _ h => by cases h) (by simp; omega)
end Go.Proofs.YtbnpgobjbokboaaDoor.Lx
namespace Go.Proofs.YtbnpgobjbokboaaDoor.Lx
open Go.RowKit Go.Proofs.YtbnpgobjbokboaaDoor.PLex Go.Proofs.YtbnpgobjbokboaaDoorW.PrintWords Go.Proofs.YtbnpgobjbokboaaDoorW.PrintLast
set_option linter.unusedVariables false
set_option linter.unusedSimpArgs false
theorem esc_hex (c : UInt8) : (hx c = true → escVal c.toNat = (hv c : Int)) ∧ (hx c = false → escVal c.toNat < 0) := by
  unfold hx escVal hv
  simp only [Bool.or_eq_true, Bool.and_eq_true, decide_eq_true_eq, Bool.or_eq_false_iff, Bool.and_eq_false_iff, decide_eq_false_iff_not]
  have := c.toNat_lt
  constructor
  rotate_left
  ·
   intro h
   repeat' split
   all_goals omega
  intro h
  repeat' split
  all_goals omega
theorem escNum_all : ∀ (l : L) (n : Nat), (∀ c ∈ l, hx c = true) → escNum l n = some (l.foldl (fun n c => 16 * n + hv c) n)
  | [], n, _ => rfl
  | c :: r, n, h => by
    have hc := (esc_hex c).1 (h c (by simp))
    rw [escNum, if_neg (by omega), hc, Int.toNat_natCast]
    exact escNum_all r _ (fun x hx => h x (by simp [hx]))
theorem escNum_not : ∀ (l : L) (n : Nat), (∃ c ∈ l, hx c = false) → escNum l n = none
  | [], n, h => by obtain ⟨c, h, _⟩ := h; cases h
  | c :: r, n, h => by
    rw [escNum]
    by_cases hc : hx c = true
    · have h1 := (esc_hex c).1 hc
      rw [if_neg (by omega)]
      obtain ⟨d, hd, h2⟩ := h
      refine escNum_not r _ ⟨d, ?_, h2⟩
      rcases List.mem_cons.1 hd with rfl | hd
      · rw [hc] at h2
        cases h2
      · exact hd
    · rw [if_pos ((esc_hex c).2 (by simpa using hc))]
theorem idx_ne (d c : UInt8) (l : L) (h : (d == c) = false) : Lib.indexByte (d :: l) c = if Lib.indexByte l c = -1 then -1 else Lib.indexByte l c + 1 := by
  rw [Lib.indexByte, if_neg (by rw [h]; decide)]
  by_cases h2 : Lib.indexByte l c = -1
  ·
   rw [if_pos h2, if_pos (by rw [h2]; rfl)]
  rw [if_neg h2, if_neg (by rw [beq_iff_eq]; exact h2)]
theorem idx_at : ∀ (a : L) (c : UInt8) (r : L), c ∉ a → Lib.indexByte (a ++ c :: r) c = a.length
  | [], c, r, _ => by rw [List.nil_append, Lib.indexByte, if_pos (by simp)]; rfl
  | d :: a, c, r, h => by
    have hd : ¬ (d == c) = true := fun e => h (by rw [beq_iff_eq] at e; simp [e])
    rw [List.cons_append, Lib.indexByte, if_neg hd, idx_at a c r (fun hm => h (by simp [hm])), if_neg (by rw [beq_iff_eq]; omega)]
    rfl
theorem idx_min : ∀ (l : L) (c : UInt8) (m : Nat), Lib.indexByte l c = m → c ∉ l.take m ∧ m < l.length ∧ l[m]? = some c
  | [], c, m, h => by rw [Lib.indexByte] at h; omega
  | d :: l, c, m, h => by
    rw [Lib.indexByte] at h
    by_cases hd : (d == c) = true
    · rw [if_pos hd] at h
      obtain rfl : m = 0 := by omega
      rw [beq_iff_eq] at hd
      exact ⟨by simp, by simp, by simp [hd]⟩
    · rw [if_neg hd] at h
      split at h
      · omega
      · have hge := Lib.indexByte_ge l c
        obtain ⟨m', rfl⟩ : ∃ m', m = m' + 1 := ⟨m - 1, by rename_i h2; rw [beq_iff_eq] at h2; omega⟩
        obtain ⟨h1, h2, h3⟩ := idx_min l c m' (by omega)
        refine ⟨?_, by simpa using h2, by simpa using h3⟩
        rw [List.take_succ_cons]
        intro hm
        rcases List.mem_cons.1 hm with e | hm
        · exact hd (by rw [beq_iff_eq]; exact e.symm)
        · exact h1 hm
theorem valid_rune (n : Nat) : Lib.validRune (n : Int) = decide (validN n) := by
  unfold Lib.validRune validN
  apply decide_eq_decide.2
  omega
theorem encode_b (n : Nat) (h : validN n) : Utf8.encode (n : Int) = B (enc n) := by
  unfold validN at h
  have hv : Utf8.valid (n : Int) = true := by
    unfold Utf8.valid
    simp only [Bool.or_eq_true, Bool.and_eq_true, decide_eq_true_eq]
    omega
  unfold Utf8.encode enc
  simp only [hv, if_true, Int.toNat_natCast]
  repeat' split
  all_goals first | rfl | (exfalso; omega)
def escP (l : L) (r : Option (L × L)) : ByteArray × Int :=
  match r with
  | none => (B [], 0)
  | some (t, z) => (B t, ((l.length - z.length : Nat) : Int))
theorem escU_b (r : L) : PLex.escU (B (117 :: r)) = escP (117 :: r) (Lx.escU r) := by
  unfold PLex.escU
  rw [B_size, show bt (B (117 :: r)) 1 = (nb (117 :: r) 1 : Int) from B_bt _ 1, B_data]
  match r with
  | [] =>
    rw [if_pos (Or.inl (by simp))]
    rfl
  | c :: t =>
    have hn1 : nb (117 :: c :: t) 1 = c.toNat := rfl
    rw [hn1, escU_cons]
    by_cases hc : c = 123
    rotate_left
    ·
     have hF : ¬ (c = 123 ∧ t.takeWhile hx ≠ [] ∧ (t.takeWhile hx).length ≤ 6 ∧ (t.dropWhile hx).head? = some 125 ∧ validN (hnum (t.takeWhile hx))) := fun hh => hc hh.1
     have hG : (c.toNat : Int) ≠ 123 := fun e => hc (UInt8.toNat_inj.1 (show c.toNat = 123 by omega))
     rw [if_neg hF, if_pos (Or.inr (Or.inl hG))]
     rfl
    subst hc
    have h123 : ((123 : UInt8).toNat : Int) = 123 := rfl
    rw [h123]
    have hsp := List.takeWhile_append_dropWhile (p := hx) (l := t)
    have hall := takeWhile_all (p := hx) t
    have h125 : (125 : UInt8) ∉ t.takeWhile hx := fun hm => absurd (hall _ hm) (by decide)
    have hstep : ∀ x : L, Lib.indexByte (117 :: 123 :: x) 125 = if Lib.indexByte x 125 = -1 then -1 else Lib.indexByte x 125 + 2 := fun x => by
      rw [idx_ne _ _ _ (by decide), idx_ne _ _ _ (by decide)]
      have := Lib.indexByte_ge x 125
      by_cases h : Lib.indexByte x 125 = -1
      ·
       rw [if_pos h, if_pos rfl, if_pos h]
      rw [if_neg h, if_neg (by omega), if_neg (by omega)]
      omega
    by_cases hz : (t.dropWhile hx).head? = some 125
    ·
     obtain ⟨z, hz'⟩ : ∃ z, t.dropWhile hx = 125 :: z := by
       match hd : t.dropWhile hx with
       | [] => rw [hd] at hz; cases hz
       | d :: z =>
         rw [hd] at hz
         have : d = 125 := by simpa using hz
         exact ⟨z, by rw [this]⟩
     have ht : t = t.takeWhile hx ++ 125 :: z := by rw [← hz']; exact hsp.symm
     obtain ⟨h, hh⟩ : ∃ h, t.takeWhile hx = h := ⟨_, rfl⟩
     rw [hz', hh]
     rw [hh] at ht h125 hall
     have hE : Lib.indexByte (117 :: 123 :: t) 125 = (h.length : Int) + 2 := by
       rw [hstep, ht, idx_at _ _ _ h125, if_neg (by omega)]
     rw [hE]
     by_cases hg : h ≠ [] ∧ h.length ≤ 6
     rotate_left
     ·
      rw [if_pos (by
        by_cases h0 : h = []
        ·
         subst h0
         refine Or.inr (Or.inr (Or.inl ?_))
         simp
        refine Or.inr (Or.inr (Or.inr ?_))
        have : ¬ h.length ≤ 6 := fun h6 => hg ⟨h0, h6⟩
        omega), if_neg (fun hh => hg ⟨hh.2.1, hh.2.2.1⟩)]
      rfl
     obtain ⟨hg1, hg2⟩ := hg
     have hl := List.length_pos_iff.2 hg1
     have htl : t.length = h.length + (z.length + 1) := by rw [ht]; simp
     rw [if_neg (by
       simp only [List.length_cons]
       omega)]
     have hx1 : (B (117 :: 123 :: t)).extract 2 ((h.length : Int) + 2).toNat = B h := by
       rw [B_extract, show ((h.length : Int) + 2).toNat - 2 = h.length by omega]
       show B (t.take h.length) = _
       rw [ht, List.take_append_of_le_length (Nat.le_refl _), List.take_length]
     rw [hx1, B_data, escNum_all h 0 hall]
     have hnum' : h.foldl (fun n c => 16 * n + hv c) 0 = hnum h := rfl
     rw [hnum']
     dsimp only
     rw [valid_rune]
     by_cases hv : validN (hnum h)
     rotate_left
     ·
      rw [if_neg (by simpa using hv), if_neg (fun hh => hv hh.2.2.2.2)]
      rfl
     rw [if_pos (decide_eq_true hv), if_pos ⟨rfl, hg1, hg2, rfl, hv⟩, encode_b _ hv]
     show (B (enc (hnum h)), _) = (B (enc (hnum h)), (((117 :: 123 :: t).length - z.length : Nat) : Int))
     congr 1
     simp only [List.length_cons]
     omega
    have hF : ¬ ((123 : UInt8) = 123 ∧ t.takeWhile hx ≠ [] ∧ (t.takeWhile hx).length ≤ 6 ∧ (t.dropWhile hx).head? = some 125 ∧ validN (hnum (t.takeWhile hx))) := fun hh => hz hh.2.2.2.1
    rw [if_neg hF]
    by_cases hcond : (117 :: 123 :: t).length < 4 ∨ (123 : Int) ≠ 123 ∨ Lib.indexByte (117 :: 123 :: t) 125 < 3 ∨ 8 < Lib.indexByte (117 :: 123 :: t) 125
    ·
     rw [if_pos hcond]
     rfl
    rw [if_neg hcond]
    have hE3 : ¬ Lib.indexByte (117 :: 123 :: t) 125 < 3 := fun h => hcond (Or.inr (Or.inr (Or.inl h)))
    have hge := Lib.indexByte_ge t 125
    rw [hstep] at hE3
    have hne : ¬ Lib.indexByte t 125 = -1 := fun h => hE3 (by rw [if_pos h]; decide)
    obtain ⟨m, hm⟩ : ∃ m : Nat, Lib.indexByte t 125 = m := ⟨(Lib.indexByte t 125).toNat, by omega⟩
    obtain ⟨m1, m2, m3⟩ := idx_min t 125 m hm
    have hE : Lib.indexByte (117 :: 123 :: t) 125 = (m : Int) + 2 := by rw [hstep, if_neg hne, hm]
    have hx1 : (B (117 :: 123 :: t)).extract 2 ((m : Int) + 2).toNat = B (t.take m) := by
      rw [B_extract, show ((m : Int) + 2).toNat - 2 = m by omega]
      rfl
    rw [hE, hx1, B_data, escNum_not]
    ·
     rfl
    -- the byte behind the digits is none, and no brace
    have hlen : (t.takeWhile hx).length < m := by
      rcases Nat.lt_or_ge (t.takeWhile hx).length m with h | h
      ·
       exact h
      exfalso
      rcases Nat.lt_or_ge m (t.takeWhile hx).length with h2 | h2
      ·
       have : (t.takeWhile hx)[m]? = some 125 := by
         rw [← hsp, List.getElem?_append_left h2] at m3
         exact m3
       exact h125 (List.mem_of_getElem? this)
      have h3 : m = (t.takeWhile hx).length := by omega
      rw [← hsp, h3, List.getElem?_append_right (Nat.le_refl _), Nat.sub_self] at m3
      exact hz (by rw [List.head?_eq_getElem?]; exact m3)
    match hd : t.dropWhile hx with
    | [] =>
      rw [hd, List.append_nil] at hsp
      have := congrArg List.length hsp
      omega
    | d :: z =>
      have hdx : hx d = false := head_not hd
      refine ⟨d, ?_, hdx⟩
      rw [← hsp, hd, List.take_append, List.mem_append]
      refine Or.inr ?_
      obtain ⟨q, hq⟩ : ∃ q, m - (t.takeWhile hx).length = q + 1 := ⟨m - (t.takeWhile hx).length - 1, by omega⟩
      rw [hq]
      simp
theorem u8_eq {c : UInt8} {n : Nat} (hn : n < 256) : (c.toNat : Int) = n ↔ c = UInt8.ofNat n := by
  constructor
  rotate_left
  ·
   intro h
   rw [h, on n hn]
  intro h
  apply UInt8.toNat_inj.1
  rw [on n hn]
  omega
theorem esc_b (l : L) : escOf (B l) = escP l (escS l) := by
  unfold escOf
  rw [B_size]
  match l with
  | [] => rfl
  | c :: r =>
    have hb0 : bt (B (c :: r)) 0 = (c.toNat : Int) := B_bt _ 0
    rw [if_neg (by simp), hb0]
    have h1 : ((c.toNat : Int) = 110) ↔ c = 110 := u8_eq (n := 110) (by omega)
    have h2 : ((c.toNat : Int) = 116) ↔ c = 116 := u8_eq (n := 116) (by omega)
    have h3 : ((c.toNat : Int) = 34) ↔ c = 34 := u8_eq (n := 34) (by omega)
    have h4 : ((c.toNat : Int) = 39) ↔ c = 39 := u8_eq (n := 39) (by omega)
    have h5 : ((c.toNat : Int) = 92) ↔ c = 92 := u8_eq (n := 92) (by omega)
    have h6 : ((c.toNat : Int) = 117) ↔ c = 117 := u8_eq (n := 117) (by omega)
    have one : ∀ t : L, (B t, (1 : Int)) = escP (c :: r) (some (t, r)) := fun t => by
      show _ = (B t, (((c :: r).length - r.length : Nat) : Int))
      congr 1
      simp
    simp only [h1, h2, h3, h4, h5, h6]
    unfold escS
    simp only
    by_cases c1 : c = 110
    ·
     rw [if_pos c1, if_pos c1, ← one]
     rfl
    rw [if_neg c1, if_neg c1]
    by_cases c2 : c = 116
    ·
     rw [if_pos c2, if_pos c2, ← one]
     rfl
    rw [if_neg c2, if_neg c2]
    by_cases c3 : c = 34 ∨ c = 39 ∨ c = 92
    ·
     rw [if_pos c3, if_pos c3, ← one, B_take]
     rfl
    rw [if_neg c3, if_neg c3]
    by_cases c4 : c = 117
    rotate_left
    ·
     rw [if_neg c4, if_neg c4]
     rfl
    rw [if_pos c4, if_pos c4]
    subst c4
    rw [escU_b]
end Go.Proofs.YtbnpgobjbokboaaDoor.Lx
namespace Go.Proofs.YtbnpgobjbokboaaDoor.Lx
open Go.RowKit Go.Proofs.YtbnpgobjbokboaaDoor.PLex Go.Proofs.YtbnpgobjbokboaaDoorW.PrintWords Go.Proofs.YtbnpgobjbokboaaDoorW.PrintLast
set_option linter.unusedVariables false
set_option linter.unusedSimpArgs false
theorem drop_len (a l : L) : (a ++ l).drop a.length = l := by rw [List.drop_append_of_le_length (Nat.le_refl _), List.drop_length, List.nil_append]
theorem drop_len1 (a : L) (c : UInt8) (r : L) : (a ++ c :: r).drop (a.length + 1) = r := by rw [← List.drop_drop, drop_len]; rfl
def unqP (n : Nat) (acc : L) (r : Option (L × L)) : ByteArray × Int × Int :=
  match r with
  | none => (B [], 0, 10)
  | some (t, z) => (B (acc ++ t), ((n - z.length : Nat) : Int), 0)
theorem unqP_map (n : Nat) (acc t : L) (r : Option (L × L)) : unqP n acc (r.map fun p => (t ++ p.1, p.2)) = unqP n (acc ++ t) r := by
  cases r with
  | none => rfl
  | some p => simp [unqP]
theorem unq_go (q : UInt8) (hq : q ≠ 92) (l : L) : ∀ (a acc : L) (k : Nat), (q :: a ++ l).length ≤ 1073741824 → l.length ≤ k → runes_Unquote.go (B (q :: a ++ l)) k (q :: a).length acc = unqP (q :: a ++ l).length acc (unqS q l) := by
  refine unq_ind (q := q) (P := fun l => ∀ (a acc : L) (k : Nat), (q :: a ++ l).length ≤ 1073741824 → l.length ≤ k → runes_Unquote.go (B (q :: a ++ l)) k (q :: a).length acc = unqP (q :: a ++ l).length acc (unqS q l)) ?_ ?_ ?_ ?_ ?_ ?_ _ l (Nat.le_refl _)
  ·
   intro a acc k _ _
   rw [unq_nil]
   cases k with
   | zero => rfl
   | succ k =>
     rw [runes_Unquote.go, if_neg (by rw [B_size]; simp)]
     rfl
  ·
   intro r a acc k hl hk
   obtain ⟨k, rfl⟩ : ∃ m, k = m + 1 := ⟨k - 1, by simp at hk; omega⟩
   rw [unq_end, runes_Unquote.go, if_pos (by rw [B_size]; simp), B_bt, nb_app, show bt (B (q :: a ++ q :: r)) 0 = (q.toNat : Int) from B_bt _ 0, if_pos rfl]
   show (B acc, _, (0 : Int)) = (B (acc ++ []), _, (0 : Int))
   rw [List.append_nil]
   congr 2
   simp only [List.length_append, List.length_cons]
   omega
  ·
   intro r t z hq he ih a acc k hl hk
   obtain ⟨k, rfl⟩ : ∃ m, k = m + 1 := ⟨k - 1, by simp at hk; omega⟩
   have hne : ¬ (((92 : UInt8).toNat : Int) = (q.toNat : Int)) := fun e => hq (UInt8.toNat_inj.1 (by omega))
   have hz := escS_lt he
   obtain ⟨e, hr, h1, _⟩ := escS_local he
   rw [unq_esc hq he, unqP_map, runes_Unquote.go, if_pos (by rw [B_size]; simp), B_bt, nb_app, show bt (B (q :: a ++ 92 :: r)) 0 = (q.toNat : Int) from B_bt _ 0, if_neg hne, if_pos (show (((92 : UInt8).toNat : Nat) : Int) = 92 from rfl), B_drop, drop_len1, esc_b, he]
   have hlen : ((r.length - z.length : Nat) : Int) ≠ 0 := by omega
   show (if ((r.length - z.length : Nat) : Int) = 0 then _ else _) = _
   rw [if_neg hlen]
   have := ih (a ++ 92 :: e) (acc ++ t) k (by rw [hr] at hl; simpa using hl) (by simp at hk; omega)
   rw [show q :: (a ++ 92 :: e) ++ z = q :: a ++ 92 :: r by rw [hr]; simp] at this
   rw [← this]
   have hp : (q :: a).length + 1 + ((r.length - z.length : Nat) : Int).toNat = (q :: (a ++ 92 :: e)).length := by
     rw [Int.toNat_natCast, hr]
     simp only [List.length_append, List.length_cons]
     omega
   show runes_Unquote.go _ k ((q :: a).length + 1 + ((r.length - z.length : Nat) : Int).toNat) (acc ++ t) = _
   rw [hp]
  ·
   intro r hq he a acc k hl hk
   obtain ⟨k, rfl⟩ : ∃ m, k = m + 1 := ⟨k - 1, by simp at hk; omega⟩
   have hne : ¬ (((92 : UInt8).toNat : Int) = (q.toNat : Int)) := fun e => hq (UInt8.toNat_inj.1 (by omega))
   rw [unq_esc_none hq he, runes_Unquote.go, if_pos (by rw [B_size]; simp), B_bt, nb_app, show bt (B (q :: a ++ 92 :: r)) 0 = (q.toNat : Int) from B_bt _ 0, if_neg hne, if_pos (show (((92 : UInt8).toNat : Nat) : Int) = 92 from rfl), B_drop, drop_len1, esc_b, he]
   rfl
  ·
   intro c r h1 h2 h3 a acc k hl hk
   obtain ⟨k, rfl⟩ : ∃ m, k = m + 1 := ⟨k - 1, by simp at hk; omega⟩
   have hne : ¬ ((c.toNat : Int) = (q.toNat : Int)) := fun e => h1 (UInt8.toNat_inj.1 (by omega))
   have hne2 : ¬ ((c.toNat : Int) = 92) := fun e => h2 (UInt8.toNat_inj.1 (show c.toNat = 92 by omega))
   have hdg : Lib.decodeGo (B (c :: r)) = dec (c :: r) := by rw [decodeGo_b, if_neg (by simp)]
   rw [unq_none h1 h2 h3, runes_Unquote.go, if_pos (by rw [B_size]; simp), B_bt, nb_app, show bt (B (q :: a ++ c :: r)) 0 = (q.toNat : Int) from B_bt _ 0, if_neg hne, if_neg hne2, B_drop, drop_len, hdg, if_pos]
   ·
    rfl
   rcases h3 with h3 | h3 | h3
   ·
    exact Or.inl h3
   ·
    exact Or.inr (Or.inl h3)
   unfold Bad at h3
   rw [h3]
   exact Or.inr (Or.inr ⟨rfl, rfl⟩)
  intro c r h1 h2 h3 ih a acc k hl hk
  obtain ⟨k, rfl⟩ : ∃ m, k = m + 1 := ⟨k - 1, by simp at hk; omega⟩
  have hne : ¬ ((c.toNat : Int) = (q.toNat : Int)) := fun e => h1 (UInt8.toNat_inj.1 (by omega))
  have hne2 : ¬ ((c.toNat : Int) = 92) := fun e => h2 (UInt8.toNat_inj.1 (show c.toNat = 92 by omega))
  have hw := dec_width (l := c :: r) (by simp)
  have hdg : Lib.decodeGo (B (c :: r)) = dec (c :: r) := by rw [decodeGo_b, if_neg (by simp)]
  rw [unq_step h1 h2 h3, unqP_map, runes_Unquote.go, if_pos (by rw [B_size]; simp), B_bt, nb_app, show bt (B (q :: a ++ c :: r)) 0 = (q.toNat : Int) from B_bt _ 0, if_neg hne, if_neg hne2, B_drop, drop_len, hdg, if_neg]
  rotate_left
  ·
   intro hh
   apply h3
   rcases hh with hh | hh | hh
   ·
    exact Or.inl hh
   ·
    exact Or.inr (Or.inl hh)
   exact Or.inr (Or.inr (Prod.ext hh.1 hh.2))
  have := ih (a ++ (c :: r).take (dec (c :: r)).2) (acc ++ (c :: r).take (dec (c :: r)).2) k (by
    rw [show q :: (a ++ (c :: r).take (dec (c :: r)).2) ++ (c :: r).drop (dec (c :: r)).2 = q :: a ++ c :: r by rw [← List.cons_append, List.append_assoc, List.take_append_drop]]
    exact hl) (by rw [List.length_drop]; simp only [List.length_cons] at hk ⊢; omega)
  rw [show q :: (a ++ (c :: r).take (dec (c :: r)).2) ++ (c :: r).drop (dec (c :: r)).2 = q :: a ++ c :: r by rw [← List.cons_append, List.append_assoc, List.take_append_drop]] at this
  rw [← this, B_extract, B_data, drop_len, show (q :: a).length + (dec (c :: r)).2 - (q :: a).length = (dec (c :: r)).2 by omega]
  have hp : (q :: a).length + (dec (c :: r)).2 = (q :: (a ++ (c :: r).take (dec (c :: r)).2)).length := by
    simp only [List.length_cons, List.length_append, List.length_take] at hw ⊢
    omega
  rw [hp]
theorem unq_b (c : UInt8) (r : L) (hc : c = 34 ∨ c = 39) (hl : (c :: r).length ≤ 1073741824) : runes_Unquote.f (B (c :: r)) = some (unqP (c :: r).length [] (unqS c r)) := by
  have hb : bt (B (c :: r)) 0 = (c.toNat : Int) := B_bt _ 0
  unfold runes_Unquote.f
  rw [if_pos (by rw [B_size]; omega), hb, if_neg]
  ·
   have := unq_go c (by rcases hc with rfl | rfl <;> decide) r [] [] (c :: r).length hl (by simp)
   rw [B_size]
   exact congrArg _ this
  rw [B_size]
  intro hh
  rcases hh with hh | hh
  ·
   simp at hh
  rcases hc with rfl | rfl
  rotate_left
  ·
   exact hh.2 rfl
  exact hh.1 rfl
theorem word_fin (s : Bool) (l : L) (n k : Nat) (hn : n ≤ l.length) : ((lex_word.f (k + 20) ((B l).extract 0 n)).bind fun t => (if t = true then (some ((2 : Int), (B l).extract 0 n, (0 : Int), (0 : Int), (n : Int), (0 : Int))) else (some (1, (B l).extract 0 n, 0, 0, (n : Int), 0)))) = some (tokP (.ok (⟨if l.take n ∈ words then 2 else 1, l.take n, 0⟩, n))) := by
  rw [B_take, word_b, Option.bind_some]
  by_cases h : l.take n ∈ words
  rotate_left
  ·
   rw [if_neg (by simpa using h), if_neg h]
   rfl
  rw [if_pos (decide_eq_true h), if_pos h]
  rfl
theorem tok_l0 (s : Bool) (l : L) (hl : l.length ≤ 1073741824) (r : L) : ∀ (i k : Nat), l.drop i = r → i ≤ l.length → r.length + 30 ≤ k →
    lex_token.l0 k (B l) s (i : Int) ((sgn s false r : Nat) : Int) = some (tokP (.ok (⟨if l.take (i + tail s r) ∈ words then 2 else 1, l.take (i + tail s r), 0⟩, i + tail s r))) := by
  refine tail_ind s (P := fun r => ∀ (i k : Nat), l.drop i = r → i ≤ l.length → r.length + 30 ≤ k →
    lex_token.l0 k (B l) s (i : Int) ((sgn s false r : Nat) : Int) = some (tokP (.ok (⟨if l.take (i + tail s r) ∈ words then 2 else 1, l.take (i + tail s r), 0⟩, i + tail s r)))) ?_ ?_ _ r (Nat.le_refl _)
  ·
   intro r h0 i k hr hi hk
   obtain ⟨k, rfl⟩ : ∃ m, k = m + 21 := ⟨k - 21, by omega⟩
   rw [tail_zero h0, h0, lex_token.l0, if_neg (by decide), if_pos (by omega), if_pos (by rw [B_size]; omega), Int.toNat_natCast, Nat.add_zero]
   exact word_fin s l i k hi
  intro r h0 ih i k hr hi hk
  obtain ⟨k, rfl⟩ : ∃ m, k = m + 5 := ⟨k - 5, by omega⟩
  have hle := sgn_le s false r
  have hlr : r.length = l.length - i := by rw [← hr, List.length_drop]
  have hw : wrap64 ((i : Int) + ((sgn s false r : Nat) : Int)) = ((i + sgn s false r : Nat) : Int) := by unfold wrap64; omega
  rw [tail_step h0, lex_token.l0, if_pos (by omega), hw, if_pos (by omega), if_pos (by rw [B_size]; omega), Int.toNat_natCast, B_drop, name_b, Option.bind_some]
  have hd : l.drop (i + sgn s false r) = r.drop (sgn s false r) := by rw [← List.drop_drop, hr]
  rw [hd, ih (i + sgn s false r) (k + 4) hd (by omega) (by rw [List.length_drop]; omega), ← Nat.add_assoc]
theorem signs_b : lex_signs.f = some (signs.map B) := rfl
theorem sign_l1 (l : L) (xs : List L) (hx : xs.length ≤ 1000) : ∀ (d j k : Nat), xs.length - j = d → j ≤ xs.length → d < k →
    lex_token.l1 k (B l) (xs.map B) (xs.length : Int) (j : Int) = some (tokP (match (xs.drop j).find? (fun g => g.isPrefixOf l) with | none => .error 40 | some g => .ok (⟨5, g, 0⟩, g.length))) := by
  intro d
  induction d with
  | zero =>
    intro j k hd hj hk
    obtain ⟨k, rfl⟩ : ∃ m, k = m + 1 := ⟨k - 1, by omega⟩
    rw [lex_token.l1, if_neg (by omega), List.drop_of_length_le (by omega)]
    rfl
  | succ d ih =>
    intro j k hd hj hk
    obtain ⟨k, rfl⟩ : ∃ m, k = m + 1 := ⟨k - 1, by omega⟩
    have hlt : j < xs.length := by omega
    rw [lex_token.l1, if_pos (by omega), if_pos (by omega), if_pos (by rw [List.length_map]; omega), rdOf_b xs j hlt, prefix_b, Option.bind_some, List.drop_eq_getElem_cons hlt]
    by_cases he : xs[j].isPrefixOf l = true
    ·
     have hf : (xs[j] :: xs.drop (j + 1)).find? (fun g => g.isPrefixOf l) = some xs[j] := List.find?_cons_of_pos (p := fun g : L => g.isPrefixOf l) he
     rw [if_pos he, hf, B_size]
     rfl
    have hf : (xs[j] :: xs.drop (j + 1)).find? (fun g => g.isPrefixOf l) = (xs.drop (j + 1)).find? (fun g => g.isPrefixOf l) := List.find?_cons_of_neg (p := fun g : L => g.isPrefixOf l) he
    rw [if_neg he, wrap_1 _ (by omega), ih (j + 1) k (by omega) (by omega) (by omega), hf]
theorem token_b (s : Bool) (l : L) (hne : l ≠ []) (hl : l.length ≤ 1073741824) (k : Nat) (hk : l.length + 60 ≤ k) : lex_token.f k (B l) s = some (tokP (tokS s l)) := by
  obtain ⟨k, rfl⟩ : ∃ m, k = m + 40 := ⟨k - 40, by omega⟩
  unfold lex_token.f
  have hn := name_b s true l (k + 36)
  rw [hn, Option.bind_some]
  by_cases h0 : sgn s true l = 0
  rotate_left
  ·
   rw [if_pos (by omega), Option.bind_some]
   have hle := sgn_le s true l
   have hns : nameS s l = sgn s true l + tail s (l.drop (sgn s true l)) := by unfold nameS; rw [if_neg h0]
   have hw : wrap64 ((0 : Int) + ((sgn s true l : Nat) : Int)) = ((sgn s true l : Nat) : Int) := by unfold wrap64; omega
   rw [lex_token.l0, if_pos (by omega), hw, if_pos (by omega), if_pos (by rw [B_size]; omega), Int.toNat_natCast, B_drop, name_b, Option.bind_some, tok_name (by rw [hns]; omega), hns]
   exact tok_l0 s l hl (l.drop (sgn s true l)) (sgn s true l) (k + 39) rfl hle (by rw [List.length_drop]; omega)
  rw [if_neg (by omega)]
  have hn0 := nameS_pos.2 h0
  match l with
  | [] => exact absurd rfl hne
  | c :: r =>
    have hb : bt (B (c :: r)) 0 = (c.toNat : Int) := B_bt _ 0
    have hc := c.toNat_lt
    rw [if_pos (by rw [B_size]; simp), hb]
    have hj1 : ∀ d : Bool, dig c = d → lex_token.j1 (k + 40) (B (c :: r)) s d = some (tokP (tokS s (c :: r))) := by
      intro d hd
      cases d with
      | true =>
        rw [lex_token.j1, if_pos rfl, number_b s c r hd hl (k + 39) (by simp only [List.length_cons] at hk; omega), tok_num hn0 hd]
        rfl
      | false =>
        rw [lex_token.j1, if_neg (by decide), if_pos (by rw [B_size]; simp), hb]
        have hj2 : ∀ d2 : Bool, decide (c = 34 ∨ c = 39) = d2 → lex_token.j2 (k + 39) (B (c :: r)) d2 = some (tokP (tokS s (c :: r))) := by
          intro d2 hd2
          cases d2 with
          | true =>
            have hq := of_decide_eq_true hd2
            rw [lex_token.j2, if_pos rfl, unq_b c r hq hl, tok_text hn0 hd hq, Option.bind_some]
            cases hu : unqS c r with
            | none => rfl
            | some p => rfl
          | false =>
            have hq := of_decide_eq_false hd2
            rw [lex_token.j2, if_neg (by decide), signs_b, Option.bind_some, List.length_map, tok_sign hn0 hd hq]
            exact sign_l1 (c :: r) signs (by decide) 28 0 (k + 38) rfl (by decide) (by omega)
        have h34 : ((c.toNat : Int) = 34) ↔ c = 34 := u8_eq (n := 34) (by omega)
        have h39 : ((c.toNat : Int) = 39) ↔ c = 39 := u8_eq (n := 39) (by omega)
        by_cases c1 : c = 34
        ·
         rw [if_pos (h34.2 c1)]
         exact hj2 true (decide_eq_true (Or.inl c1))
        rw [if_neg (fun e => c1 (h34.1 e))]
        refine hj2 _ ?_
        rw [Bool.eq_iff_iff, decide_eq_true_eq, beq_iff_eq, h39]
        exact ⟨fun h => h.resolve_left c1, Or.inr⟩
    by_cases h48 : (c.toNat : Int) ≥ 48
    rotate_left
    ·
     rw [if_neg h48]
     refine hj1 _ ?_
     unfold dig
     rw [Bool.and_eq_false_iff]
     simp only [decide_eq_false_iff_not]
     omega
    rw [if_pos h48]
    refine hj1 _ ?_
    unfold dig
    rw [Bool.eq_iff_iff]
    simp only [Bool.and_eq_true, decide_eq_true_eq]
    omega
def tok36 (n : Nat) (p : T × Nat) : S36 := ⟨(p.1.kind : Int), B p.1.text, (p.1.n : Int), ((n - p.2 : Nat) : Int)⟩
def srcP (n : Nat) (acc : List S36) (r : Except (Nat × Nat) (List (T × Nat))) : List S36 × Int × Int :=
  match r with
  | .error (m, e) => ([], ((n - m : Nat) : Int), (e : Int))
  | .ok ts => (acc ++ ts.map (tok36 n), 0, 0)
theorem srcP_map (n : Nat) (acc : List S36) (t : T × Nat) (r : Except (Nat × Nat) (List (T × Nat))) : srcP n acc (r.map fun ts => t :: ts) = srcP n (acc ++ [tok36 n t]) r := by
  cases r with
  | error e => rfl
  | ok ts => simp [srcP, Except.map]
theorem numS_err {s : Bool} {l : L} {e : Nat} (h : numS s l = .error e) : e ≠ 0 := by
  unfold numS at h
  split at h
  ·
   rw [← Except.error.inj h]; decide
  split at h
  rotate_left
  ·
   cases h
  rw [← Except.error.inj h]; decide
theorem tok_err {s : Bool} {l : L} {e : Nat} (h : tokS s l = .error e) : e ≠ 0 := by
  by_cases h0 : nameS s l = 0
  rotate_left
  ·
   rw [tok_name h0] at h
   cases h
  match l with
  | [] => rw [tok_nil] at h; rw [← Except.error.inj h]; decide
  | c :: r =>
    by_cases hd : dig c = true
    ·
     rw [tok_num h0 hd] at h
     exact numS_err h
    have hd : dig c = false := by simpa using hd
    by_cases hc : c = 34 ∨ c = 39
    ·
     rw [tok_text h0 hd hc] at h
     cases hu : unqS c r with
     | none => rw [hu] at h; rw [← Except.error.inj h]; decide
     | some p => rw [hu] at h; cases h
    rw [tok_sign h0 hd hc] at h
    cases hf : signs.find? (fun g => g.isPrefixOf (c :: r)) with
    | none => rw [hf] at h; rw [← Except.error.inj h]; decide
    | some g => rw [hf] at h; cases h
theorem lex_l0 (s : Bool) (l : L) : ∀ (a : L) (acc : List S36) (k : Nat), (a ++ l).length ≤ 1073741824 → acc.length ≤ a.length → l.length + 70 ≤ k → lex_Lex.l0 k (B (a ++ l)) s acc (a.length : Int) = some (srcP (a ++ l).length acc (lexS s l)) := by
  refine lex_ind s (P := fun l => ∀ (a : L) (acc : List S36) (k : Nat), (a ++ l).length ≤ 1073741824 → acc.length ≤ a.length → l.length + 70 ≤ k → lex_Lex.l0 k (B (a ++ l)) s acc (a.length : Int) = some (srcP (a ++ l).length acc (lexS s l))) ?_ ?_ ?_ ?_ _ l (Nat.le_refl _)
  ·
   intro l r h a acc k hl ha hk
   obtain ⟨k, rfl⟩ : ∃ m, k = m + 1 := ⟨k - 1, by omega⟩
   rw [lex_open h, lex_Lex.l0, skip_f a l hl, h, Option.bind_some, if_neg (by simp)]
   rfl
  ·
   intro l h a acc k hl ha hk
   obtain ⟨k, rfl⟩ : ∃ m, k = m + 1 := ⟨k - 1, by omega⟩
   rw [lex_done h, lex_Lex.l0, skip_f a l hl, h, Option.bind_some, if_pos rfl, if_pos (by rw [B_size]; simp)]
   simp [srcP]
  ·
   intro l r e h hr ht a acc k hl ha hk
   obtain ⟨k, rfl⟩ : ∃ m, k = m + 1 := ⟨k - 1, by omega⟩
   obtain ⟨x, hx⟩ := skip_split h
   have hrl := List.length_pos_iff.2 hr
   have hxl : (a ++ l).length - r.length = (a ++ x).length := by rw [hx]; simp only [List.length_append]; omega
   have hd : (a ++ l).drop (a ++ x).length = r := by rw [hx, ← List.append_assoc]; exact drop_len _ _
   have hll : (a ++ l).length = (a ++ x).length + r.length := by rw [hx]; simp only [List.length_append]; omega
   rw [lex_bad h hr ht, lex_Lex.l0, skip_f a l hl, h, Option.bind_some, if_pos rfl]
   simp only [hxl]
   rw [if_neg (by rw [B_size]; omega), if_pos (by omega), if_pos (by rw [B_size]; omega), Int.toNat_natCast, B_drop, hd, token_b s r hr (by omega) k (by rw [hx, List.length_append] at hk; omega), ht, Option.bind_some]
   have he := tok_err ht
   show (if ((e : Nat) : Int) = 0 then _ else _) = _
   rw [if_neg (by omega)]
   show some (([] : List S36), _, _) = some (([] : List S36), _, _)
   rw [hxl]
   rfl
  intro l r t n h hr ht ih a acc k hl ha hk
  obtain ⟨k, rfl⟩ : ∃ m, k = m + 1 := ⟨k - 1, by omega⟩
  obtain ⟨x, hx⟩ := skip_split h
  obtain ⟨t1, t2, t3⟩ := tok_len ht
  have hxl : (a ++ l).length - r.length = (a ++ x).length := by rw [hx]; simp only [List.length_append]; omega
  have hd : (a ++ l).drop (a ++ x).length = r := by rw [hx, ← List.append_assoc]; exact drop_len _ _
  have hll : (a ++ l).length = (a ++ x).length + r.length := by rw [hx]; simp only [List.length_append]; omega
  rw [lex_step h hr ht, srcP_map, lex_Lex.l0, skip_f a l hl, h, Option.bind_some, if_pos rfl]
  simp only [hxl]
  rw [if_neg (by rw [B_size]; omega), if_pos (by omega), if_pos (by rw [B_size]; omega), Int.toNat_natCast, B_drop, hd, token_b s r hr (by omega) k (by rw [hx, List.length_append] at hk; omega), ht, Option.bind_some]
  show (if (0 : Int) = 0 then _ else _) = _
  have hal : a.length ≤ (a ++ l).length := by rw [List.length_append]; omega
  rw [if_pos rfl, if_pos (by omega)]
  have hw : wrap64 (((a ++ x).length : Nat) + ((n : Nat) : Int)) = ((a ++ x ++ r.take n).length : Nat) := by
    have : (a ++ x ++ r.take n).length = (a ++ x).length + n := by rw [List.length_append, List.length_take]; omega
    rw [this]
    unfold wrap64
    omega
  have := ih (a ++ x ++ r.take n) (acc ++ [tok36 (a ++ l).length (t, r.length)]) k (by rw [List.append_assoc, List.take_append_drop, List.append_assoc, ← hx]; exact hl) (by simp only [List.length_append, List.length_take, List.length_cons, List.length_nil]; omega) (by rw [List.length_drop]; rw [hx, List.length_append] at hk; omega)
  rw [List.append_assoc (a ++ x), List.take_append_drop, List.append_assoc a x r, ← hx] at this
  rw [← this]
  show lex_Lex.l0 k _ s (acc ++ [_]) (wrap64 (((a ++ x).length : Nat) + ((n : Nat) : Int))) = _
  rw [hw]
  have hk36 : (⟨(t.kind : Int), B t.text, (t.n : Int), (((a ++ x).length : Nat) : Int)⟩ : S36) = tok36 (a ++ l).length (t, r.length) := by
    unfold tok36
    simp only [hxl]
  show lex_Lex.l0 k _ s (acc ++ [⟨(t.kind : Int), B t.text, (t.n : Int), (((a ++ x).length : Nat) : Int)⟩]) _ = _
  rw [hk36]
theorem lex_b (s : Bool) (l : L) (hl : l.length ≤ 1073741824) (k : Nat) (hk : l.length + 70 ≤ k) : lex_Lex.f k (B l) s = some (srcP l.length [] (lexS s l)) := by
  unfold lex_Lex.f
  exact lex_l0 s l [] [] k hl (Nat.le_refl _) hk
end Go.Proofs.YtbnpgobjbokboaaDoor.Lx
namespace Go.Proofs.YtbnpgobjbokboaaDoor.Lx
open Go.RowKit Go.Proofs.YtbnpgobjbokboaaDoor.PLex Go.Proofs.YtbnpgobjbokboaaDoorW.PrintWords Go.Proofs.YtbnpgobjbokboaaDoorW.PrintLast
set_option linter.unusedVariables false
set_option linter.unusedSimpArgs false
theorem sure_k : gussetlaw04_sure.f 100 = some true := by kernel_rfl
theorem sure_ev : Ev (fun k => gussetlaw04_sure.f k) true := Ev.of (fun k => gussetlaw04_sure.mono k) sure_k
theorem sure_bind : Ev (fun k => (gussetlaw04_sure.f k).bind fun t => some t) true := Ev.bind (f := fun _ t => some t) sure_ev (Ev.now _)
theorem lex_ev (s : Bool) (l : L) (hl : l.length ≤ 1073741824) : Ev (fun k => lex_Lex.f k (B l) s) (srcP l.length [] (lexS s l)) := ⟨l.length + 70, fun k hk => lex_b s l hl k hk⟩
theorem rd_nat (xs : List S36) (j : Nat) (h : j < xs.length) : rd_T36 xs (j : Int) = xs[j] := by
  unfold rd_T36
  rw [Int.toNat_natCast, List.getD_eq_getElem?_getD, List.getElem?_eq_getElem h]
  rfl
theorem same_l0 (xs : List S36) (hx : xs.length ≤ 1073741824) : ∀ (d j k : Nat), xs.length - j = d → j ≤ xs.length → d < k → gussetlaw04_same.l0 k xs xs (j : Int) = some true := by
  intro d
  induction d with
  | zero =>
    intro j k hd hj hk
    obtain ⟨k, rfl⟩ : ∃ m, k = m + 1 := ⟨k - 1, by omega⟩
    rw [gussetlaw04_same.l0, if_neg (by omega)]
  | succ d ih =>
    intro j k hd hj hk
    obtain ⟨k, rfl⟩ : ∃ m, k = m + 1 := ⟨k - 1, by omega⟩
    have hlt : j < xs.length := by omega
    rw [gussetlaw04_same.l0, if_pos (by omega), if_pos (by omega), if_pos (by omega), if_neg (by simp), wrap_1 _ (by omega)]
    exact ih (j + 1) k (by omega) (by omega) (by omega)
theorem same_ev (xs : List S36) (hx : xs.length ≤ 1073741824) : Ev (fun k => gussetlaw04_same.f k xs xs) true := ⟨xs.length + 1, fun k hk => by
  show gussetlaw04_same.f k xs xs = some true
  unfold gussetlaw04_same.f
  rw [if_pos rfl]
  exact same_l0 xs hx xs.length 0 k rfl (by omega) (by omega)⟩
theorem lex_err {s : Bool} (l : L) : ∀ m e, lexS s l = .error (m, e) → e ≠ 0 ∧ 0 < m ∧ m ≤ l.length := by
  refine lex_ind s (P := fun l => ∀ m e, lexS s l = .error (m, e) → e ≠ 0 ∧ 0 < m ∧ m ≤ l.length) ?_ ?_ ?_ ?_ _ l (Nat.le_refl _)
  ·
   intro l r h m e h2
   rw [lex_open h] at h2
   obtain ⟨rfl, rfl⟩ := Prod.mk.inj (Except.error.inj h2)
   have h3 := (skip_suffix l).2.2
   have h4 := skip_le l
   rw [h] at h3 h4
   exact ⟨by decide, List.length_pos_iff.2 (h3 rfl), h4⟩
  ·
   intro l h m e h2
   rw [lex_done h] at h2
   cases h2
  ·
   intro l r e h hr ht m e' h2
   rw [lex_bad h hr ht] at h2
   obtain ⟨rfl, rfl⟩ := Prod.mk.inj (Except.error.inj h2)
   have h4 := skip_le l
   rw [h] at h4
   exact ⟨tok_err ht, List.length_pos_iff.2 hr, h4⟩
  intro l r t n h hr ht ih m e h2
  rw [lex_step h hr ht] at h2
  obtain ⟨h3, h4, h5⟩ := ih m e (map_err h2)
  have h6 := skip_le l
  rw [h] at h6
  simp only at h6
  rw [List.length_drop] at h5
  exact ⟨h3, h4, by omega⟩
end Go.Proofs.YtbnpgobjbokboaaDoor.Lx
