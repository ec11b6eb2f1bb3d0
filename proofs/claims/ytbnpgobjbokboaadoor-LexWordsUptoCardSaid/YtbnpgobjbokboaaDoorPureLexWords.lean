/- The pure statement of LexWords: each word is one, and a letter behind it makes a name of it. -/
import Derived.Test.YtbnpgobjbokboaaDoorPLexx1
import Derived.Test.YtbnpgobjbokboaaDoorPLexx5
import Derived.Test.YtbnpgobjbokboaaDoorPLexx8
import Derived.Test.YtbnpgobjbokboaaDoorPLexx12
import Derived.Test.YtbnpgobjbokboaaDoorPLexx27
import Derived.KernelRfl
namespace Go.Proofs.YtbnpgobjbokboaaDoor.Pure
open Go.RowKit Go.Proofs.YtbnpgobjbokboaaDoor.PLex Go.Proofs.YtbnpgobjbokboaaDoorW.PrintWords Go.Proofs.YtbnpgobjbokboaaDoorW.PrintLast
set_option linter.unusedVariables false
set_option linter.unusedSimpArgs false
/-- What LexWords tells of the word at place m. -/
def wordAt (k : Nat) (x4 : List ByteArray) (m : Int) : Option Bool := (if 0 ≤ m then (if m < (x4.length : Int) then ((lex_Lex.f k (rdOf ByteArray.empty x4 m) false).bind fun bt315 => (if (rdOf ByteArray.empty x4 m).size + 1 ≤ 9223372036854775807 then ((lex_Lex.f k ((rdOf ByteArray.empty x4 m) ++ (⟨#[95]⟩ : ByteArray)) true).bind fun bt321 => (if bt315.2.2 = 0 then (if bt321.2.2 = 0 then (if (bt315.1.length : Int) = 1 then (if 0 < (bt315.1.length : Int) then (if ((rd_T36 bt315.1 0).f0) = 2 then (if (bt321.1.length : Int) = 1 then (if 0 < (bt321.1.length : Int) then (if ((rd_T36 bt321.1 0).f0) = 1 then ((lex_Words.f).bind fun t328 => (if m < (t328.length : Int) then (if (rdOf ByteArray.empty t328 m).toList = (rdOf ByteArray.empty x4 m).toList then ((gussetlaw04_sure.f k).bind fun t333 => (some t333)) else (some false)) else (none))) else (some false)) else (none)) else (some false)) else (some false)) else (none)) else (some false)) else (some false)) else (some false))) else (none))) else (none)) else (none))
theorem words_end (k : Nat) (x0 : Int) (x3 x4 : List ByteArray) (x5 : Int) (h : ¬ x5 < (x3.length : Int)) : gussetlaw04_LexWords.l0 (k + 1) x0 x3 x4 x5 = wordAt k x4 (mx 0 (mn x0 (wrap64 ((x4.length : Int) - 1)))) := by
  rw [gussetlaw04_LexWords.l0, if_neg h]
  rfl
theorem words_one (k : Nat) (x0 : Int) (x3 x4 : List ByteArray) (x5 : Int) (h : x5 < (x3.length : Int)) (h0 : 0 ≤ x5) (h4 : x5 < (x4.length : Int)) (he : (rdOf ByteArray.empty x3 x5).toList = (rdOf ByteArray.empty x4 x5).toList) : gussetlaw04_LexWords.l0 (k + 1) x0 x3 x4 x5 = gussetlaw04_LexWords.l0 k x0 (x3.set (x5 : Int).toNat (⟨#[115, 112, 111, 105, 108, 116]⟩ : ByteArray)) x4 (wrap64 (x5 + 1)) := by
  rw [gussetlaw04_LexWords.l0, if_pos h, if_pos h0, if_pos h4, if_pos he]
/-- The list of the words, as the document's function lays it. -/
def wl : List ByteArray := (gussetref04_Words.f).getD []
theorem words_l0 (x0 : Int) : ∀ (d j k : Nat) (x3 : List ByteArray), 19 - j = d → j ≤ 19 → x3.length = 19 → x3.drop j = wl.drop j → gussetlaw04_LexWords.l0 (k + d + 1) x0 x3 wl (j : Int) = wordAt k wl (mx 0 (mn x0 18)) := by
  have hw : wl.length = 19 := by kernel_rfl
  intro d
  induction d with
  | zero =>
    intro j k x3 hd hj hx he
    rw [words_end _ _ _ _ _ (by omega), hw, show wrap64 (((19 : Nat) : Int) - 1) = 18 by unfold wrap64; omega]
  | succ d ih =>
    intro j k x3 hd hj hx he
    have hj1 : j < x3.length := by omega
    have hj2 : j < wl.length := by omega
    have h2 : x3[j] = wl[j] := by
      rw [List.drop_eq_getElem_cons hj1, List.drop_eq_getElem_cons hj2] at he
      injection he
    have h3 : x3.drop (j + 1) = wl.drop (j + 1) := by
      rw [List.drop_eq_getElem_cons hj1, List.drop_eq_getElem_cons hj2] at he
      injection he
    rw [show k + (d + 1) + 1 = (k + d + 1) + 1 by omega, words_one _ _ _ _ _ (by omega) (by omega) (by omega) ?_]
    · rw [show wrap64 ((j : Int) + 1) = ((j + 1 : Nat) : Int) by unfold wrap64; omega, Int.toNat_natCast]
      refine ih (j + 1) k _ (by omega) (by omega) (by rw [List.length_set]; exact hx) ?_
      rw [List.drop_set_of_lt (by omega)]
      exact h3
    · unfold rdOf
      rw [Int.toNat_natCast, List.getD_eq_getElem?_getD, List.getD_eq_getElem?_getD, List.getElem?_eq_getElem hj1, List.getElem?_eq_getElem hj2, h2]
theorem mx_clamp (x0 : Int) : 0 ≤ mx 0 (mn x0 18) ∧ mx 0 (mn x0 18) ≤ 18 := by
  unfold mx mn
  split <;> split <;> omega
theorem word0 : wordAt 200 wl ((0 : Nat) : Int) = some true := by kernel_rfl
theorem word1 : wordAt 200 wl ((1 : Nat) : Int) = some true := by kernel_rfl
theorem word2 : wordAt 200 wl ((2 : Nat) : Int) = some true := by kernel_rfl
theorem word3 : wordAt 200 wl ((3 : Nat) : Int) = some true := by kernel_rfl
theorem word4 : wordAt 200 wl ((4 : Nat) : Int) = some true := by kernel_rfl
theorem word5 : wordAt 200 wl ((5 : Nat) : Int) = some true := by kernel_rfl
theorem word6 : wordAt 200 wl ((6 : Nat) : Int) = some true := by kernel_rfl
theorem word7 : wordAt 200 wl ((7 : Nat) : Int) = some true := by kernel_rfl
theorem word8 : wordAt 200 wl ((8 : Nat) : Int) = some true := by kernel_rfl
theorem word9 : wordAt 200 wl ((9 : Nat) : Int) = some true := by kernel_rfl
theorem word10 : wordAt 200 wl ((10 : Nat) : Int) = some true := by kernel_rfl
theorem word11 : wordAt 200 wl ((11 : Nat) : Int) = some true := by kernel_rfl
theorem word12 : wordAt 200 wl ((12 : Nat) : Int) = some true := by kernel_rfl
theorem word13 : wordAt 200 wl ((13 : Nat) : Int) = some true := by kernel_rfl
theorem word14 : wordAt 200 wl ((14 : Nat) : Int) = some true := by kernel_rfl
theorem word15 : wordAt 200 wl ((15 : Nat) : Int) = some true := by kernel_rfl
theorem word16 : wordAt 200 wl ((16 : Nat) : Int) = some true := by kernel_rfl
theorem word17 : wordAt 200 wl ((17 : Nat) : Int) = some true := by kernel_rfl
theorem word18 : wordAt 200 wl ((18 : Nat) : Int) = some true := by kernel_rfl
theorem LexWords (a0 : Int) (h : True) : ∃ k, gussetlaw04_LexWords.f k a0 = some true := by
  refine ⟨200 + 19 + 1, ?_⟩
  have h1 : gussetlaw04_LexWords.f (200 + 19 + 1) a0 = gussetlaw04_LexWords.l0 (200 + 19 + 1) a0 wl wl ((0 : Nat) : Int) := by
    unfold gussetlaw04_LexWords.f
    rfl
  rw [h1, words_l0 a0 19 0 200 wl rfl (by omega) (by kernel_rfl) rfl]
  obtain ⟨h2, h3⟩ := mx_clamp a0
  generalize mx 0 (mn a0 18) = m at h2 h3
  obtain ⟨n, rfl⟩ : ∃ n : Nat, m = (n : Int) := ⟨m.toNat, by omega⟩
  obtain rfl | rfl | rfl | rfl | rfl | rfl | rfl | rfl | rfl | rfl | rfl | rfl | rfl | rfl | rfl | rfl | rfl | rfl | rfl : n = 0 ∨ n = 1 ∨ n = 2 ∨ n = 3 ∨ n = 4 ∨ n = 5 ∨ n = 6 ∨ n = 7 ∨ n = 8 ∨ n = 9 ∨ n = 10 ∨ n = 11 ∨ n = 12 ∨ n = 13 ∨ n = 14 ∨ n = 15 ∨ n = 16 ∨ n = 17 ∨ n = 18 := by omega
  · exact word0
  · exact word1
  · exact word2
  · exact word3
  · exact word4
  · exact word5
  · exact word6
  · exact word7
  · exact word8
  · exact word9
  · exact word10
  · exact word11
  · exact word12
  · exact word13
  · exact word14
  · exact word15
  · exact word16
  · exact word17
  · exact word18
end Go.Proofs.YtbnpgobjbokboaaDoor.Pure
