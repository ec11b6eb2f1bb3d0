/- A value's text, as the document writes it: the same. -/
import Derived.Test.YtjbolkkbehfnmaaDoorVT
import Derived.Lib.EndianBits
import Derived.Lib.ItoaLen
import Derived.Test.YtjbolkkbehfnmaaDoorPValx5
namespace Go.Proofs.YtjbolkkbehfnmaaDoor.Val
open Go.RowKit Go.Proofs.YtjbolkkbehfnmaaDoor.PVal Go.Proofs.YtjbolkkbehfnmaaDoorW.PrintWords Go.Proofs.YtjbolkkbehfnmaaDoorW.PrintLast Go.Proofs.YtjbolkkbehfnmaaDoorW.PrintMore
set_option linter.unusedVariables false
set_option linter.unusedSimpArgs false
def B (l : List UInt8) : ByteArray := ⟨l.toArray⟩
theorem B_size (l : List UInt8) : (B l).size = l.length := by show l.toArray.size = _; simp
theorem B_app (l m : List UInt8) : B l ++ B m = B (l ++ m) := by
  apply ByteArray.ext
  apply Array.toList_inj.1
  rw [ByteArray.data_append, Array.toList_append]
  rfl
theorem num_one : ∀ d : Nat, d < 10 → strOfNums [((48 + d : Nat) : Int)] = B [UInt8.ofNat (48 + d)] := by decide +kernel
/-- The digits of what is left: none of nothing. -/
def dd (u : Nat) : List UInt8 := if u = 0 then [] else Lib.decDigits u
theorem dd_step (u : Nat) (h : u ≠ 0) : dd u = dd (u / 10) ++ [UInt8.ofNat (48 + u % 10)] := by
  unfold dd
  rw [if_neg h, Lib.decDigits]
  by_cases hu : u < 10
  · rw [dif_pos hu, if_pos (by omega), Nat.mod_eq_of_lt hu]
    rfl
  · rw [dif_neg hu, if_neg (by omega)]
theorem print_l (s : List UInt8) (hs : s.length ≤ 1) : ∀ (m u : Nat) (acc : List UInt8), u < 10 ^ m → u < 18446744073709551616 → acc.length + m ≤ 40 →
    gussetref23_Print.l0 (m + 1) (u : Int) (B s) (B acc) = some (B (s ++ dd u ++ acc)) ∧ (dd u).length ≤ m := by
  intro m
  induction m with
  | zero =>
    intro u acc hu _ ha
    have h0 : u = 0 := by simpa using hu
    subst h0
    refine ⟨?_, by simp [dd]⟩
    rw [gussetref23_Print.l0, if_neg (by decide), if_pos (by rw [B_size, B_size]; omega), B_app]
    simp [dd]
  | succ m ih =>
    intro u acc hu hu2 ha
    by_cases h0 : u = 0
    · subst h0
      refine ⟨?_, by simp [dd]⟩
      rw [gussetref23_Print.l0, if_neg (by decide), if_pos (by rw [B_size, B_size]; omega), B_app]
      simp [dd]
    · have h1 : (IntKind.u64.wrap (48 + (Int.tmod (u : Int) 10))) % 256 = ((48 + u % 10 : Nat) : Int) := by
        rw [Int.tmod_eq_emod_of_nonneg (by omega), wraps_u64 _ (by omega) (by omega)]
        omega
      have h2 : IntKind.u64.wrap (Int.tdiv (u : Int) 10) = ((u / 10 : Nat) : Int) := by
        rw [Int.tdiv_eq_ediv_of_nonneg (by omega), wraps_u64 _ (by omega) (by omega)]
        omega
      have hs1 := num_one (u % 10) (by omega)
      obtain ⟨q1, q2⟩ := ih (u / 10) ([UInt8.ofNat (48 + u % 10)] ++ acc) (by rw [Nat.pow_succ] at hu; omega) (by omega) (by simp only [List.length_append, List.length_cons, List.length_nil]; omega)
      refine ⟨?_, by rw [dd_step u h0]; simp only [List.length_append, List.length_cons, List.length_nil]; omega⟩
      rw [gussetref23_Print.l0, if_pos (by omega), Option.bind_some, h1, h2, hs1, if_pos (by rw [B_size, B_size]; simp only [List.length_cons, List.length_nil]; omega), B_app, q1, dd_step u h0]
      simp
theorem print_eq (n : Int) (hl : -9223372036854775808 ≤ n) (hu : n ≤ 9223372036854775807) : gussetref23_Print.f 22 n = some ⟨(Lib.itoa n).toArray⟩ := by
  unfold gussetref23_Print.f
  by_cases h0 : n = 0
  · rw [if_pos h0]
    subst h0
    kernel_rfl
  rw [if_neg h0]
  by_cases h1 : n < 0
  · rw [if_pos h1]
    have e : IntKind.u64.wrap (-(IntKind.u64.wrap n)) = ((n.natAbs : Nat) : Int) := by
      rw [IntKind.wrap_u64, IntKind.wrap_u64]
      omega
    rw [e, gussetref23_Print.j0]
    have := (print_l [45] (by simp) 20 n.natAbs [] (by omega) (by omega) (by simp)).1
    refine this.trans ?_
    unfold Lib.itoa dd
    rw [if_pos h1, if_neg (by omega)]
    simp [B]
  · rw [if_neg h1]
    have e : IntKind.u64.wrap n = ((n.toNat : Nat) : Int) := by
      rw [IntKind.wrap_u64]
      omega
    rw [e, gussetref23_Print.j0]
    have := (print_l [] (by simp) 20 n.toNat [] (by omega) (by omega) (by simp)).1
    refine this.trans ?_
    unfold Lib.itoa dd
    rw [if_neg h1, if_neg (by omega)]
    simp [B]
theorem text_p (x : S32) (hl : -9223372036854775808 ≤ x.f1) (hu : x.f1 ≤ 9223372036854775807) : gussetref23_Text.f 22 x.f0 x.f1 x.f2 = some (textV x) := by
  obtain ⟨a, b, s⟩ := x
  simp only at hl hu ⊢
  unfold gussetref23_Text.f textV
  simp only
  by_cases h2 : a = 2
  · subst h2
    by_cases hb : b = 0
    · subst hb; kernel_rfl
    · have : (b != 0) = true := bne_iff_ne.mpr hb
      rw [if_pos rfl, if_neg hb, if_neg (by decide), if_neg (by decide), if_pos rfl, this]; refine congrArg some ?_
      kernel_rfl
  rw [if_neg h2]
  by_cases h3 : a = 3
  · subst h3
    rw [if_pos rfl, print_eq b hl hu, if_neg (by decide), if_neg (by decide), if_neg (by decide), if_pos rfl]
    rfl
  rw [if_neg h3]
  by_cases h4 : a = 4
  · subst h4
    rw [if_pos rfl, if_neg (by decide), if_neg (by decide), if_neg (by decide), if_neg (by decide), if_pos rfl]
  rw [if_neg h4, Option.bind_some]
  by_cases hn : a < 0
  · rw [if_pos hn, if_neg (by omega), if_neg (by omega), if_neg h2, if_neg h3, if_neg h4, if_neg (by omega), if_neg (by omega), if_neg (by omega), if_neg (by omega), if_neg (by omega)]
  rw [if_neg hn]
  by_cases h10 : a ≥ 10
  · rw [if_pos (by simpa using h10), if_neg (by omega), if_neg (by omega), if_neg h2, if_neg h3, if_neg h4, if_neg (by omega), if_neg (by omega), if_neg (by omega), if_neg (by omega), if_neg (by omega)]
  rw [if_neg (by simpa using h10), if_pos (by omega), if_pos (by simpa using h10)]
  obtain rfl | rfl | rfl | rfl | rfl | rfl | rfl : a = 0 ∨ a = 1 ∨ a = 5 ∨ a = 6 ∨ a = 7 ∨ a = 8 ∨ a = 9 := by omega
  all_goals kernel_rfl
end Go.Proofs.YtjbolkkbehfnmaaDoor.Val
