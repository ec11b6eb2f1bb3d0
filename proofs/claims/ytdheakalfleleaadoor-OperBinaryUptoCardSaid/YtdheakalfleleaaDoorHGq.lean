/- HG, as this claim needs it. -/
import Derived.Test.YtdheakalfleleaaDoorPOperx3q
import Derived.Test.YtdheakalfleleaaDoorPOperx0q
import Derived.Test.YtdheakalfleleaaDoorPOperx1q
import Derived.Test.YtdheakalfleleaaDoorPOperx2q
import Derived.Test.YtdheakalfleleaaDoorHFq
namespace Go.Proofs.YtdheakalfleleaaDoor.Pure1
open Go.RowKit Go.Proofs.YtdheakalfleleaaDoor.POper Go.Proofs.YtdheakalfleleaaDoorW.PrintWords Go.Proofs.YtdheakalfleleaaDoorW.PrintLast Go.Proofs.YtdheakalfleleaaDoorW.PrintMore
set_option linter.unusedVariables false
set_option linter.unusedSimpArgs false
def Fit (a b : Int) (s : ByteArray) : Prop := (0 ≤ a ∧ a ≤ 9) ∧ (-9223372036854775808 ≤ b ∧ b ≤ 9223372036854775807) ∧ (a = 3 → -9007199254740991 ≤ b ∧ b ≤ 9007199254740991)
theorem fit_num (n : Int) : -9007199254740991 ≤ mx (-9007199254740991) (mn n 9007199254740991) ∧ mx (-9007199254740991) (mn n 9007199254740991) ≤ 9007199254740991 := by
  unfold mx mn
  repeat' split
  all_goals omega
theorem bits_le (n : Int) : 0 ≤ Go.bits .and .i64 n 1 ∧ Go.bits .and .i64 n 1 ≤ 1 := by
  have h : (BitVec.ofInt IntKind.i64.bits n &&& BitVec.ofInt IntKind.i64.bits 1).toNat ≤ 1 := by
    rw [BitVec.toNat_and]
    have e : (BitVec.ofInt IntKind.i64.bits 1).toNat = 1 := by decide
    rw [e, Nat.and_one_is_mod]
    omega
  have e : Go.bits .and .i64 n 1 = wrap64 (((BitVec.ofInt IntKind.i64.bits n &&& BitVec.ofInt IntKind.i64.bits 1).toNat : Nat) : Int) := by
    rw [← i64_w]
    rfl
  rw [e]
  unfold wrap64
  omega
theorem fit_is (k : Nat) (a b : Int) (s : ByteArray) (hb : -9223372036854775808 ≤ b ∧ b ≤ 9223372036854775807) : ∃ x y t, gussetlaw24_fit.f (k + 1) a b s = some (x, y, t) ∧ Fit x y t ∧ (t = s ∨ t = ⟨#[]⟩) := by
  have hbit := bits_le b
  have hmx : 0 ≤ mx 0 b ∧ mx 0 b ≤ 9223372036854775807 := by unfold mx; split <;> omega
  have w1 : wrap64 (2 * Go.bits .and .i64 b 1) = 2 * Go.bits .and .i64 b 1 := by unfold wrap64; omega
  have w2 : wrap64 (1 + 2 * Go.bits .and .i64 b 1) = 1 + 2 * Go.bits .and .i64 b 1 := by unfold wrap64; omega
  have hn := fit_num b
  unfold gussetlaw24_fit.f
  simp only [gussetlaw24_fit.j0]
  by_cases h2 : a = 2
  · rw [if_pos h2]; exact ⟨_, _, _, rfl, ⟨by omega, by omega, by omega⟩, Or.inr rfl⟩
  rw [if_neg h2]
  by_cases h3 : a = 3
  · rw [if_pos h3]
    refine ⟨3, mx (-9007199254740991) (mn b 9007199254740991), ⟨#[]⟩, rfl, ⟨by decide, by omega, fun _ => hn⟩, Or.inr rfl⟩
  rw [if_neg h3]
  by_cases h4 : a = 4
  · rw [if_pos h4]
    refine ⟨4, 0, s, rfl, ⟨by decide, by decide, fun h => absurd h (by decide)⟩, Or.inl rfl⟩
  rw [if_neg h4]
  by_cases h5 : a = 5
  · rw [if_pos h5, w1]; exact ⟨_, _, _, rfl, ⟨by omega, by omega, by omega⟩, Or.inr rfl⟩
  rw [if_neg h5]
  by_cases h6 : a = 6
  · rw [if_pos h6, w1, w2]; exact ⟨_, _, _, rfl, ⟨by omega, by omega, by omega⟩, Or.inr rfl⟩
  rw [if_neg h6]
  by_cases h7 : a = 7
  · rw [if_pos h7, if_pos (show (a == 7) = true by simp [h7])]; exact ⟨_, _, _, rfl, ⟨by omega, by omega, by omega⟩, Or.inr rfl⟩
  rw [if_neg h7]
  by_cases h8 : a = 8
  · rw [if_pos h8, if_pos (show (a == 8) = true by simp [h8])]; exact ⟨_, _, _, rfl, ⟨by omega, by omega, by omega⟩, Or.inr rfl⟩
  rw [if_neg h8]
  by_cases h9 : a = 9
  · rw [if_pos (show (a == 9) = true by simp [h9])]; exact ⟨_, _, _, rfl, ⟨by omega, by omega, by omega⟩, Or.inr rfl⟩
  rw [if_neg (show ¬ (a == 9) = true by simp [h9])]
  by_cases h1 : a = 1
  · rw [if_pos h1]; exact ⟨_, _, _, rfl, ⟨by omega, by decide, by omega⟩, Or.inr rfl⟩
  rw [if_neg h1]
  exact ⟨_, _, _, rfl, ⟨by decide, by decide, by decide⟩, Or.inr rfl⟩
end Go.Proofs.YtdheakalfleleaaDoor.Pure1
namespace Go.Proofs.YtdheakalfleleaaDoor.Pure1
open Go.RowKit Go.Proofs.YtdheakalfleleaaDoor.POper Go.Proofs.YtdheakalfleleaaDoorW.PrintWords Go.Proofs.YtdheakalfleleaaDoorW.PrintLast Go.Proofs.YtdheakalfleleaaDoorW.PrintMore
set_option linter.unusedVariables false
set_option linter.unusedSimpArgs false
end Go.Proofs.YtdheakalfleleaaDoor.Pure1
