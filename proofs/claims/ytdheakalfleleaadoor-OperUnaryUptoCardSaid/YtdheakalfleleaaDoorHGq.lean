/- HG, as this claim needs it. -/
import Derived.Test.YtdheakalfleleaaDoorPOperx3q
import Derived.Test.YtdheakalfleleaaDoorPOperx14q
namespace Go.Proofs.YtdheakalfleleaaDoor.Pure1
open Go.RowKit Go.Proofs.YtdheakalfleleaaDoor.POper Go.Proofs.YtdheakalfleleaaDoorW.PrintWords Go.Proofs.YtdheakalfleleaaDoorW.PrintLast Go.Proofs.YtdheakalfleleaaDoorW.PrintMore
set_option linter.unusedVariables false
set_option linter.unusedSimpArgs false
def Fit (a b : Int) (s : ByteArray) : Prop := (0 ≤ a ∧ a ≤ 9) ∧ (-9223372036854775808 ≤ b ∧ b ≤ 9223372036854775807) ∧ (a = 3 → -9007199254740991 ≤ b ∧ b ≤ 9007199254740991)
theorem fit_num (n : Int) : -9007199254740991 ≤ mx (-9007199254740991) (mn n 9007199254740991) ∧ mx (-9007199254740991) (mn n 9007199254740991) ≤ 9007199254740991 := by
  unfold mx mn
  repeat' split
  all_goals omega
theorem bits_le (n : Int) : 0 ≤ Go.bits .and .i64 n 1 ∧ Go.bits .and .i64 n 1 ≤ 1 := by
  have h : (BitVec.ofInt IntKind.i64.bits n &&& BitVec.ofInt IntKind.i64.bits 1).toNat ≤ 1 := by
    rw [BitVec.toNat_and]
    have e : (BitVec.ofInt IntKind.i64.bits 1).toNat = 1 := by decide
    rw [e, Nat.and_one_is_mod]
    omega
  have e : Go.bits .and .i64 n 1 = wrap64 (((BitVec.ofInt IntKind.i64.bits n &&& BitVec.ofInt IntKind.i64.bits 1).toNat : Nat) : Int) := by
    rw [← i64_w]
    rfl
  rw [e]
  unfold wrap64
  omega
theorem fit_is (k : Nat) (a b : Int) (s : ByteArray) (hb : -9223372036854775808 ≤ b ∧ b ≤ 9223372036854775807) : ∃ x y t, gussetlaw24_fit.f (k + 1) a b s = some (x, y, t) ∧ Fit x y t ∧ (t = s ∨ t = ⟨#[]⟩) := by
  have hbit := bits_le b
  have hmx : 0 ≤ mx 0 b ∧ mx 0 b ≤ 9223372036854775807 := by unfold mx; split <;> omega
  have w1 : wrap64 (2 * Go.bits .and .i64 b 1) = 2 * Go.bits .and .i64 b 1 := by unfold wrap64; omega
  have w2 : wrap64 (1 + 2 * Go.bits .and .i64 b 1) = 1 + 2 * Go.bits .and .i64 b 1 := by unfold wrap64; omega
  have hn := fit_num b
  unfold gussetlaw24_fit.f
  simp only [gussetlaw24_fit.j0]
  by_cases h2 : a = 2
  · rw [if_pos h2]; exact ⟨_, _, _, rfl, ⟨by omega, by omega, by omega⟩, Or.inr rfl⟩
  rw [if_neg h2]
  by_cases h3 : a = 3
  · rw [if_pos h3]
    refine ⟨3, mx (-9007199254740991) (mn b 9007199254740991), ⟨#[]⟩, rfl, ⟨by decide, by omega, fun _ => hn⟩, Or.inr rfl⟩
  rw [if_neg h3]
  by_cases h4 : a = 4
  · rw [if_pos h4]
    refine ⟨4, 0, s, rfl, ⟨by decide, by decide, fun h => absurd h (by decide)⟩, Or.inl rfl⟩
  rw [if_neg h4]
  by_cases h5 : a = 5
  · rw [if_pos h5, w1]; exact ⟨_, _, _, rfl, ⟨by omega, by omega, by omega⟩, Or.inr rfl⟩
  rw [if_neg h5]
  by_cases h6 : a = 6
  · rw [if_pos h6, w1, w2]; exact ⟨_, _, _, rfl, ⟨by omega, by omega, by omega⟩, Or.inr rfl⟩
  rw [if_neg h6]
  by_cases h7 : a = 7
  · rw [if_pos h7, if_pos (show (a == 7) = true by simp [h7])]; exact ⟨_, _, _, rfl, ⟨by omega, by omega, by omega⟩, Or.inr rfl⟩
  rw [if_neg h7]
  by_cases h8 : a = 8
  · rw [if_pos h8, if_pos (show (a == 8) = true by simp [h8])]; exact ⟨_, _, _, rfl, ⟨by omega, by omega, by omega⟩, Or.inr rfl⟩
  rw [if_neg h8]
  by_cases h9 : a = 9
  · rw [if_pos (show (a == 9) = true by simp [h9])]; exact ⟨_, _, _, rfl, ⟨by omega, by omega, by omega⟩, Or.inr rfl⟩
  rw [if_neg (show ¬ (a == 9) = true by simp [h9])]
  by_cases h1 : a = 1
  · rw [if_pos h1]; exact ⟨_, _, _, rfl, ⟨by omega, by decide, by omega⟩, Or.inr rfl⟩
  rw [if_neg h1]
  exact ⟨_, _, _, rfl, ⟨by decide, by decide, by decide⟩, Or.inr rfl⟩
theorem truth_const (k : Nat) (a b : Int) (s : ByteArray) : value_Truth.f (k + 2) a b s = value_Truth.f 2 a b s := by
  simp only [value_Truth.f, value_Truth.j0, value_Truth.j1]
theorem truth_is (a b : Int) (s : ByteArray) : ∃ r, ∀ k, value_Truth.f (k + 2) a b s = some r ∧ gussetref23_Truth.f (k + 2) a b s = some r := by
  have e : ∀ k, gussetref23_Truth.f (k + 2) a b s = value_Truth.f (k + 2) a b s := fun k => by
    simp only [value_Truth.f, gussetref23_Truth.f, value_Truth.j0, value_Truth.j1, gussetref23_Truth.j0, gussetref23_Truth.j1]
  have : (value_Truth.f 2 a b s).isSome = true := by
    simp only [value_Truth.f, value_Truth.j0, value_Truth.j1]
    repeat' split
    all_goals rfl
  obtain ⟨r, hr⟩ := Option.isSome_iff_exists.1 this
  exact ⟨r, fun k => ⟨(truth_const k a b s).trans hr, (e k).trans ((truth_const k a b s).trans hr)⟩⟩
theorem typeof_is (a b : Int) (s : ByteArray) : ∃ r, value_Typeof.f a b s = some r ∧ gussetref23_Typeof.f a b s = some r := by
  have e : gussetref23_Typeof.f a b s = value_Typeof.f a b s := rfl
  rw [e]
  have : (value_Typeof.f a b s).isSome = true := by
    unfold value_Typeof.f
    repeat' split
    all_goals rfl
  obtain ⟨r, hr⟩ := Option.isSome_iff_exists.1 this
  exact ⟨r, hr, hr⟩
theorem list_ne {l m n : List UInt8} (h : l = m) (hn : m ≠ n) : l ≠ n := fun e => hn (h.symm.trans e)
theorem unary_is (k : Nat) (op : ByteArray) (a b : Int) (s : ByteArray) (hf : Fit a b s) : ∃ r, oper_Unary.f (k + 3) op a b s = some r ∧ gussetref24_Unary.f (k + 3) op a b s = some r := by
  obtain ⟨t, ht⟩ := truth_is a b s
  obtain ⟨ty, hy1, hy2⟩ := typeof_is a b s
  unfold oper_Unary.f gussetref24_Unary.f
  simp only [gussetref24_Unary.j0]
  rw [(ht (k + 1)).1, hy1, (ht k).2, hy2]
  by_cases h1 : op.toList = [33]
  · have h2 : op.toList ≠ [45] := list_ne h1 (by decide)
    rw [if_pos h1, if_neg h2, if_pos h1]
    cases t <;> exact ⟨_, rfl, rfl⟩
  · rw [if_neg h1]
    by_cases h3 : op.toList = [116, 121, 112, 101, 111, 102]
    · have h2 : op.toList ≠ [45] := list_ne h3 (by decide)
      rw [if_pos h3, if_neg h2, if_neg h1, if_pos h3]
      exact ⟨_, rfl, rfl⟩
    · rw [if_neg h3]
      by_cases h2 : op.toList = [45]
      · rw [if_pos h2, if_pos h2]
        by_cases h4 : a = 3
        · have hb := hf.2.2 h4
          have d : decide (b ≥ -9007199254740991) = true := decide_eq_true hb.1
          have w : wrap64 (-b) = -b := by unfold wrap64; omega
          have h5 : (a == 3) = true := by simp [h4]
          rw [if_pos h4, d, w, h5]
          have e : gussetref24_number.f (-b) = oper_number.f (-b) true := by simp [oper_number.f, gussetref24_number.f]
          rw [e]
          have hs : (oper_number.f (-b) true).isSome = true := by
            unfold oper_number.f
            repeat' split
            all_goals rfl
          obtain ⟨r, hr⟩ := Option.isSome_iff_exists.1 hs
          rw [hr]
          exact ⟨_, rfl, rfl⟩
        · have h5 : (a == 3) = false := by simp [h4]
          rw [if_neg h4, h5, if_neg h1, if_neg h3]
          exact ⟨_, rfl, rfl⟩
      · rw [if_neg h2, if_neg h2, if_neg h1, if_neg h3]
        exact ⟨_, rfl, rfl⟩
end Go.Proofs.YtdheakalfleleaaDoor.Pure1
namespace Go.Proofs.YtdheakalfleleaaDoor.Pure1
open Go.RowKit Go.Proofs.YtdheakalfleleaaDoor.POper Go.Proofs.YtdheakalfleleaaDoorW.PrintWords Go.Proofs.YtdheakalfleleaaDoorW.PrintLast Go.Proofs.YtdheakalfleleaaDoorW.PrintMore
set_option linter.unusedVariables false
set_option linter.unusedSimpArgs false
theorem operUnary_pure (op : ByteArray) (a b : Int) (s : ByteArray) (hb : -9223372036854775808 ≤ b ∧ b ≤ 9223372036854775807) : gussetlaw24_OperUnary.f 3 op a b s = some true := by
  obtain ⟨x, y, t, h1, hf, _⟩ := fit_is 2 a b s hb
  obtain ⟨r, h2, h3⟩ := unary_is 0 op x y t hf
  unfold gussetlaw24_OperUnary.f
  rw [h1]
  simp only [Option.bind_some]
  rw [h2, h3]
  simp [gussetlaw24_sure.f]
theorem operUnary_calls (w : World) [GW w] (op : ByteArray) (x : S23) (hb : -9223372036854775808 ≤ x.f1 ∧ x.f1 ≤ 9223372036854775807) :
    Calls Tryd.prog 3 #[.string op, .agg #[.int .i64 x.f0, .int .i64 x.f1, .string x.f2]] w fun e w' => e = .returned (.bool true) ∧ Below w.heap.size w w' :=
  gussetlaw24_OperUnary.calls 3 op x.f0 x.f1 x.f2 true w (operUnary_pure op x.f0 x.f1 x.f2 hb)
end Go.Proofs.YtdheakalfleleaaDoor.Pure1
