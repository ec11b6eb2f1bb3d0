/- PTypx4, as this claim needs it. -/
import Derived.Test.YtjcajpkgamolkaaDoorPTypx0q
import Derived.Test.YtjcajpkgamolkaaDoorHNq
namespace Go.Proofs.YtjcajpkgamolkaaDoor.PTyp
open Go.RowKit Go.Proofs.YtjcajpkgamolkaaDoorW.PrintWords Go.Proofs.YtjcajpkgamolkaaDoorW.PrintLast Go.Proofs.YtjcajpkgamolkaaDoorW.PrintMore
attribute [local go_sem] max2_int min2_int max_two min_two max_three min_three max_four min_four   -- for this text's walks alone
set_option linter.unusedVariables false
set_option linter.unusedSimpArgs false
def types_shape.f (_k : Nat) (a0_0 : Int) (a0_1 : Int) (l0_2 : List ByteArray) (l0_3 : List (S25)) : Option (Bool) := if Ty.wT ⟨a0_0, a0_1, l0_2, l0_3⟩ ≤ 1099511627776 then some (Ty.shapeT ⟨a0_0, a0_1, l0_2, l0_3⟩) else none
theorem types_shape.calls (k : Nat) (a0_0 : Int) (a0_1 : Int) (A0_2 : Option Addr) (c0_2 : Nat) (l0_2 : List ByteArray) (A0_3 : Option Addr) (c0_3 : Nat) (l0_3 : List (S25)) (r : Bool) (w : World) (hr0_2 : Kd.C Kd.string w A0_2 l0_2.length l0_2) (hc0_2 : l0_2.length ≤ c0_2) (hr0_3 : Kd.C k25 w A0_3 l0_3.length l0_3) (hc0_3 : l0_3.length ≤ c0_3) (h : types_shape.f k a0_0 a0_1 l0_2 l0_3 = some r) :
    Calls Tryd.prog 53 #[.agg #[.int .i64 a0_0, .int .i64 a0_1, .slice A0_2 l0_2.length c0_2, .slice A0_3 l0_3.length c0_3]] w fun e w' => e = .returned (.bool r) ∧ Below w.heap.size w w' := by
  unfold types_shape.f at h
  split at h
  rotate_left
  ·
   cases h
  rename_i hc
  obtain rfl := Option.some.inj h
  exact Ty.shape_calls a0_0 a0_1 l0_2 l0_3 hc A0_2 c0_2 A0_3 c0_3 w ⟨hc0_2, hr0_2, hc0_3, hr0_3⟩
end Go.Proofs.YtjcajpkgamolkaaDoor.PTyp
