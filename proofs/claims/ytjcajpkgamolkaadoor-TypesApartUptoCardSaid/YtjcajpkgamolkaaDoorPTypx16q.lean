/- PTypx16, as this claim needs it. -/
import Derived.Test.YtjcajpkgamolkaaDoorPTypx0q
import Derived.Test.YtjcajpkgamolkaaDoorHIq
namespace Go.Proofs.YtjcajpkgamolkaaDoor.PTyp
open Go.RowKit Go.Proofs.YtjcajpkgamolkaaDoorW.PrintWords Go.Proofs.YtjcajpkgamolkaaDoorW.PrintLast Go.Proofs.YtjcajpkgamolkaaDoorW.PrintMore
attribute [local go_sem] max2_int min2_int max_two min_two max_three min_three max_four min_four   -- for this text's walks alone
set_option linter.unusedVariables false
set_option linter.unusedSimpArgs false
def gussetlaw14_sure.f  : Option (Bool) := some true
theorem gussetlaw14_sure.calls  (r : Bool) (w : World) [GW w] (h : gussetlaw14_sure.f  = some r) :
    Calls Tryd.prog 20 #[] w fun e w' => e = .returned (.bool r) ∧ Below w.heap.size w w' := by
  unfold gussetlaw14_sure.f at h
  obtain rfl := Option.some.inj h
  exact Ty.sure_calls w
end Go.Proofs.YtjcajpkgamolkaaDoor.PTyp
