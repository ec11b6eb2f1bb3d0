/- HV, as this claim needs it. -/
import Derived.Test.YtjcajpkgamolkaaDoorHAq
import Derived.Test.YtjcajpkgamolkaaDoorHBq
import Derived.Test.YtjcajpkgamolkaaDoorHHq
import Derived.Test.YtjcajpkgamolkaaDoorHIq
namespace Go.Proofs.YtjcajpkgamolkaaDoor.Ty
open Go.RowKit Go.Proofs.YtjcajpkgamolkaaDoor.PTyp
set_option linter.unusedVariables false
set_option linter.unusedSimpArgs false
def hasAny (l : List Ty) : Bool := l.any (fun t => t.k == 1)
def hasGreat (l : List Ty) : Bool := l.any (fun t => decide (300 < sizeT t))
structure Whole (l : List Ty) (a : Ty) : Prop where
  ne : l ≠ []
  may : mayTs l = true
  mayA : mayT a = true
  size : sizeT a ≤ 300
  how : (hasAny l = true ∧ a = anyT) ∨ (hasAny l = false ∧ hasGreat l = false ∧ a = joinT (normT (l.flatMap partsOf)) ∧ partsOf a = normT (l.flatMap partsOf) ∧ a.k ≠ 1)
end Go.Proofs.YtjcajpkgamolkaaDoor.Ty
namespace Go.Proofs.YtjcajpkgamolkaaDoor.Ty
open Go.RowKit Go.Proofs.YtjcajpkgamolkaaDoor.PTyp Go.Proofs.YtjcajpkgamolkaaDoorW.PrintWords Go.Proofs.YtjcajpkgamolkaaDoorW.PrintLast Go.Proofs.YtjcajpkgamolkaaDoorW.PrintMore
attribute [local go_sem] max2_int min2_int max_two min_two max_three min_three max_four min_four
set_option linter.unusedVariables false
set_option linter.unusedSimpArgs false
end Go.Proofs.YtjcajpkgamolkaaDoor.Ty
