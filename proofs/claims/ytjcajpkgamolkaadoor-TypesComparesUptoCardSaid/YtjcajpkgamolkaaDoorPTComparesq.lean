/- PTCompares, as this claim needs it. -/
import Derived.Test.YtjcajpkgamolkaaDoorPTypx18q
import Derived.Test.YtjcajpkgamolkaaDoorHEq
namespace Go.Proofs.YtjcajpkgamolkaaDoor.Ty
open Go.RowKit Go.Proofs.YtjcajpkgamolkaaDoor.PTyp Go.Proofs.YtjcajpkgamolkaaDoorW.PrintWords Go.Proofs.YtjcajpkgamolkaaDoorW.PrintLast Go.Proofs.YtjcajpkgamolkaaDoorW.PrintMore
set_option linter.unusedVariables false
set_option linter.unusedSimpArgs false
theorem compares_pure (a b : Ty) (ha : zT a ≤ 8796093022208) (hb : zT b ≤ 8796093022208) : ∃ k, gussetlaw14_TypesCompares.f k a.f0 a.f1 a.f2 a.f3 b.f0 b.f1 b.f2 b.f3 = some true := by
  have wa : wT a ≤ 1099511627776 := by have := wT8_le_z a; omega
  have wb : wT b ≤ 1099511627776 := by have := wT8_le_z b; omega
  refine Ev.rounds (g := fun k => gussetlaw14_TypesCompares.f k a.f0 a.f1 a.f2 a.f3 b.f0 b.f1 b.f2 b.f3) ?_
  unfold gussetlaw14_TypesCompares.f
  refine Ev.bind (f := fun k _ => _) (cmp_ev a b wa wb) ?_
  refine Ev.bind (f := fun k _ => _) (rcmp_ev a b wa wb) ?_
  simp only [if_true]
  refine Ev.bind (f := fun k _ => _) (cmp_ev b a wb wa) ?_
  refine Ev.bind (f := fun k _ => _) (rcmp_ev b a wb wa) ?_
  simp only [if_true]
  refine Ev.bind (f := fun k _ => _) (twin_ev a wa) ?_
  refine Ev.bind (f := fun k _ => _) (cmp_ev a a wa wa) ?_
  rw [cmpT_self]
  simp only [if_true]
  exact Ev.now true
end Go.Proofs.YtjcajpkgamolkaaDoor.Ty
