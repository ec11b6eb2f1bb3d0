/- HY, as this claim needs it. -/
import Derived.Test.YtjcajpkgamolkaaDoorPTypx10q
import Derived.Test.YtjcajpkgamolkaaDoorHEq
import Derived.Test.YtjcajpkgamolkaaDoorHBq
namespace Go.Proofs.YtjcajpkgamolkaaDoor.Ty
open Go.RowKit Go.Proofs.YtjcajpkgamolkaaDoor.PTyp Go.Proofs.YtjcajpkgamolkaaDoorW.PrintWords Go.Proofs.YtjcajpkgamolkaaDoorW.PrintLast Go.Proofs.YtjcajpkgamolkaaDoorW.PrintMore
set_option linter.unusedVariables false
set_option linter.unusedSimpArgs false
def showA (t : Ty) : ByteArray := if mayT t = true then showT t else ⟨#[63]⟩
theorem show_ev (t : Ty) (hg : rngT t = true) (hz : zT t ≤ 8796093022208) : Ev (fun k => types_Show.f k t.f0 t.f1 t.f2 t.f3) (showA t) := by
  have wt : wT t ≤ 1099511627776 := by have := wT8_le_z t; omega
  unfold types_Show.f
  refine Ev.bind (f := fun k _ => _) (may_ev t wt) ?_
  unfold showA
  cases hm : mayT t with
  | false => simp only [Bool.false_eq_true, if_false]; exact Ev.now _
  | true =>
    simp only [if_true]
    refine ⟨0, fun k _ => ?_⟩
    have h : mayT ⟨t.f0, t.f1, t.f2, t.f3⟩ = true ∧ rngT ⟨t.f0, t.f1, t.f2, t.f3⟩ = true ∧ zT ⟨t.f0, t.f1, t.f2, t.f3⟩ ≤ 35184372088832 := by rw [eta25]; exact ⟨hm, hg, by omega⟩
    have e : types_show.f k t.f0 t.f1 t.f2 t.f3 = some (showT t) := by
      unfold types_show.f
      rw [if_pos h, eta25]
    show (types_show.f k t.f0 t.f1 t.f2 t.f3).bind _ = _
    rw [e]; rfl
end Go.Proofs.YtjcajpkgamolkaaDoor.Ty
