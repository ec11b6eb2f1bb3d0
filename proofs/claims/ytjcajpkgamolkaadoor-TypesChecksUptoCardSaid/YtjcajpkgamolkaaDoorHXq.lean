/- HX, as this claim needs it. -/
import Derived.Test.YtjcajpkgamolkaaDoorPTypx8q
import Derived.Test.YtjcajpkgamolkaaDoorPTypx12q
import Derived.Test.YtjcajpkgamolkaaDoorHYq
import Derived.Test.YtjcajpkgamolkaaDoorHKq
namespace Go.Proofs.YtjcajpkgamolkaaDoor.Ty
open Go.RowKit Go.Proofs.YtjcajpkgamolkaaDoor.PTyp Go.Proofs.YtjcajpkgamolkaaDoorW.PrintWords Go.Proofs.YtjcajpkgamolkaaDoorW.PrintLast Go.Proofs.YtjcajpkgamolkaaDoorW.PrintMore
set_option linter.unusedVariables false
set_option linter.unusedSimpArgs false
theorem rmay_ev (t : Ty) (hw : wT t ≤ 1099511627776) : Ev (fun k => gussetref14_May.f k t.f0 t.f1 t.f2 t.f3) (mayT t) := by
  refine Ev.congr (f := fun _ => some (mayT t)) (fun k => ?_) (Ev.now _)
  have h : wT ⟨t.f0, t.f1, t.f2, t.f3⟩ ≤ 1099511627776 := by rw [eta25]; exact hw
  unfold gussetref14_May.f
  rw [if_pos h, eta25]
theorem rcheck_ev (t : Ty) (hw : wT t ≤ 1099511627776) : Ev (fun k => gussetref14_Check.f k t.f0 t.f1 t.f2 t.f3) (checkT t) := by
  unfold gussetref14_Check.f checkT
  refine Ev.bind (f := fun k _ => _) (rmay_ev t hw) ?_
  cases hm : mayT t with
  | false => simp only [Bool.false_eq_true, if_false, if_true]; exact Ev.now _
  | true =>
    simp only [if_true, Bool.true_eq_false, if_false]
    refine Ev.bind (f := fun k _ => _) (rsize_ev t hw) ?_
    by_cases h : 300 < sizeT t
    · rw [if_pos h]
      exact Ev.congr (f := fun _ => some 3) (fun k => if_pos (by omega)) (Ev.now _)
    · rw [if_neg h]
      exact Ev.congr (f := fun _ => some 0) (fun k => if_neg (by omega)) (Ev.now _)
theorem rshow_ev (t : Ty) (hg : rngT t = true) (hz : zT t ≤ 8796093022208) : Ev (fun k => gussetref14_Show.f k t.f0 t.f1 t.f2 t.f3) (showA t) := by
  have wt : wT t ≤ 1099511627776 := by have := wT8_le_z t; omega
  unfold gussetref14_Show.f
  refine Ev.bind (f := fun k _ => _) (rmay_ev t wt) ?_
  unfold showA
  cases hm : mayT t with
  | false => simp only [Bool.false_eq_true, if_false]; exact Ev.now _
  | true =>
    simp only [if_true]
    refine ⟨0, fun k _ => ?_⟩
    have h : mayT ⟨t.f0, t.f1, t.f2, t.f3⟩ = true ∧ rngT ⟨t.f0, t.f1, t.f2, t.f3⟩ = true ∧ zT ⟨t.f0, t.f1, t.f2, t.f3⟩ ≤ 35184372088832 := by rw [eta25]; exact ⟨hm, hg, by omega⟩
    have e : gussetref14_show.f k t.f0 t.f1 t.f2 t.f3 = some (showT t) := by
      unfold gussetref14_show.f
      rw [if_pos h, eta25]
    show (gussetref14_show.f k t.f0 t.f1 t.f2 t.f3).bind _ = _
    rw [e]; rfl
end Go.Proofs.YtjcajpkgamolkaaDoor.Ty
