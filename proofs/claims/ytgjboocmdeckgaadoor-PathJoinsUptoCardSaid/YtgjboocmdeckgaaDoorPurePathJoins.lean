/- The pure statement of PathJoins: both texts of Join answer the same of every two texts. -/
import Derived.Test.YtgjboocmdeckgaaDoorFacts
namespace Go.Proofs.YtgjboocmdeckgaaDoor.Pure
open Go.RowKit Go.Proofs.YtgjboocmdeckgaaDoor.PPath Go.Proofs.YtgjboocmdeckgaaDoorW.PrintWords Go.Proofs.YtgjboocmdeckgaaDoorW.PrintLast
theorem PathJoins (a0 a1 : ByteArray) (h : a0.size + 1 + (a1.size + 1 + 0) ≤ 1048576) : ∃ k, gussetlaw03_PathJoins.f k a0 a1 = some true := by
  apply Ev.rounds
  unfold gussetlaw03_PathJoins.f
  refine Ev.bind (f := fun k bt163 => (gussetref03_Join.f k a0 a1).bind fun bt165 => _) (prog_J a0 a1 (by omega) (by omega)) ?_
  refine Ev.bind (f := fun k bt165 => _) (ref_J a0 a1 (by omega) (by omega)) ?_
  simp only [if_true]
  exact Ev.bind (f := fun _ t => some t) awake_ev (Ev.now _)
end Go.Proofs.YtgjboocmdeckgaaDoor.Pure
