/- The pure statement of PathNormals: both texts of Normal and of Dir answer the same of every text. -/
import Derived.Test.YtgjboocmdeckgaaDoorRef
namespace Go.Proofs.YtgjboocmdeckgaaDoor.Pure
open Go.RowKit Go.Proofs.YtgjboocmdeckgaaDoor.PPath Go.Proofs.YtgjboocmdeckgaaDoorW.PrintWords Go.Proofs.YtgjboocmdeckgaaDoorW.PrintLast
theorem PathNormals (a0 : ByteArray) (h : a0.size + 1 + 0 ≤ 1048576) : ∃ k, gussetlaw03_PathNormals.f k a0 = some true := by
  have hs : a0.size ≤ 4194304 := by omega
  apply Ev.rounds
  unfold gussetlaw03_PathNormals.f
  refine Ev.bind (f := fun k bt163 => (gussetref03_Normal.f k a0).bind fun bt165 => _) (prog_N a0 hs) ?_
  refine Ev.bind (f := fun k bt165 => _) (ref_N a0 hs) ?_
  simp only [if_true]
  refine Ev.bind (f := fun k t167 => (gussetref03_Dir.f k a0).bind fun t168 => _) (dir_D a0 hs) ?_
  refine Ev.bind (f := fun k t168 => _) (refdir_D a0 hs) ?_
  simp only [if_true]
  exact Ev.bind (f := fun _ t => some t) awake_ev (Ev.now _)
end Go.Proofs.YtgjboocmdeckgaaDoor.Pure
