/- Base, as this claim needs it. -/
import Derived.Test.YtjcajpkgamolkaaDoorCards
import Derived.Test.YtjcajpkgamolkaaDoorTie
import Derived.Test.YtjcajpkgamolkaaDoorPTypx0q
import Derived.WalkKit
import Derived.ProofKit
import Derived.OpenShut
import Derived.Deep.DeepHandedRow
import Derived.Lib.LaidTab
import Derived.Lib.LaidU8T
import Derived.LaidSub
import Derived.Deep.Strs
import Derived.Lay
import Derived.Stop.LaidErr
import Derived.Test.YtjcajpkgamolkaaDoorShelfq
import GoSem.PinnedTables
namespace Go.Proofs.YtjcajpkgamolkaaDoor.Base
open Go.ChangeShapes Go.WideShapes Go.ChangeAt Go.RowKit Go.Lib
theorem own : ownKnob Tryd.prog.godebug = none := by kernel_rfl
def laidL : List (String × DataW Unit) := Rows.typesChecksUptoRow.laid
noncomputable def laidWorld (os : Os) : World := World.laidAll Tryd.prog os laidL
theorem laid_met (os : Os) (args : Array Value) : laidMet Tryd.prog laidL ((laidWorld os).forCall (fun _ _ => 0) ⟨#[], args, []⟩).memory :=
  laidMet_laidAll args (by kernel_rfl) (by kernel_rfl)
theorem met {W : World} (h : laidMetH Tryd.prog laidL W) : laidMet Tryd.prog laidL W := by
  have e : (laidL.filter fun x => x.2.handleName?.isSome) = [] := by kernel_rfl
  unfold laidMetH at h
  rw [e] at h
  exact h
theorem pow_is : (laidL.filter fun x => x.1 == "internal/strconv.uint64pow10") = [("internal/strconv.uint64pow10", Lib.tabData .u64 Lib.pow10Tab)] := by kernel_rfl
theorem gw {W : World} (_ : W.ShapedOpen Tryd.prog) (hL : laidMetH Tryd.prog laidL W) : PTyp.GW W := by
  have hm := met hL
  refine ⟨?_⟩
  have := hm.filter (fun x => x.1 == "internal/strconv.uint64pow10")
  rw [pow_is] at this
  exact Lib.tabIs_of_head (g := 1) (t := 134) (by kernel_rfl) (by kernel_rfl) (show Tryd.prog.underlying 134 = some (.array 20 126) by kernel_rfl) Tryd.underlying126 (by kernel_rfl) (by kernel_rfl) this
end Go.Proofs.YtjcajpkgamolkaaDoor.Base
