/- What every row of this seat uses: a world in which the listed tables hold what the program's text lays, and the class GW out of the world's shape. -/
import Derived.Test.YtgjboocmdeckgaaDoorCards
import Derived.Test.YtgjboocmdeckgaaDoorTie
import Derived.Test.YtgjboocmdeckgaaDoorPPathx0
import Derived.WalkKit
import Derived.ProofKit
import Derived.OpenShut
import Derived.Deep.DeepHandedRow
import Derived.Lib.LaidTab
import Derived.Test.YtgjboocmdeckgaaDoorShelf
import GoSem.PinnedTables
namespace Go.Proofs.YtgjboocmdeckgaaDoor.Base
open Go.ChangeShapes Go.WideShapes Go.ChangeAt Go.RowKit
theorem own : ownKnob Tryd.prog.godebug = none := by kernel_rfl
def firstCells : Array Value := (Go.Pinned.utf8FirstZ.map fun (n : Nat) => Value.int .u8 (n : Int)).toArray
def acceptCells : Array Value := ([128, 191, 160, 191, 128, 159, 144, 191, 128, 143, 0, 0, 0, 0, 0, 0, 0, 0, 0, 0, 0, 0, 0, 0, 0, 0, 0, 0, 0, 0, 0, 0].map fun n => Value.int .u8 n).toArray
def put (cs : Array Value) : Obj → Obj
  | .cells _ t frozen => .cells cs t frozen
  | o => o
noncomputable def laidWorld (os : Os) : World :=
  { World.holding Tryd.prog os ⟨#[], #[], []⟩ with heap := ((World.holding Tryd.prog os ⟨#[], #[], []⟩).heap.modify 1 (put firstCells)).modify 2 (put acceptCells) }
theorem gw {W : World} (h : W.ShapedOpen Tryd.prog) : PPath.GW W := ⟨by
  obtain ⟨m, hm⟩ := Tryd.laysM146.s1_3 W h
  exact ⟨m, hm⟩⟩
end Go.Proofs.YtgjboocmdeckgaaDoor.Base
