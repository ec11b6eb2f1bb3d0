/- Words that the contracts of this seat use. -/
import Derived.Test.YtgjboocmdeckgaaDoorProg
import Derived.Below
import Derived.Deep.Draws
import Derived.Deep.AppendLies
import Derived.Maps.AppendAt
import Derived.OwnWalk
import Derived.Laws.BytesArg
import Derived.Laws.MakeOwn
import Derived.Laws.OwnMore
import Derived.Deep.OwnRows
import Derived.Tactics
import Derived.Lib.ConvBytes
import Derived.Laws.Slices
import Derived.WalkKit
import Derived.KernelRfl
import Derived.RowKit3
import Derived.Deep.LoopGhost
import Derived.Deep.QuietTactic
import Derived.BigQuiet
import Derived.WideLaws
import Derived.Deep.DeepCutAuto
import Derived.Deep.CutBlock
import Derived.Deep.RegionHeld3
import Derived.Laws.Rows
import Derived.Lib.AppendStr
import Derived.ArgAppend
import Derived.Laws.IdiomCopy
import Derived.OrdersHeld
import Derived.Laws.BitsLemmas
import Derived.RowKit
import Derived.Test.YtgjboocmdeckgaaDoorWWords
import Derived.Test.YtgjboocmdeckgaaDoorWLast
import Derived.Test.YtgjboocmdeckgaaDoorWTab
import Derived.Test.YtgjboocmdeckgaaDoorWFour
import Derived.Test.YtgjboocmdeckgaaDoorWQPut
import Derived.Test.YtgjboocmdeckgaaDoorWApart
import Derived.Test.YtgjboocmdeckgaaDoorWArr
import Derived.Test.YtgjboocmdeckgaaDoorWZeros
import Derived.Test.YtgjboocmdeckgaaDoorWFoot
import Derived.Test.YtgjboocmdeckgaaDoorWKept
import Derived.Test.YtgjboocmdeckgaaDoorWShare
import Derived.Test.YtgjboocmdeckgaaDoorWN
import Derived.Test.YtgjboocmdeckgaaDoorWFootNe
import Derived.Test.YtgjboocmdeckgaaDoorWAt
import Derived.Test.YtgjboocmdeckgaaDoorWEqStruct
import Derived.Test.YtgjboocmdeckgaaDoorWRepsOne
import Derived.Test.YtgjboocmdeckgaaDoorWInv
import Derived.Test.YtgjboocmdeckgaaDoorWInvWords
import Derived.Test.YtgjboocmdeckgaaDoorWGuard
import Derived.Test.YtgjboocmdeckgaaDoorWNEv
import Derived.Test.YtgjboocmdeckgaaDoorWMore
namespace Go.Proofs.YtgjboocmdeckgaaDoor.PPath
open Go.RowKit Go.Proofs.YtgjboocmdeckgaaDoorW.PrintWords Go.Proofs.YtgjboocmdeckgaaDoorW.PrintLast Go.Proofs.YtgjboocmdeckgaaDoorW.PrintMore
attribute [local go_sem] max2_int min2_int max_two min_two max_three min_three max_four min_four   -- for this text's walks alone
set_option linter.unusedVariables false
set_option linter.unusedSimpArgs false



def errW : Option Int → Value
  | none => .nilIface
  | some c => .iface 0 (.int .i64 c)
theorem errW_none : errW none = .nilIface := rfl
theorem errW_some (c : Int) : errW (some c) = .iface 0 (.int .i64 c) := rfl

theorem info9 : (Tryd.prog.info? 9).map (fun i => (i.zero, i.size, i.bytes)) = some (some (.string ⟨#[]⟩), 1, 16) := by kernel_rfl
-- the values' own types
theorem size_mk_ (a : Array UInt8) : (ByteArray.mk a).size = a.size := rfl
theorem ownLen (A : Option Addr) (n c m d : Nat) : (Value.slice A n c).ownBlock = (Value.slice A m d).ownBlock := by cases A <;> rfl
/-- What the package variables hold that the library reads: the greatest length at which an index is sought another way. -/
class GW (w : World) : Prop where
  ml : ∃ m, w.cell? ⟨0, 0, none⟩ = some (.int .i64 m)
theorem GW.of {w w1 : World} [h : GW w] (hb : Below w.heap.size w w1) : GW w1 :=
  ⟨by obtain ⟨m, hm⟩ := h.ml; exact ⟨m, pw_cell_below hb hm⟩⟩
instance GW.alloc (w : World) (o : Obj) [GW w] : GW (w.alloc o) := GW.of ((Below.refl _ _).alloc (Nat.le_refl _) o)
instance GW.drew (w : World) [GW w] : GW w.drew := GW.of (Below.refl _ _).drew
instance GW.drewN (w : World) (n : Nat) [GW w] : GW (w.drewN n) := GW.of (pw_below_drewN (Below.refl _ _) n)

end Go.Proofs.YtgjboocmdeckgaaDoor.PPath
