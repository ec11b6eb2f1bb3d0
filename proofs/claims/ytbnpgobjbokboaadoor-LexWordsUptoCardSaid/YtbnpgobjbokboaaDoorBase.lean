/- What every row of this seat uses: a world in which the listed tables hold what the program's text lays, and the class GW out of the world's shape and the tables. -/
import Derived.Test.YtbnpgobjbokboaaDoorCards
import Derived.Test.YtbnpgobjbokboaaDoorTie
import Derived.Test.YtbnpgobjbokboaaDoorPLexx0
import Derived.WalkKit
import Derived.ProofKit
import Derived.OpenShut
import Derived.Deep.DeepHandedRow
import Derived.Lib.LaidTab
import Derived.Lib.LaidU8T
import Derived.LaidSub
import Derived.Lay
import Derived.Stop.LaidErr
import Derived.Test.YtbnpgobjbokboaaDoorShelf
import GoSem.PinnedTables
namespace Go.Proofs.YtbnpgobjbokboaaDoor.Base
open Go.ChangeShapes Go.WideShapes Go.ChangeAt Go.RowKit Go.Lib
theorem own : ownKnob Tryd.prog.godebug = none := by kernel_rfl
/-- The listed tables. -/
def laidL : List (String × DataW Unit) := Rows.lexReadsUptoRow.laid
noncomputable def laidWorld (os : Os) : World := World.laidAll Tryd.prog os laidL
theorem laid_met (os : Os) (args : Array Value) : laidMet Tryd.prog laidL ((laidWorld os).forCall (fun _ _ => 0) ⟨#[], args, []⟩).memory :=
  laidMet_laidAll args (by kernel_rfl) (by kernel_rfl)
theorem met {W : World} (h : laidMetH Tryd.prog laidL W) : laidMet Tryd.prog laidL W := by
  have e : (laidL.filter fun x => x.2.handleName?.isSome) = [] := by kernel_rfl
  unfold laidMetH at h
  rw [e] at h
  exact h
theorem first_is : Rows.laid_unicode_utf8_first = Lib.firstData := by kernel_rfl
theorem accept_is : (Rows.laid_unicode_utf8_acceptRanges : DataW Unit) = Lib.acceptData := by kernel_rfl
theorem pow_is : (laidL.filter fun x => x.1 == "internal/strconv.uint64pow10") = [("internal/strconv.uint64pow10", Lib.tabData .u64 Lib.pow10Tab)] := by kernel_rfl
def deB : List Int := [0, 1, 56, 2, 57, 49, 28, 3, 61, 58, 42, 50, 38, 29, 17, 4, 62, 47, 59, 36, 45, 43, 51, 22, 53, 39, 33, 30, 24, 18, 12, 5, 63, 55, 48, 27, 60, 41, 37, 16, 46, 35, 44, 21, 52, 32, 23, 11, 54, 26, 40, 15, 34, 20, 31, 10, 25, 14, 19, 9, 13, 8, 7, 6]
theorem deB_is : (laidL.filter fun x => x.1 == "math/bits.deBruijn64tab") = [("math/bits.deBruijn64tab", Lib.tabData .u8 deB)] := by kernel_rfl
theorem err_is : (laidL.filter fun x => x.1 == "strconv.ErrRange") = [("strconv.ErrRange", .iface "*errors.errorString" (.ptr (.agg [.lit (.string [118, 97, 108, 117, 101, 32, 111, 117, 116, 32, 111, 102, 32, 114, 97, 110, 103, 101])])))] := by kernel_rfl
theorem types8 : U8Types Tryd.prog Tryd.lays197_ren := ⟨Tryd.underlying5, Tryd.underlying101, Tryd.underlying103, Tryd.underlying104⟩
theorem extra8 : U8Extra Tryd.prog Tryd.lays197_ren := ⟨by kernel_rfl, by kernel_rfl, by kernel_rfl, by kernel_rfl, by kernel_rfl, by kernel_rfl, by kernel_rfl⟩
theorem star : "*" ++ "errors.errorString" = "*errors.errorString" := by decide
theorem row126 (u : TypeId) (h : Tryd.prog.typeName? 3 u = some "*errors.errorString") : u = 126 :=
  typeName_ptr_named (nm := "errors.errorString") (by rw [star]; kernel_rfl) (by kernel_rfl) (by decide) u (by rw [star]; exact h)
theorem gw {W : World} (h : W.ShapedOpen Tryd.prog) (hL : laidMetH Tryd.prog laidL W) : PLex.GW W := by
  have hm := met hL
  refine ⟨?_, ?_, ?_, ?_, ?_⟩
  · exact Go.Proofs.cell_of_shapedOpen_int (zero := #[.int .i64 0]) (t := 3) h (of_decide_eq_true (by kernel_rfl)) (by kernel_rfl) rfl (by kernel_rfl) (by kernel_rfl) Tryd.underlying3
  · refine utf8Tabs_of_readsT types8 extra8 (Go.Lib.laidMet.reads hm ?_) (Go.Lib.laidMet.reads hm ?_)
    · rw [← first_is]
      simp [laidL, Rows.lexReadsUptoRow]
    · rw [← accept_is]
      simp [laidL, Rows.lexReadsUptoRow]
  · have := hm.filter (fun x => x.1 == "internal/strconv.uint64pow10")
    rw [pow_is] at this
    exact Lib.tabIs_of_head (g := 5) (t := 123) (by kernel_rfl) (by kernel_rfl) (show Tryd.prog.underlying 123 = some (.array 20 106) by kernel_rfl) Tryd.underlying106 (by kernel_rfl) (by kernel_rfl) this
  · have := hm.filter (fun x => x.1 == "math/bits.deBruijn64tab")
    rw [deB_is] at this
    have hT := Lib.tabIs_of_head (g := 7) (t := 131) (by kernel_rfl) (by kernel_rfl) Tryd.underlying131 Tryd.underlying5 (by kernel_rfl) (by kernel_rfl) this
    exact hT.cell (g := 7) (by kernel_rfl) 15 (by decide)
  · have := hm.filter (fun x => x.1 == "strconv.ErrRange")
    rw [err_is] at this
    obtain ⟨a, s, hv, -, -, -⟩ := laid_sentinel this (g := 4) (by kernel_rfl) (by kernel_rfl) Tryd.underlying71 row126 Tryd.underlying126 Tryd.underlying128 rfl rfl Tryd.underlying9 (by kernel_rfl) (by kernel_rfl)
    have h0 := World.var?_cell (P := Tryd.prog) (g := 4) (by kernel_rfl) hv 0
    exact ⟨_, by simpa using h0, Or.inr ⟨_, _, rfl⟩⟩
end Go.Proofs.YtbnpgobjbokboaaDoor.Base
