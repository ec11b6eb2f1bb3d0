/- What every row of this seat uses: a world in which the listed tables hold what the program's text lays, and the class GW out of the world's shape and the tables. -/
import Derived.Test.YtjbolkkbehfnmaaDoorCards
import Derived.Test.YtjbolkkbehfnmaaDoorTie
import Derived.Test.YtjbolkkbehfnmaaDoorPValx0
import Derived.WalkKit
import Derived.ProofKit
import Derived.OpenShut
import Derived.Deep.DeepHandedRow
import Derived.Lib.LaidTab
import Derived.Lib.LaidU8T
import Derived.LaidSub
import Derived.Deep.Strs
import Derived.Lay
import Derived.Stop.LaidErr
import Derived.Test.YtjbolkkbehfnmaaDoorShelf
import GoSem.PinnedTables
namespace Go.Proofs.YtjbolkkbehfnmaaDoor.Base
open Go.ChangeShapes Go.WideShapes Go.ChangeAt Go.RowKit Go.Lib
theorem own : ownKnob Tryd.prog.godebug = none := by kernel_rfl
/-- The listed tables. -/
def laidL : List (String × DataW Unit) := Rows.valueNoneUptoRow.laid
noncomputable def laidWorld (os : Os) : World := World.laidAll Tryd.prog os laidL
theorem laid_met (os : Os) (args : Array Value) : laidMet Tryd.prog laidL ((laidWorld os).forCall (fun _ _ => 0) ⟨#[], args, []⟩).memory :=
  laidMet_laidAll args (by kernel_rfl) (by kernel_rfl)
theorem met {W : World} (h : laidMetH Tryd.prog laidL W) : laidMet Tryd.prog laidL W := by
  have e : (laidL.filter fun x => x.2.handleName?.isSome) = [] := by kernel_rfl
  unfold laidMetH at h
  rw [e] at h
  exact h
theorem pow_is : (laidL.filter fun x => x.1 == "internal/strconv.uint64pow10") = [("internal/strconv.uint64pow10", Lib.tabData .u64 Lib.pow10Tab)] := by kernel_rfl
theorem gw {W : World} (_ : W.ShapedOpen Tryd.prog) (hL : laidMetH Tryd.prog laidL W) : PVal.GW W := by
  have hm := met hL
  refine ⟨?_⟩
  have := hm.filter (fun x => x.1 == "internal/strconv.uint64pow10")
  rw [pow_is] at this
  exact Lib.tabIs_of_head (g := 0) (t := 87) (by kernel_rfl) (by kernel_rfl) (show Tryd.prog.underlying 87 = some (.array 20 77) by kernel_rfl) Tryd.underlying77 (by kernel_rfl) (by kernel_rfl) this
/-- A value by value: its three cells. -/
theorem open_val {H : Type} {enc : TypeId × Value → H} {W : World} {b : Nat} {v : Value} {d : DataW H} {p : List MemPlace} (hv : Value.okWide Tryd.prog W .any b 32 v) (h : DataW.Trod enc Tryd.prog W 0 (fun _ => true) true 32 v d p) :
    ∃ x : PVal.S32, v = .agg #[.int .i64 x.f0, .int .i64 x.f1, .string x.f2] ∧ p = [] ∧ (Lit.int .i64 x.f1).wf = true ∧ ∀ (W' : World) (sp : Nat → Bool), DataW.Trod enc Tryd.prog W' 0 sp true 32 v d [] := by
  obtain ⟨cs, rfl, hsz⟩ := okWide_struct Tryd.underlying32 hv
  rw [show Tryd.prog.cellsOf 32 = 3 by kernel_rfl] at hsz
  obtain ⟨l⟩ := cs
  match l, hsz with
  | [c0, c1, c2], _ =>
    obtain ⟨fuel, hf⟩ := h
    obtain ⟨y0, y1, y2, m, hx, _, hy0, hy1, hy2⟩ := Go.Deep.trod_struct3 Tryd.underlying32 hf
    simp only [show Tryd.prog.cellsOf 3 = 1 by kernel_rfl, show Tryd.prog.cellsOf 9 = 1 by kernel_rfl, Value.cells, List.drop, List.take] at hy0 hy1 hy2
    obtain ⟨n0, e0, rfl, w0⟩ := DataW.trod_int Tryd.underlying3 hy0
    obtain ⟨n1, e1, rfl, w1⟩ := DataW.trod_int Tryd.underlying3 hy1
    obtain ⟨s2, e2, rfl, w2⟩ := DataW.trod_string Tryd.underlying9 hy2
    obtain rfl := (List.cons.inj e0).1
    obtain rfl := (List.cons.inj e1).1
    obtain rfl := (List.cons.inj e2).1
    simp only [Prod.mk.injEq] at hx
    obtain ⟨rfl, rfl⟩ := hx
    refine ⟨⟨n0, n1, s2⟩, rfl, rfl, w1, fun W' sp => ⟨2, ?_⟩⟩
    have f0 : DataW.trod enc Tryd.prog W' 0 sp true 1 3 [.int .i64 n0] = some (.lit (.int .i64 n0), []) := by simp [DataW.trod, Tryd.underlying3, w0]
    have f1 : DataW.trod enc Tryd.prog W' 0 sp true 1 3 [.int .i64 n1] = some (.lit (.int .i64 n1), []) := by simp [DataW.trod, Tryd.underlying3, w1]
    have f2 : DataW.trod enc Tryd.prog W' 0 sp true 1 9 [.string s2] = some (.lit (.string s2.data.toList), []) := by simp [DataW.trod, Tryd.underlying9, w2]
    exact Go.Deep.trod_struct3_mk (cs := [.int .i64 n0, .int .i64 n1, .string s2]) Tryd.underlying32 (by kernel_rfl) f0 f1 f2
end Go.Proofs.YtjbolkkbehfnmaaDoor.Base
