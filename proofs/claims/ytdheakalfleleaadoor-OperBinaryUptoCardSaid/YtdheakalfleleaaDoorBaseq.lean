/- Base, as this claim needs it. -/
import Derived.Test.YtdheakalfleleaaDoorCards
import Derived.Test.YtdheakalfleleaaDoorTie
import Derived.Test.YtdheakalfleleaaDoorPOperx0q
import Derived.WalkKit
import Derived.ProofKit
import Derived.OpenShut
import Derived.Deep.DeepHandedRow
import Derived.Lib.LaidTab
import Derived.Lib.LaidU8T
import Derived.LaidSub
import Derived.Deep.Strs
import Derived.Lay
import Derived.Stop.LaidErr
import Derived.Test.YtdheakalfleleaaDoorShelfq
import GoSem.PinnedTables
namespace Go.Proofs.YtdheakalfleleaaDoor.Base
open Go.ChangeShapes Go.WideShapes Go.ChangeAt Go.RowKit Go.Lib
theorem own : ownKnob Tryd.prog.godebug = none := by kernel_rfl
def laidL : List (String × DataW Unit) := Rows.operUnaryUptoRow.laid
noncomputable def laidWorld (os : Os) : World := World.laidAll Tryd.prog os laidL
theorem laid_met (os : Os) (args : Array Value) : laidMet Tryd.prog laidL ((laidWorld os).forCall (fun _ _ => 0) ⟨#[], args, []⟩).memory :=
  laidMet_laidAll args (by kernel_rfl) (by kernel_rfl)
theorem met {W : World} (h : laidMetH Tryd.prog laidL W) : laidMet Tryd.prog laidL W := by
  have e : (laidL.filter fun x => x.2.handleName?.isSome) = [] := by kernel_rfl
  unfold laidMetH at h
  rw [e] at h
  exact h
theorem pow_is : (laidL.filter fun x => x.1 == "internal/strconv.uint64pow10") = [("internal/strconv.uint64pow10", Lib.tabData .u64 Lib.pow10Tab)] := by kernel_rfl
theorem takes_is : (laidL.filter fun x => x.1 == "gusset/oper.takes") = [("gusset/oper.takes", .agg ((List.range 10).map fun i => .lit (.bool (decide (i < 5)))))] := by kernel_rfl
theorem range_is : (laidL.filter fun x => x.1 == "strconv.ErrRange") = [("strconv.ErrRange", .iface "*errors.errorString" (.ptr (.agg [.lit (.string [118, 97, 108, 117, 101, 32, 111, 117, 116, 32, 111, 102, 32, 114, 97, 110, 103, 101])])))] := by kernel_rfl
theorem syntax_is : (laidL.filter fun x => x.1 == "strconv.ErrSyntax") = [("strconv.ErrSyntax", .iface "*errors.errorString" (.ptr (.agg [.lit (.string [105, 110, 118, 97, 108, 105, 100, 32, 115, 121, 110, 116, 97, 120])])))] := by kernel_rfl
theorem star : "*" ++ "errors.errorString" = "*errors.errorString" := by decide
theorem row157 (u : TypeId) (h : Tryd.prog.typeName? 3 u = some "*errors.errorString") : u = 157 :=
  typeName_ptr_named (nm := "errors.errorString") (by rw [star]; kernel_rfl) (by kernel_rfl) (by decide) u (by rw [star]; exact h)
theorem cells_of_bools {H : Type} {enc : TypeId × Value → H} {P : Program} {w : World} {base : Nat} {sp : Nat → Bool} {held : Bool} {fuel : Nat} {t e : TypeId} {n : Nat} {cs : List Value} {zs : List Bool} {p : List MemPlace}
    (ht : P.underlying t = some (.array n e)) (he : P.underlying e = some .bool) (hce : P.cellsOf e = 1) (hct : P.cellsOf t = n)
    (h : DataW.trod enc P w base sp held fuel t cs = some (.agg (zs.map fun z => .lit (.bool z)), p)) : cs = zs.map Value.bool := by
  obtain ⟨xs, m, _, hx, hlen, hxl, hf⟩ := DataW.trod_array ht h
  rw [hct] at hlen
  have hz : zs.map (fun z => (DataW.lit (.bool z) : DataW H)) = xs.map (·.1) := by
    have := (Prod.mk.inj hx).1
    injection this
  apply List.ext_getElem?
  intro i
  have hzl : zs.length = xs.length := by have := congrArg List.length hz; simpa using this
  by_cases hi : i < n
  · have hg := hf i hi
    rw [hce] at hg
    have hxi : i < xs.length := by omega
    rw [List.getElem?_eq_getElem hxi] at hg
    have hd : (cs.drop (i * 1)).take 1 = [cs[i]'(by omega)] := by
      rw [Nat.mul_one, List.drop_eq_getElem_cons (by omega)]
      rfl
    rw [hd] at hg
    obtain ⟨b, e1, e2⟩ := DataW.trod_bool he hg
    have hb : cs[i]'(by omega) = .bool b := (List.cons.inj e1).1
    have hzi := congrArg (fun l => l[i]?) hz
    simp only [List.getElem?_map, List.getElem?_eq_getElem hxi, List.getElem?_eq_getElem (show i < zs.length by omega), Option.map_some] at hzi
    rw [e2] at hzi
    have hbz : zs[i]'(by omega) = b := by
      have := Option.some.inj hzi
      injection this with this
      injection this
    rw [List.getElem?_eq_getElem (show i < cs.length by omega), List.getElem?_map, List.getElem?_eq_getElem (show i < zs.length by omega), hb, ← hbz]
    rfl
  · rw [List.getElem?_eq_none (by omega), List.getElem?_eq_none (by simp; omega)]
theorem gw {W : World} (_ : W.ShapedOpen Tryd.prog) (hL : laidMetH Tryd.prog laidL W) : POper.GW W := by
  have hm := met hL
  refine ⟨?_, ?_, ?_, ?_⟩
  · have := hm.filter (fun x => x.1 == "internal/strconv.uint64pow10")
    rw [pow_is] at this
    exact Lib.tabIs_of_head (g := 3) (t := 149) (by kernel_rfl) (by kernel_rfl) (show Tryd.prog.underlying 149 = some (.array 20 124) by kernel_rfl) Tryd.underlying124 (by kernel_rfl) (by kernel_rfl) this
  · have := hm.filter (fun x => x.1 == "gusset/oper.takes")
    rw [takes_is] at this
    obtain ⟨ps, ⟨g', t', cs, fuel, p, q, hg', ht', hvar, hd, _, _⟩, _⟩ := this
    obtain rfl := Option.some.inj ((show Tryd.prog.globalNamed "gusset/oper.takes" = some 0 by kernel_rfl).symm.trans hg')
    obtain rfl := Option.some.inj ((show (Tryd.prog.globals[0]?).map (·.type) = some 103 by kernel_rfl).symm.trans ht')
    have hc := cells_of_bools (zs := (List.range 10).map fun i => decide (i < 5)) (show Tryd.prog.underlying 103 = some (.array 10 4) by kernel_rfl) Tryd.underlying4 (by kernel_rfl) (by kernel_rfl) (by rw [List.map_map]; exact hd)
    intro i hi
    have := World.var?_cell (P := Tryd.prog) (g := 0) (by kernel_rfl) hvar i
    rw [this, ← Array.getElem?_toList, hc]
    simp [hi]
  · have := hm.filter (fun x => x.1 == "strconv.ErrSyntax")
    rw [syntax_is] at this
    obtain ⟨a, s, hv, -, -, -⟩ := laid_sentinel this (g := 1) (by kernel_rfl) (by kernel_rfl) Tryd.underlying119 row157 Tryd.underlying157 Tryd.underlying159 rfl rfl Tryd.underlying9 (by kernel_rfl) (by kernel_rfl)
    have h0 := World.var?_cell (P := Tryd.prog) (g := 1) (by kernel_rfl) hv 0
    exact ⟨_, by simpa using h0, Or.inr ⟨_, _, rfl⟩⟩
  · have := hm.filter (fun x => x.1 == "strconv.ErrRange")
    rw [range_is] at this
    obtain ⟨a, s, hv, -, -, -⟩ := laid_sentinel this (g := 2) (by kernel_rfl) (by kernel_rfl) Tryd.underlying119 row157 Tryd.underlying157 Tryd.underlying159 rfl rfl Tryd.underlying9 (by kernel_rfl) (by kernel_rfl)
    have h0 := World.var?_cell (P := Tryd.prog) (g := 2) (by kernel_rfl) hv 0
    exact ⟨_, by simpa using h0, Or.inr ⟨_, _, rfl⟩⟩
end Go.Proofs.YtdheakalfleleaaDoor.Base
