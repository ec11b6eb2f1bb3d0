/- HL, as this claim needs it. -/
import Derived.Test.YtdheakalfleleaaDoorBaseq
import Derived.Test.YtdheakalfleleaaDoorRows
namespace Go.Proofs.YtdheakalfleleaaDoor.Base
open Go.ChangeShapes Go.WideShapes Go.ChangeAt Go.RowKit Go.Lib
set_option linter.unusedVariables false
set_option maxRecDepth 100000
theorem open_val_sz {H : Type} {enc : TypeId × Value → H} {W : World} {b : Nat} {v : Value} {d : DataW H} {p : List MemPlace} (hv : Value.okWide Tryd.prog W .any b 23 v) (h : DataW.Trod enc Tryd.prog W 0 (fun _ => true) true 23 v d p) :
    ∃ x : POper.S23, v = .agg #[.int .i64 x.f0, .int .i64 x.f1, .string x.f2] ∧ p = [] ∧ (Lit.int .i64 x.f1).wf = true ∧ x.f2.size ≤ Rows.uptoBulk d ∧ ∀ (W' : World) (sp : Nat → Bool), DataW.Trod enc Tryd.prog W' 0 sp true 23 v d [] := by
  obtain ⟨cs, rfl, hsz⟩ := okWide_struct Tryd.underlying23 hv
  rw [show Tryd.prog.cellsOf 23 = 3 by kernel_rfl] at hsz
  obtain ⟨l⟩ := cs
  match l, hsz with
  | [c0, c1, c2], _ =>
    obtain ⟨fuel, hf⟩ := h
    obtain ⟨y0, y1, y2, m, hx, _, hy0, hy1, hy2⟩ := Go.Deep.trod_struct3 Tryd.underlying23 hf
    simp only [show Tryd.prog.cellsOf 3 = 1 by kernel_rfl, show Tryd.prog.cellsOf 9 = 1 by kernel_rfl, Value.cells, List.drop, List.take] at hy0 hy1 hy2
    obtain ⟨n0, e0, rfl, w0⟩ := DataW.trod_int Tryd.underlying3 hy0
    obtain ⟨n1, e1, rfl, w1⟩ := DataW.trod_int Tryd.underlying3 hy1
    obtain ⟨s2, e2, rfl, w2⟩ := DataW.trod_string Tryd.underlying9 hy2
    obtain rfl := (List.cons.inj e0).1
    obtain rfl := (List.cons.inj e1).1
    obtain rfl := (List.cons.inj e2).1
    simp only [Prod.mk.injEq] at hx
    obtain ⟨rfl, rfl⟩ := hx
    refine ⟨⟨n0, n1, s2⟩, rfl, rfl, w1, by simp only [Rows.uptoBulk, Rows.uptoBulkAll]; show s2.data.size ≤ _; rw [← Array.length_toList]; omega, fun W' sp => ⟨2, ?_⟩⟩
    have f0 : DataW.trod enc Tryd.prog W' 0 sp true 1 3 [.int .i64 n0] = some (.lit (.int .i64 n0), []) := by simp [DataW.trod, Tryd.underlying3, w0]
    have f1 : DataW.trod enc Tryd.prog W' 0 sp true 1 3 [.int .i64 n1] = some (.lit (.int .i64 n1), []) := by simp [DataW.trod, Tryd.underlying3, w1]
    have f2 : DataW.trod enc Tryd.prog W' 0 sp true 1 9 [.string s2] = some (.lit (.string s2.data.toList), []) := by simp [DataW.trod, Tryd.underlying9, w2]
    exact Go.Deep.trod_struct3_mk (cs := [.int .i64 n0, .int .i64 n1, .string s2]) Tryd.underlying23 (by kernel_rfl) f0 f1 f2
end Go.Proofs.YtdheakalfleleaaDoor.Base
