/- HJ, as this claim needs it. -/
import Derived.Test.YtdheakalfleleaaDoorBaseq
namespace Go.Proofs.YtdheakalfleleaaDoor.Base
open Go.ChangeShapes Go.WideShapes Go.ChangeAt Go.RowKit Go.Lib
set_option linter.unusedVariables false
set_option maxRecDepth 100000 in
theorem okWide_two {W : World} {b : Nat} {v : Value} (hv : Value.okWide Tryd.prog W .any b 50 v) : ∃ cs, v = .agg cs ∧ cs.size = 2 := by
  have ht : Tryd.prog.underlying 50 = some (.array 2 3) := by kernel_rfl
  have hc : Tryd.prog.cellsOf 50 = 2 := by kernel_rfl
  unfold Value.okWide at hv
  rw [ht] at hv
  cases v <;> simp_all
set_option maxRecDepth 100000 in
theorem open_two {H : Type} {enc : TypeId × Value → H} {W : World} {b : Nat} {v : Value} {d : DataW H} {p : List MemPlace} (hv : Value.okWide Tryd.prog W .any b 50 v) (h : DataW.Trod enc Tryd.prog W 0 (fun _ => true) true 50 v d p) :
    ∃ m n : Int, v = .agg #[.int .i64 m, .int .i64 n] ∧ p = [] ∧ ∀ (W' : World) (sp : Nat → Bool), DataW.Trod enc Tryd.prog W' 0 sp true 50 v d [] := by
  have ht : Tryd.prog.underlying 50 = some (.array 2 3) := by kernel_rfl
  have c3 : Tryd.prog.cellsOf 3 = 1 := by kernel_rfl
  have c50 : Tryd.prog.cellsOf 50 = 2 := by kernel_rfl
  obtain ⟨cs, rfl, hsz⟩ := okWide_two hv
  obtain ⟨l⟩ := cs
  match l, hsz with
  | [v0, v1], _ =>
    obtain ⟨fuel, hf⟩ := h
    have hf : DataW.trod enc Tryd.prog W 0 (fun _ => true) true fuel 50 [v0, v1] = some (d, p) := hf
    obtain ⟨xs, m, _, hx, _, hxl, hg⟩ := DataW.trod_array ht hf
    match xs, hxl with
    | [y0, y1], _ =>
      have g0 := hg 0 (by decide)
      have g1 := hg 1 (by decide)
      simp only [c3, Nat.zero_mul, Nat.one_mul, List.drop, List.take, List.getElem?_cons_zero, List.getElem?_cons_succ] at g0 g1
      obtain ⟨n0, e0, rfl, w0⟩ := DataW.trod_int Tryd.underlying3 g0
      obtain ⟨n1, e1, rfl, w1⟩ := DataW.trod_int Tryd.underlying3 g1
      obtain rfl := (List.cons.inj e0).1
      obtain rfl := (List.cons.inj e1).1
      simp only [Prod.mk.injEq] at hx
      obtain ⟨rfl, rfl⟩ := hx
      refine ⟨n0, n1, rfl, rfl, fun W' sp => ⟨2, ?_⟩⟩
      show DataW.trod enc Tryd.prog W' 0 sp true 2 50 [.int .i64 n0, .int .i64 n1] = _
      have r2 : List.range 2 = [0, 1] := by decide
      unfold DataW.trod
      simp [ht, c50, c3, r2, DataW.trod, Tryd.underlying3, w0, w1]
end Go.Proofs.YtdheakalfleleaaDoor.Base
