/- Contracts of what makes a heap and its things: New, Clone, add. -/
import Derived.Test.YtjbolkkbehfnmaaDoorVH
namespace Go.Proofs.YtjbolkkbehfnmaaDoor.Val
open Go.RowKit Go.Proofs.YtjbolkkbehfnmaaDoor.PVal Go.Proofs.YtjbolkkbehfnmaaDoorW.PrintWords Go.Proofs.YtjbolkkbehfnmaaDoorW.PrintLast Go.Proofs.YtjbolkkbehfnmaaDoorW.PrintMore
set_option linter.unusedVariables false
set_option linter.unusedSimpArgs false
set_option maxHeartbeats 2000000 in
set_option maxRecDepth 100000 in
theorem new_calls (w : World) : Calls Tryd.prog 6 #[] w fun e w' => e = .returned (.pointer (some ⟨w.heap.size, 0, none⟩)) ∧ w' = w.alloc (.cells #[.slice none 0 0] 52) := by
  go_enter Tryd.func6, Tryd.ntmps6
  go_wp2
  go_ret
  exact ⟨rfl, rfl⟩
theorem new_heap (w : World) : HP (w.alloc (.cells #[.slice none 0 0] 52)) (fun k => k = w.heap.size) w.heap.size [] :=
  ⟨.slice none 0 0, [], fun _ _ => False, ⟨heap_alloc_new w _, rfl, Kd.R_nil _ _ _ _ _, rfl, fun i t h => by simp at h, fun _ _ h => h.elim, fun _ _ _ _ h => h.elim, fun _ h => h, fun _ _ _ h => h⟩⟩
theorem eq_nil34 (A : Option Addr) (n c : Nat) (w : World) : (binOp BinOp.eql 34 (Value.slice A n c) (Value.slice none 0 0)).run Tryd.prog w = .ok (.bool A.isNone) w := by
  have h : ∀ k, (Op.equalIn (k + 1) 34 (Value.slice A n c) (Value.slice none 0 0)).run Tryd.prog w = .ok A.isNone w := by
    intro k
    unfold Op.equalIn
    cases A <;> simp [run_underlying Tryd.underlying34, Result.andThen]
  have h2 : (Op.equal 34 (Value.slice A n c) (Value.slice none 0 0)).run Tryd.prog w = .ok A.isNone w := h _
  simp only [binOp]
  simp [h2, Result.andThen]
attribute [local go_sem] eq_nil34
theorem empty_row (w : World) : k32.R 32 (w.alloc (.cells #[] 32)) w.heap.size (fun _ => True) (.slice (some ⟨w.heap.size, 0, none⟩) 0 0) [] :=
  ⟨fun _ _ => trivial, [], ⟨by simp, .inr ⟨w.heap.size, 0, #[], rfl, Nat.le_refl _, heap_alloc_new w _, Nat.le_refl _, Nat.zero_le _, by simp, by simp⟩⟩, ⟨rfl, fun j p h => by simp at h⟩⟩
set_option maxHeartbeats 2000000 in
set_option maxRecDepth 100000 in
/-- slices.Clone. -/
theorem clone_calls (w : World) (A : Option Addr) (c : Nat) (l : List S32) (hC : k32.C w A l.length l) (hc : l.length ≤ c) (hmax : l.length < 1000000000000) :
    Calls Tryd.prog 35 #[.slice A l.length c] w fun e w' => ∃ v, e = .returned v ∧ k32.R 32 w' w.heap.size (fun _ => True) v l ∧ Below w.heap.size w w' := by
  cases A with
  | none =>
    have hl : l = [] := by
      cases l with
      | nil => rfl
      | cons a r =>
        obtain ⟨ad, h, _⟩ := hC.2.2 (by simp)
        cases h
    subst hl
    clear hC
    go_enter Tryd.func35, Tryd.ntmps35
    go_wp2
    go_ret
    exact ⟨_, rfl, Kd.R_nil _ _ _ _ _, Below.refl _ _⟩
  | some a =>
    have hC0 := Aside0.mk hC
    clear hC
    go_enter Tryd.func35, Tryd.ntmps35
    go_wp2_with (first | ((with_reducible refine gate_builtin (b := .append) (xs := #[.tmp 5, .tmp 6]) rfl ?_); at_builtin; refine Kd.R_append_rows k32 (w0 := w) w.heap.size rfl (.tmp 5) (.tmp 6) 34 32 (.agg #[(.int .i64 0), (.int .i64 0), (.string ⟨#[]⟩)]) 32 rfl Tryd.underlying34 info32 rfl (by decide) (by omega) (.slice (some ⟨w.heap.size, 0, none⟩) 0 0) ([] : List S32) l _ _ _ (fun _ => True) (fun _ => False) rfl rfl ?aO ?aR (fun _ _ h => h) (fun _ h => h.elim) ?aF ?aB ?aS ?aL ?_; (case aO => exact empty_row w); (case aR => exact Kd.C_alloc hC0.out _); (case aF => exact fun _ _ => trivial); (case aB => exact below_alloc (Below.refl _ _) _); (case aS => simp); (case aL => simp; omega); intro v1 w1 hrow1 hb1 _ _; obtain ⟨A1, c1, ev1⟩ := Kd.R_slice hrow1; subst ev1; have HB := Aside0.mk hb1; have HR := Aside0.mk hrow1; clear hb1 hrow1))
    go_ret
    exact ⟨_, rfl, HR.out, HB.out⟩
end Go.Proofs.YtjbolkkbehfnmaaDoor.Val
