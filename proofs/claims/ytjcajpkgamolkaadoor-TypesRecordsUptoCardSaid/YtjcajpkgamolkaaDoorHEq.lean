/- HE, as this claim needs it. -/
import Derived.Test.YtjcajpkgamolkaaDoorHBq
import Derived.Test.YtjcajpkgamolkaaDoorPTypx4q
import Derived.Test.YtjcajpkgamolkaaDoorPTypx5q
namespace Go.Proofs.YtjcajpkgamolkaaDoor.Ty
open Go.RowKit Go.Proofs.YtjcajpkgamolkaaDoor.PTyp Go.Proofs.YtjcajpkgamolkaaDoorW.PrintWords Go.Proofs.YtjcajpkgamolkaaDoorW.PrintLast Go.Proofs.YtjcajpkgamolkaaDoorW.PrintMore
set_option linter.unusedVariables false
set_option linter.unusedSimpArgs false
theorem shape_ev (t : Ty) (hw : wT t ≤ 1099511627776) : Ev (fun k => types_shape.f k t.f0 t.f1 t.f2 t.f3) (shapeT t) := by
  refine Ev.congr (f := fun _ => some (shapeT t)) (fun k => ?_) (Ev.now _)
  have h : wT ⟨t.f0, t.f1, t.f2, t.f3⟩ ≤ 1099511627776 := by rw [eta25]; exact hw
  unfold types_shape.f
  rw [if_pos h, eta25]
end Go.Proofs.YtjcajpkgamolkaaDoor.Ty
namespace Go.Proofs.YtjcajpkgamolkaaDoor.Ty
open Go.RowKit Go.Proofs.YtjcajpkgamolkaaDoor.PTyp Go.Proofs.YtjcajpkgamolkaaDoorW.PrintWords Go.Proofs.YtjcajpkgamolkaaDoorW.PrintLast Go.Proofs.YtjcajpkgamolkaaDoorW.PrintMore
set_option linter.unusedVariables false
set_option linter.unusedSimpArgs false
theorem may_l (l : List Ty) (hw : wTs l ≤ 1099511627776) (IH : ∀ t ∈ l, Ev (fun k => types_may.f k t.f0 t.f1 t.f2 t.f3) (mayT t)) : ∀ (j i : Nat), i + j = l.length → Ev (fun k => types_may.l0 k l (l.length : Int) (i : Int)) (mayTs (l.drop i)) := by
  have hl := wTs_len l
  intro j
  induction j with
  | zero =>
    intro i hi
    rw [List.drop_eq_nil_of_le (by omega), mayTs_nil]
    exact Ev.step (f := fun _ => some _) (fun k => by rw [types_may.l0, if_neg (by omega)]) (Ev.now _)
  | succ j ih =>
    intro i hi
    have hlt : i < l.length := by omega
    rw [drop_at hlt, mayTs_cons]
    refine Ev.step (f := fun k => (types_may.f k l[i].f0 l[i].f1 l[i].f2 l[i].f3).bind fun b => if b = true then types_may.l0 k l (l.length : Int) ((i + 1 : Nat) : Int) else some false) (fun k => ?_) ?_
    · rw [types_may.l0, if_pos (by omega), if_pos (by omega), if_pos (by omega), rd_at hlt, wrap_id _ (by omega)]
      rfl
    · refine Ev.bind (f := fun k b => if b = true then types_may.l0 k l (l.length : Int) ((i + 1 : Nat) : Int) else some false) (IH _ (List.getElem_mem hlt)) ?_
      cases mayT l[i] with
      | true => exact Ev.congr (f := fun k => types_may.l0 k l (l.length : Int) ((i + 1 : Nat) : Int)) (fun k => if_pos rfl) (by simpa using ih (i + 1) (by omega))
      | false => exact Ev.congr (f := fun _ => some false) (fun k => if_neg (by simp)) (Ev.now _)
theorem may_ev (t : Ty) : wT t ≤ 1099511627776 → Ev (fun k => types_may.f k t.f0 t.f1 t.f2 t.f3) (mayT t) := by
  refine Ty.ind (p := fun t => wT t ≤ 1099511627776 → Ev (fun k => types_may.f k t.f0 t.f1 t.f2 t.f3) (mayT t)) ?_ t
  intro k n ns l ih hw
  have hw2 := hw
  rw [wT_mk] at hw2
  have hr := may_l l (by omega) (fun t ht => ih t ht (by have := wTs_mem ht; omega)) l.length 0 (by omega)
  rw [List.drop_zero] at hr
  refine Ev.step (f := fun q => (types_shape.f q k n ns l).bind fun b => if b = true then types_may.l0 q l (l.length : Int) 0 else some false) (fun q => by rw [types_may.f]) ?_
  refine Ev.bind (f := fun q b => if b = true then types_may.l0 q l (l.length : Int) 0 else some false) (shape_ev ⟨k, n, ns, l⟩ hw) ?_
  rw [mayT_mk]
  cases shapeT ⟨k, n, ns, l⟩ with
  | true => exact Ev.congr (f := fun q => types_may.l0 q l (l.length : Int) 0) (fun q => if_pos rfl) (by simpa using hr)
  | false => exact Ev.congr (f := fun _ => some false) (fun q => if_neg (by simp)) (Ev.now _)
theorem check_ev (t : Ty) (hw : wT t ≤ 1099511627776) : Ev (fun k => types_Check.f k t.f0 t.f1 t.f2 t.f3) (checkT t) := by
  unfold types_Check.f checkT
  refine Ev.bind (f := fun q b => if b = true then (types_Size.f q t.f0 t.f1 t.f2 t.f3).bind fun n => if n > 300 then some 3 else some 0 else some 1) (may_ev t hw) ?_
  cases mayT t with
  | false => exact Ev.congr (f := fun _ => some 1) (fun q => if_neg (by simp)) (Ev.now _)
  | true =>
    refine Ev.congr (f := fun q => (types_Size.f q t.f0 t.f1 t.f2 t.f3).bind fun n => if n > 300 then some 3 else some 0) (fun q => if_pos rfl) ?_
    refine Ev.bind (f := fun q n => if n > 300 then some 3 else some 0) (size_ev t hw) ?_
    by_cases h : 300 < sizeT t
    · simp only [if_pos h]
      rw [if_pos (by omega)]
      exact Ev.now _
    · simp only [if_neg h]
      rw [if_neg (by omega)]
      exact Ev.now _
end Go.Proofs.YtjcajpkgamolkaaDoor.Ty
