/- HE, as this claim needs it. -/
import Derived.Test.YtjcajpkgamolkaaDoorHBq
import Derived.Test.YtjcajpkgamolkaaDoorPTypx4q
import Derived.Test.YtjcajpkgamolkaaDoorPTypx5q
namespace Go.Proofs.YtjcajpkgamolkaaDoor.Ty
open Go.RowKit Go.Proofs.YtjcajpkgamolkaaDoor.PTyp Go.Proofs.YtjcajpkgamolkaaDoorW.PrintWords Go.Proofs.YtjcajpkgamolkaaDoorW.PrintLast Go.Proofs.YtjcajpkgamolkaaDoorW.PrintMore
set_option linter.unusedVariables false
set_option linter.unusedSimpArgs false
def partsFrom : Option Ty → List Ty → Bool
  | _, [] => true
  | p, a :: r => !(a.f0 == 10 || a.f0 == 1) && (match p with | none => true | some q => decide (cmpT q a < 0)) && partsFrom (some a) r
def beforeB (p : Option Ty) (a : Ty) : Bool := match p with | none => true | some q => decide (cmpT q a < 0)
theorem partsFrom_cons (p : Option Ty) (a : Ty) (r : List Ty) : partsFrom p (a :: r) = (!(a.f0 == 10 || a.f0 == 1) && beforeB p a && partsFrom (some a) r) := by cases p <;> rfl
theorem parts_some : ∀ (r : List Ty) (a : Ty), partsOk (a :: r) = (!(a.f0 == 10 || a.f0 == 1) && partsFrom (some a) r)
  | [], a => by simp [partsOk, partsFrom, Ty.k]
  | b :: r, a => by
    rw [partsOk, parts_some r b, partsFrom]
    simp only [Ty.k]
    cases !(a.f0 == 10 || a.f0 == 1) <;> cases !(b.f0 == 10 || b.f0 == 1) <;> simp
theorem parts_is (l : List Ty) : partsOk l = partsFrom none l := by
  cases l with
  | nil => simp [partsOk, partsFrom]
  | cons a r => rw [parts_some, partsFrom]; simp
section
variable (t : Ty)
abbrev h0 (k : Nat) (x6 : Int) : Option Bool := types_shape.l0 k (t.f2.length : Int) (t.f3.length : Int) t.f1 x6 t.f0 t.f1 t.f2 t.f3
abbrev h1 (k : Nat) (x91 : Int) : Option Bool := types_shape.l1 k (t.f2.length : Int) (t.f3.length : Int) t.f1 t.f3 (t.f3.length : Int) x91 t.f0 t.f1 t.f2 t.f3
theorem shape_l0 (hs : t.f2.length ≤ 1099511627776) : ∀ (j i : Nat), i + 1 + j = t.f2.length + 1 → Ev (fun k => h0 t k ((i + 1 : Nat) : Int)) (risesB (t.f2.drop i) && (decide (t.f3.length = t.f2.length) && t.f1 == 0)) := by
  intro j
  induction j with
  | zero =>
    intro i hi
    rw [List.drop_eq_nil_of_le (by omega)]
    refine Ev.step (f := fun _ => some _) (fun k => ?_) (Ev.now _)
    show types_shape.l0 (k + 1) _ _ _ _ _ _ _ _ = _
    rw [types_shape.l0, if_neg (by omega)]
    by_cases e : t.f3.length = t.f2.length
    · rw [if_pos (by omega)]; simp [risesB, e]
    · rw [if_neg (by omega)]; simp [risesB, e]
  | succ j ih =>
    intro i hi
    have h1 : i < t.f2.length := by omega
    rw [drop_at h1]
    by_cases h2 : i + 1 < t.f2.length
    · rw [drop_at h2, risesB, ← drop_at h2]
      have e : ∀ k, h0 t (k + 1) ((i + 1 : Nat) : Int) = if Op.bytesLess t.f2[i].toList t.f2[i + 1].toList = true then h0 t k ((i + 1 + 1 : Nat) : Int) else some false := fun k => by
        show types_shape.l0 (k + 1) _ _ _ _ _ _ _ _ = _
        have e1 : wrap64 (((i + 1 : Nat) : Int) - 1) = (i : Int) := by rw [wrap_id _ (by omega)]; omega
        rw [types_shape.l0, if_pos (by omega), e1, if_pos (by omega), if_pos (by omega), if_pos (by omega), if_pos (by omega), rdB_at h1, rdB_at h2, wrap_id _ (by omega)]
        rfl
      cases hb : Op.bytesLess t.f2[i].toList t.f2[i + 1].toList with
      | true =>
        refine Ev.step (fun k => (e k).trans (if_pos hb)) ?_
        simpa using ih (i + 1) (by omega)
      | false =>
        refine Ev.step (f := fun _ => some _) (fun k => (e k).trans (if_neg (by rw [hb]; simp))) ?_
        simpa using Ev.now false
    · rw [List.drop_eq_nil_of_le (by omega)]
      have := ih (i + 1) (by omega)
      rw [List.drop_eq_nil_of_le (by omega)] at this
      refine Ev.step (f := fun _ => some _) (fun k => ?_) (Ev.now _)
      show types_shape.l0 (k + 1) _ _ _ _ _ _ _ _ = _
      rw [types_shape.l0, if_neg (by omega)]
      by_cases e : t.f3.length = t.f2.length
      · rw [if_pos (by omega)]; simp [risesB, e]
      · rw [if_neg (by omega)]; simp [risesB, e]
def endE : Bool := decide (t.f2.length = 0) && (decide (2 ≤ t.f3.length) && t.f1 == 0)
theorem shape_l1 (hw : wTs t.f3 ≤ 1099511627776) : ∀ (j i : Nat) (p : Option Ty), i + j = t.f3.length → (i = 0 → p = none) → (∀ q, i = q + 1 → ∃ h : q < t.f3.length, p = some t.f3[q]) → Ev (fun k => h1 t k (i : Int)) (partsFrom p (t.f3.drop i) && endE t) := by
  have hl := wTs_len t.f3
  intro j
  induction j with
  | zero =>
    intro i p hi hp0 hp1
    have e0 : partsFrom p [] = true := by cases p <;> rfl
    rw [List.drop_eq_nil_of_le (by omega), e0]
    refine Ev.step (f := fun _ => some _) (fun k => ?_) (Ev.now _)
    show types_shape.l1 (k + 1) _ _ _ _ _ _ _ _ _ _ = _
    rw [types_shape.l1, if_neg (by omega)]
    unfold endE
    by_cases e1 : t.f2.length = 0
    · rw [if_pos (by omega)]
      by_cases e2 : 2 ≤ t.f3.length
      · rw [if_pos (by omega)]; simp [e1, e2]
      · rw [if_neg (by omega)]; simp [e1, e2]
    · rw [if_neg (by omega)]; simp [e1]
  | succ j ih =>
    intro i p hi hp0 hp1
    have hlt : i < t.f3.length := by omega
    rw [drop_at hlt, partsFrom_cons]
    have nx : Ev (fun k => h1 t k ((i + 1 : Nat) : Int)) (partsFrom (some t.f3[i]) (t.f3.drop (i + 1)) && endE t) := ih (i + 1) (some t.f3[i]) (by omega) (by omega) (fun q hq => by obtain rfl : q = i := (by omega); exact ⟨hlt, rfl⟩)
    by_cases k10 : t.f3[i].f0 = 10
    · refine Ev.step (f := fun _ => some false) (fun k => ?_) ?_
      · show types_shape.l1 (k + 1) _ _ _ _ _ _ _ _ _ _ = _
        rw [types_shape.l1, if_pos (by omega), if_pos (by omega), if_pos (by omega), rd_at hlt, if_pos k10]
      · simpa [k10] using Ev.now false
    by_cases k1 : t.f3[i].f0 = 1
    · refine Ev.step (f := fun _ => some false) (fun k => ?_) ?_
      · show types_shape.l1 (k + 1) _ _ _ _ _ _ _ _ _ _ = _
        rw [types_shape.l1, if_pos (by omega), if_pos (by omega), if_pos (by omega), rd_at hlt, if_neg k10, if_pos k1]
      · simpa [k1] using Ev.now false
    have b10 : (t.f3[i].f0 == 10) = false := by simpa using k10
    have b1 : (t.f3[i].f0 == 1) = false := by simpa using k1
    cases i with
    | zero =>
      obtain rfl := hp0 rfl
      refine Ev.step (f := fun k => h1 t k ((0 + 1 : Nat) : Int)) (fun k => ?_) ?_
      · show types_shape.l1 (k + 1) _ _ _ _ _ _ _ _ _ _ = _
        rw [types_shape.l1, if_pos (by omega), if_pos (by omega), if_pos (by omega), rd_at hlt, if_neg k10, if_neg k1, if_neg (by omega), wrap_id _ (by omega)]
        rfl
      · simpa [b10, b1, beforeB] using nx
    | succ q =>
      obtain ⟨hq, rfl⟩ := hp1 q rfl
      refine Ev.step (f := fun k => (types_Compare.f k t.f3[q].f0 t.f3[q].f1 t.f3[q].f2 t.f3[q].f3 t.f3[q + 1].f0 t.f3[q + 1].f1 t.f3[q + 1].f2 t.f3[q + 1].f3).bind fun c => if c ≥ 0 then some false else h1 t k ((q + 1 + 1 : Nat) : Int)) (fun k => ?_) ?_
      · show types_shape.l1 (k + 1) _ _ _ _ _ _ _ _ _ _ = _
        have e1 : wrap64 (((q + 1 : Nat) : Int) - 1) = (q : Int) := by rw [wrap_id _ (by omega)]; omega
        rw [types_shape.l1, if_pos (by omega), if_pos (by omega), if_pos (by omega), rd_at hlt, if_neg k10, if_neg k1, if_pos (by omega), e1, if_pos (by omega), if_pos (by omega), rd_at hq, wrap_id _ (by omega)]
        rfl
      · refine Ev.bind (f := fun k c => if c ≥ 0 then some false else h1 t k ((q + 1 + 1 : Nat) : Int)) (cmp_ev t.f3[q] t.f3[q + 1] (by have := wTs_mem (List.getElem_mem hq); omega) (by have := wTs_mem (List.getElem_mem hlt); omega)) ?_
        by_cases hc : cmpT t.f3[q] t.f3[q + 1] < 0
        · refine Ev.congr (f := fun k => h1 t k ((q + 1 + 1 : Nat) : Int)) (fun k => if_neg (by omega)) ?_
          simpa [b10, b1, hc, beforeB] using nx
        · refine Ev.congr (f := fun _ => some false) (fun k => if_pos (by omega)) ?_
          simpa [b10, b1, hc, beforeB] using Ev.now false
end
theorem shape_j (k : Nat) (t : Ty) : types_shape.f k t.f0 t.f1 t.f2 t.f3 = types_shape.j0 k (t.f2.length : Int) (t.f3.length : Int) t.f1 t.f0 (decide (1 ≤ t.f0 ∧ t.f0 ≤ 6)) t.f0 t.f1 t.f2 t.f3 := by
  unfold types_shape.f
  have e : ∀ c : Int, 1 ≤ c → c ≤ 6 → t.f0 = c → (t.f0 == c) = decide (1 ≤ t.f0 ∧ t.f0 ≤ 6) := fun c h1 h2 h3 => by
    rw [h3, decide_eq_true ⟨h1, h2⟩]; simp
  by_cases c1 : t.f0 = 1
  · rw [if_pos c1, e 1 (by omega) (by omega) c1]
  by_cases c2 : t.f0 = 2
  · rw [if_neg c1, if_pos c2, e 2 (by omega) (by omega) c2]
  by_cases c3 : t.f0 = 3
  · rw [if_neg c1, if_neg c2, if_pos c3, e 3 (by omega) (by omega) c3]
  by_cases c4 : t.f0 = 4
  · rw [if_neg c1, if_neg c2, if_neg c3, if_pos c4, e 4 (by omega) (by omega) c4]
  by_cases c5 : t.f0 = 5
  · rw [if_neg c1, if_neg c2, if_neg c3, if_neg c4, if_pos c5, e 5 (by omega) (by omega) c5]
  · rw [if_neg c1, if_neg c2, if_neg c3, if_neg c4, if_neg c5]
    congr 1
    by_cases c6 : t.f0 = 6
    · rw [e 6 (by omega) (by omega) c6]
    · rw [decide_eq_false (by omega)]; simp [c6]
theorem shape_ev (t : Ty) (hw : wT t ≤ 1099511627776) : Ev (fun k => types_shape.f k t.f0 t.f1 t.f2 t.f3) (shapeT t) := by
  have hwi := wT_is t
  have hl := wTs_len t.f3
  refine Ev.congr (fun k => shape_j k t) ?_
  have hsh : shapeT t = (if 1 ≤ t.f0 ∧ t.f0 ≤ 6 then t.f2.length == 0 && t.f3.length == 0 && t.f1 == 0
    else if t.f0 = 7 then t.f2.length == 0 && t.f3.length == 1 && t.f1 == 0
    else if t.f0 = 8 then risesB t.f2 && t.f3.length == t.f2.length && t.f1 == 0
    else if t.f0 = 9 then t.f2.length == 0 && decide (1 ≤ t.f3.length) && t.f1 == 0
    else if t.f0 = 10 then partsOk t.f3 && t.f2.length == 0 && decide (2 ≤ t.f3.length) && t.f1 == 0
    else if 11 ≤ t.f0 ∧ t.f0 ≤ 13 then t.f2.length == 0 && t.f3.length == 0 && decide (0 ≤ t.f1)
    else false) := rfl
  rw [hsh]
  have three : ∀ (p q : Bool), (∀ k, types_shape.j0 (k + 1) (t.f2.length : Int) (t.f3.length : Int) t.f1 t.f0 (decide (1 ≤ t.f0 ∧ t.f0 ≤ 6)) t.f0 t.f1 t.f2 t.f3 = if (t.f2.length : Int) = 0 then (if p = true then some q else some false) else some false) → Ev (fun k => types_shape.j0 k (t.f2.length : Int) (t.f3.length : Int) t.f1 t.f0 (decide (1 ≤ t.f0 ∧ t.f0 ≤ 6)) t.f0 t.f1 t.f2 t.f3) (t.f2.length == 0 && p && q) := fun p q h => by
    refine Ev.step (f := fun _ => some _) (fun k => ?_) (Ev.now _)
    rw [h k]
    by_cases e1 : t.f2.length = 0
    · rw [if_pos (by omega)]; cases p <;> simp [e1]
    · rw [if_neg (by omega)]; simp [e1]
  by_cases c6 : 1 ≤ t.f0 ∧ t.f0 ≤ 6
  · rw [if_pos c6]
    refine three (t.f3.length == 0) (t.f1 == 0) (fun k => ?_)
    rw [types_shape.j0, decide_eq_true c6, if_pos rfl]
    by_cases e : t.f3.length = 0
    · simp [e]
    · simp [e]
  have c6' := decide_eq_false c6
  rw [if_neg c6]
  by_cases c7 : t.f0 = 7
  · rw [if_pos c7]
    refine three (t.f3.length == 1) (t.f1 == 0) (fun k => ?_)
    rw [types_shape.j0, c6', if_neg (by simp), if_pos c7]
    by_cases e : t.f3.length = 1
    · simp [e]
    · have : ¬ (t.f3.length : Int) = 1 := by omega
      simp [e, this]
  rw [if_neg c7]
  by_cases c8 : t.f0 = 8
  · rw [if_pos c8]
    have hr := shape_l0 t (by omega) t.f2.length 0 (by omega)
    refine Ev.step (f := fun k => h0 t k ((0 + 1 : Nat) : Int)) (fun k => ?_) ?_
    · rw [types_shape.j0, c6', if_neg (by simp), if_neg c7, if_pos c8]
      rfl
    · rw [List.drop_zero] at hr
      have e : (risesB t.f2 && t.f3.length == t.f2.length && t.f1 == 0) = (risesB t.f2 && (decide (t.f3.length = t.f2.length) && t.f1 == 0)) := by
        rw [Bool.and_assoc]; rfl
      rw [e]; exact hr
  rw [if_neg c8]
  by_cases c9 : t.f0 = 9
  · rw [if_pos c9]
    refine three (decide (1 ≤ t.f3.length)) (t.f1 == 0) (fun k => ?_)
    rw [types_shape.j0, c6', if_neg (by simp), if_neg c7, if_neg c8, if_pos c9]
    by_cases e : 1 ≤ t.f3.length
    · have : (t.f3.length : Int) ≥ 1 := by omega
      simp only [decide_eq_true e, if_pos this]
      simp
    · have : ¬ (t.f3.length : Int) ≥ 1 := by omega
      simp only [decide_eq_false e, if_neg this]
      simp
  rw [if_neg c9]
  by_cases c10 : t.f0 = 10
  · rw [if_pos c10]
    have hr := shape_l1 t (by omega) t.f3.length 0 none (by omega) (fun _ => rfl) (fun q hq => by omega)
    refine Ev.step (f := fun k => h1 t k ((0 : Nat) : Int)) (fun k => ?_) ?_
    · rw [types_shape.j0, c6', if_neg (by simp), if_neg c7, if_neg c8, if_neg c9, if_pos c10]
      rfl
    · rw [List.drop_zero, ← parts_is] at hr
      unfold endE at hr
      have e : (partsOk t.f3 && t.f2.length == 0 && decide (2 ≤ t.f3.length) && t.f1 == 0) = (partsOk t.f3 && (decide (t.f2.length = 0) && (decide (2 ≤ t.f3.length) && t.f1 == 0))) := by
        rw [Bool.and_assoc, Bool.and_assoc]; rfl
      rw [e]; exact hr
  rw [if_neg c10]
  by_cases c13 : 11 ≤ t.f0 ∧ t.f0 ≤ 13
  · rw [if_pos c13]
    refine three (t.f3.length == 0) (decide (0 ≤ t.f1)) (fun k => ?_)
    rw [types_shape.j0, c6', if_neg (by simp), if_neg c7, if_neg c8, if_neg c9, if_neg c10]
    have c : t.f0 = 11 ∨ t.f0 = 12 ∨ t.f0 = 13 := by omega
    by_cases e : t.f3.length = 0
    · rcases c with c | c | c <;> simp [c, e]
    · rcases c with c | c | c <;> simp [c, e]
  · rw [if_neg c13]
    refine Ev.step (f := fun _ => some _) (fun k => ?_) (Ev.now _)
    rw [types_shape.j0, c6', if_neg (by simp), if_neg c7, if_neg c8, if_neg c9, if_neg c10, if_neg (by omega), if_neg (by omega), if_neg (by omega)]
end Go.Proofs.YtjcajpkgamolkaaDoor.Ty
namespace Go.Proofs.YtjcajpkgamolkaaDoor.Ty
open Go.RowKit Go.Proofs.YtjcajpkgamolkaaDoor.PTyp Go.Proofs.YtjcajpkgamolkaaDoorW.PrintWords Go.Proofs.YtjcajpkgamolkaaDoorW.PrintLast Go.Proofs.YtjcajpkgamolkaaDoorW.PrintMore
set_option linter.unusedVariables false
set_option linter.unusedSimpArgs false
theorem may_l (l : List Ty) (hw : wTs l ≤ 1099511627776) (IH : ∀ t ∈ l, Ev (fun k => types_may.f k t.f0 t.f1 t.f2 t.f3) (mayT t)) : ∀ (j i : Nat), i + j = l.length → Ev (fun k => types_may.l0 k l (l.length : Int) (i : Int)) (mayTs (l.drop i)) := by
  have hl := wTs_len l
  intro j
  induction j with
  | zero =>
    intro i hi
    rw [List.drop_eq_nil_of_le (by omega), mayTs_nil]
    exact Ev.step (f := fun _ => some _) (fun k => by rw [types_may.l0, if_neg (by omega)]) (Ev.now _)
  | succ j ih =>
    intro i hi
    have hlt : i < l.length := by omega
    rw [drop_at hlt, mayTs_cons]
    refine Ev.step (f := fun k => (types_may.f k l[i].f0 l[i].f1 l[i].f2 l[i].f3).bind fun b => if b = true then types_may.l0 k l (l.length : Int) ((i + 1 : Nat) : Int) else some false) (fun k => ?_) ?_
    · rw [types_may.l0, if_pos (by omega), if_pos (by omega), if_pos (by omega), rd_at hlt, wrap_id _ (by omega)]
      rfl
    · refine Ev.bind (f := fun k b => if b = true then types_may.l0 k l (l.length : Int) ((i + 1 : Nat) : Int) else some false) (IH _ (List.getElem_mem hlt)) ?_
      cases mayT l[i] with
      | true => exact Ev.congr (f := fun k => types_may.l0 k l (l.length : Int) ((i + 1 : Nat) : Int)) (fun k => if_pos rfl) (by simpa using ih (i + 1) (by omega))
      | false => exact Ev.congr (f := fun _ => some false) (fun k => if_neg (by simp)) (Ev.now _)
theorem may_ev (t : Ty) : wT t ≤ 1099511627776 → Ev (fun k => types_may.f k t.f0 t.f1 t.f2 t.f3) (mayT t) := by
  refine Ty.ind (p := fun t => wT t ≤ 1099511627776 → Ev (fun k => types_may.f k t.f0 t.f1 t.f2 t.f3) (mayT t)) ?_ t
  intro k n ns l ih hw
  have hw2 := hw
  rw [wT_mk] at hw2
  have hr := may_l l (by omega) (fun t ht => ih t ht (by have := wTs_mem ht; omega)) l.length 0 (by omega)
  rw [List.drop_zero] at hr
  refine Ev.step (f := fun q => (types_shape.f q k n ns l).bind fun b => if b = true then types_may.l0 q l (l.length : Int) 0 else some false) (fun q => by rw [types_may.f]) ?_
  refine Ev.bind (f := fun q b => if b = true then types_may.l0 q l (l.length : Int) 0 else some false) (shape_ev ⟨k, n, ns, l⟩ hw) ?_
  rw [mayT_mk]
  cases shapeT ⟨k, n, ns, l⟩ with
  | true => exact Ev.congr (f := fun q => types_may.l0 q l (l.length : Int) 0) (fun q => if_pos rfl) (by simpa using hr)
  | false => exact Ev.congr (f := fun _ => some false) (fun q => if_neg (by simp)) (Ev.now _)
theorem check_ev (t : Ty) (hw : wT t ≤ 1099511627776) : Ev (fun k => types_Check.f k t.f0 t.f1 t.f2 t.f3) (checkT t) := by
  unfold types_Check.f checkT
  refine Ev.bind (f := fun q b => if b = true then (types_Size.f q t.f0 t.f1 t.f2 t.f3).bind fun n => if n > 300 then some 3 else some 0 else some 1) (may_ev t hw) ?_
  cases mayT t with
  | false => exact Ev.congr (f := fun _ => some 1) (fun q => if_neg (by simp)) (Ev.now _)
  | true =>
    refine Ev.congr (f := fun q => (types_Size.f q t.f0 t.f1 t.f2 t.f3).bind fun n => if n > 300 then some 3 else some 0) (fun q => if_pos rfl) ?_
    refine Ev.bind (f := fun q n => if n > 300 then some 3 else some 0) (size_ev t hw) ?_
    by_cases h : 300 < sizeT t
    · simp only [if_pos h]
      rw [if_pos (by omega)]
      exact Ev.now _
    · simp only [if_neg h]
      rw [if_neg (by omega)]
      exact Ev.now _
end Go.Proofs.YtjcajpkgamolkaaDoor.Ty
