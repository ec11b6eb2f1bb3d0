/- PTApart, as this claim needs it. -/
import Derived.Test.YtjcajpkgamolkaaDoorPTypx24q
import Derived.Test.YtjcajpkgamolkaaDoorHYq
import Derived.Test.YtjcajpkgamolkaaDoorHDq
namespace Go.Proofs.YtjcajpkgamolkaaDoor.Ty
open Go.RowKit Go.Proofs.YtjcajpkgamolkaaDoor.PTyp Go.Proofs.YtjcajpkgamolkaaDoorW.PrintWords Go.Proofs.YtjcajpkgamolkaaDoorW.PrintLast Go.Proofs.YtjcajpkgamolkaaDoorW.PrintMore
set_option linter.unusedVariables false
set_option linter.unusedSimpArgs false
theorem showA_no {a : Ty} (h : mayT a = false) : (showA a).toList = [63] := by
  unfold showA
  rw [h, if_neg (by simp), Lib.toList_data]
def nameOk (n : ByteArray) : Bool := !n.data.toList.isEmpty && n.data.toList.all isLow
theorem plainT_is (t : Ty) : plainT t = (t.f2.all nameOk && plainTs t.f3) := by cases t; rw [plainT]; rfl
theorem plainTs_nil : plainTs [] = true := by rw [plainTs]
theorem plainTs_cons (t : Ty) (r : List Ty) : plainTs (t :: r) = (plainT t && plainTs r) := by rw [plainTs]
section
variable (t : Ty)
abbrev p0 (k : Nat) (i : Int) : Option Bool := gussetlaw14_plain.l0 k i t.f0 t.f1 t.f2 t.f3
abbrev p1 (k : Nat) (i j : Int) : Option Bool := gussetlaw14_plain.l1 k i j t.f0 t.f1 t.f2 t.f3
abbrev p2 (k : Nat) (i : Int) : Option Bool := gussetlaw14_plain.l2 k i t.f0 t.f1 t.f2 t.f3
theorem plain_l1 (hs : t.f2.length ≤ 1099511627776) {i : Nat} (hi : i < t.f2.length) (hz : t.f2[i].size ≤ 1099511627776) (R : Bool) (hR : Ev (fun k => p0 t k ((i + 1 : Nat) : Int)) R) : ∀ (j q : Nat), q + j = t.f2[i].data.toList.length → Ev (fun k => p1 t k (i : Int) (q : Int)) ((t.f2[i].data.toList.drop q).all isLow && R) := by
  have hlen : t.f2[i].data.toList.length = t.f2[i].size := rfl
  intro j
  induction j with
  | zero =>
    intro q hq
    rw [List.drop_eq_nil_of_le (by omega)]
    refine Ev.step (f := fun k => p0 t k ((i + 1 : Nat) : Int)) (fun k => ?_) (by simpa using hR)
    show gussetlaw14_plain.l1 (k + 1) _ _ _ _ _ _ = _
    rw [gussetlaw14_plain.l1, if_pos (by omega), if_pos (by omega), rdB_at hi, if_neg (by omega), wrap_id _ (by omega)]
    rfl
  | succ j ih =>
    intro q hq
    have hlt : q < t.f2[i].data.toList.length := by omega
    rw [drop_at hlt, List.all_cons]
    have hb : bt t.f2[i] (q : Int) = (t.f2[i].data.toList[q].toNat : Int) := by
      have := bt_at t.f2[i] q (by omega)
      rw [← this]
      rfl
    by_cases c1 : t.f2[i].data.toList[q].toNat < 97
    · have hf : isLow t.f2[i].data.toList[q] = false := by unfold isLow; rw [decide_eq_false (by omega)]
      rw [hf]
      refine Ev.step (f := fun _ => some false) (fun k => ?_) (by simpa using Ev.now false)
      show gussetlaw14_plain.l1 (k + 1) _ _ _ _ _ _ = _
      rw [gussetlaw14_plain.l1, if_pos (by omega), if_pos (by omega), rdB_at hi, if_pos (by omega), if_pos (by omega), hb, if_pos (by omega)]
    by_cases c2 : t.f2[i].data.toList[q].toNat > 122
    · have hf : isLow t.f2[i].data.toList[q] = false := by unfold isLow; rw [decide_eq_false (by omega)]
      rw [hf]
      refine Ev.step (f := fun _ => some false) (fun k => ?_) (by simpa using Ev.now false)
      show gussetlaw14_plain.l1 (k + 1) _ _ _ _ _ _ = _
      rw [gussetlaw14_plain.l1, if_pos (by omega), if_pos (by omega), rdB_at hi, if_pos (by omega), if_pos (by omega), hb, if_neg (by omega), if_pos (by omega)]
    · have hf : isLow t.f2[i].data.toList[q] = true := by unfold isLow; rw [decide_eq_true (by omega)]
      rw [hf, Bool.true_and]
      refine Ev.step (f := fun k => p1 t k (i : Int) ((q + 1 : Nat) : Int)) (fun k => ?_) (ih (q + 1) (by omega))
      show gussetlaw14_plain.l1 (k + 1) _ _ _ _ _ _ = _
      rw [gussetlaw14_plain.l1, if_pos (by omega), if_pos (by omega), rdB_at hi, if_pos (by omega), if_pos (by omega), hb, if_neg (by omega), if_neg (by omega), wrap_id _ (by omega)]
      rfl
theorem plain_l0 (hs : t.f2.length ≤ 1099511627776) (hz : ∀ n ∈ t.f2, n.size ≤ 1099511627776) (R : Bool) (hR : Ev (fun k => p2 t k 0) R) : ∀ (j i : Nat), i + j = t.f2.length → Ev (fun k => p0 t k (i : Int)) ((t.f2.drop i).all nameOk && R) := by
  intro j
  induction j with
  | zero =>
    intro i hi
    rw [List.drop_eq_nil_of_le (by omega)]
    refine Ev.step (f := fun k => p2 t k 0) (fun k => ?_) (by simpa using hR)
    show gussetlaw14_plain.l0 (k + 1) _ _ _ _ _ = _
    rw [gussetlaw14_plain.l0, if_neg (by omega)]
  | succ j ih =>
    intro i hi
    have hlt : i < t.f2.length := by omega
    rw [drop_at hlt, List.all_cons, Bool.and_assoc]
    by_cases he : t.f2[i].toList = []
    · have hf : nameOk t.f2[i] = false := by
        unfold nameOk
        rw [Lib.toList_data] at he
        rw [he]; rfl
      rw [hf, Bool.false_and]
      refine Ev.step (f := fun _ => some false) (fun k => ?_) (Ev.now false)
      show gussetlaw14_plain.l0 (k + 1) _ _ _ _ _ = _
      rw [gussetlaw14_plain.l0, if_pos (by omega), if_pos (by omega), rdB_at hlt, if_pos he]
    · have h1 := plain_l1 t hs hlt (hz _ (List.getElem_mem hlt)) _ (ih (i + 1) (by omega)) t.f2[i].data.toList.length 0 (by omega)
      have hf : nameOk t.f2[i] = t.f2[i].data.toList.all isLow := by
        unfold nameOk
        rw [Lib.toList_data] at he
        cases hh : t.f2[i].data.toList with
        | nil => exact absurd hh he
        | cons a r => rfl
      rw [List.drop_zero] at h1
      rw [hf]
      refine Ev.step (f := fun k => p1 t k (i : Int) ((0 : Nat) : Int)) (fun k => ?_) h1
      show gussetlaw14_plain.l0 (k + 1) _ _ _ _ _ = _
      rw [gussetlaw14_plain.l0, if_pos (by omega), if_pos (by omega), rdB_at hlt, if_neg he]
      rfl
end
theorem plain_ev (t : Ty) : zT t ≤ 1099511627776 → Ev (fun k => gussetlaw14_plain.f k t.f0 t.f1 t.f2 t.f3) (plainT t) := by
  refine Ty.ind (p := fun t => zT t ≤ 1099511627776 → Ev (fun k => gussetlaw14_plain.f k t.f0 t.f1 t.f2 t.f3) (plainT t)) ?_ t
  intro kk n ns l ih hz
  rw [zT_is] at hz
  have hz' : 48 + sumB ns + zTs l ≤ 1099511627776 := hz
  have hl := zTs_len l
  have hn := sumB_len ns
  have h2 : ∀ (j i : Nat), i + j = l.length → Ev (fun k => p2 ⟨kk, n, ns, l⟩ k (i : Int)) (plainTs (l.drop i)) := by
    intro j
    induction j with
    | zero =>
      intro i hi
      rw [List.drop_eq_nil_of_le (by omega), plainTs_nil]
      refine Ev.step (f := fun _ => some true) (fun k => ?_) (Ev.now true)
      show gussetlaw14_plain.l2 (k + 1) _ kk n ns l = _
      rw [gussetlaw14_plain.l2, if_neg (by omega)]
    | succ j ih2 =>
      intro i hi
      have hlt : i < l.length := by omega
      rw [drop_at hlt, plainTs_cons]
      refine Ev.step (f := fun k => (gussetlaw14_plain.f k l[i].f0 l[i].f1 l[i].f2 l[i].f3).bind fun b => if b = true then p2 ⟨kk, n, ns, l⟩ k ((i + 1 : Nat) : Int) else some false) (fun k => ?_) ?_
      · show gussetlaw14_plain.l2 (k + 1) _ kk n ns l = _
        rw [gussetlaw14_plain.l2, if_pos (by omega), if_pos (by omega), rd_at hlt, wrap_id _ (by omega)]
        rfl
      · refine Ev.bind (f := fun k b => if b = true then p2 ⟨kk, n, ns, l⟩ k ((i + 1 : Nat) : Int) else some false) (ih _ (List.getElem_mem hlt) (by have := zTs_mem (List.getElem_mem hlt); omega)) ?_
        cases hm : plainT l[i] with
        | true =>
          simp only [if_true, Bool.true_and]
          exact ih2 (i + 1) (by omega)
        | false =>
          simp only [Bool.false_eq_true, if_false, Bool.false_and]
          exact Ev.now false
  have h2' := h2 l.length 0 (by omega)
  rw [List.drop_zero] at h2'
  have h0 := plain_l0 ⟨kk, n, ns, l⟩ (show ns.length ≤ 1099511627776 by omega) (fun x hx => by have := sumB_mem (l := ns) hx; omega) _ h2' ns.length 0 (by show 0 + ns.length = ns.length; omega)
  rw [plainT_is]
  refine Ev.step (f := fun k => p0 ⟨kk, n, ns, l⟩ k ((0 : Nat) : Int)) (fun k => ?_) h0
  show gussetlaw14_plain.f (k + 1) kk n ns l = _
  rw [gussetlaw14_plain.f]; rfl
theorem apart_true (a b : Ty) (ga : rngT a = true) (ha : zT a ≤ 1099511627776) : Ev (fun k => gussetlaw14_TypesApart.j0 k true a.f0 a.f1 a.f2 a.f3 b.f0 b.f1 b.f2 b.f3) true := by
  have wa : wT a ≤ 1099511627776 := by have := wT8_le_z a; omega
  refine Ev.step (f := fun k => (types_Check.f k a.f0 a.f1 a.f2 a.f3).bind fun t458 => (if t458 = 1 then ((types_Show.f k a.f0 a.f1 a.f2 a.f3).bind fun t459 => (if t459.toList = ([63] : List UInt8) then ((gussetlaw14_sure.f).bind fun t460 => (some t460)) else (some false))) else ((gussetlaw14_sure.f).bind fun t461 => (some t461)))) (fun k => by rw [gussetlaw14_TypesApart.j0, if_pos rfl]) ?_
  refine Ev.bind (f := fun k _ => _) (check_ev a wa) ?_
  by_cases hc : checkT a = 1
  · have hm : mayT a = false := by
      unfold checkT at hc
      by_cases h : mayT a = false
      · exact h
      · rw [if_neg h] at hc
        split at hc <;> cases hc
    simp only [if_pos hc]
    refine Ev.bind (f := fun k _ => _) (show_ev a ga (by omega)) ?_
    have e := showA_no hm
    simp only [if_pos e]
    exact Ev.now true
  · simp only [if_neg hc]
    exact Ev.now true
theorem apart_false (a b : Ty) (ga : rngT a = true) (gb : rngT b = true) (ha : zT a ≤ 1099511627776) (hb : zT b ≤ 1099511627776) (ma : mayT a = true) (mb : mayT b = true) (pa : plainT a = true) (pb : plainT b = true) : Ev (fun k => gussetlaw14_TypesApart.j0 k false a.f0 a.f1 a.f2 a.f3 b.f0 b.f1 b.f2 b.f3) true := by
  have wa : wT a ≤ 1099511627776 := by have := wT8_le_z a; omega
  have wb : wT b ≤ 1099511627776 := by have := wT8_le_z b; omega
  refine Ev.step (f := fun k => (types_Show.f k a.f0 a.f1 a.f2 a.f3).bind fun t462 => ((types_Show.f k b.f0 b.f1 b.f2 b.f3).bind fun t463 => ((types_Compare.f k a.f0 a.f1 a.f2 a.f3 b.f0 b.f1 b.f2 b.f3).bind fun t464 => (if ((t462.toList == t463.toList) == (t464 == 0)) = true then ((gussetlaw14_sure.f).bind fun t465 => (some t465)) else (some false))))) (fun k => by rw [gussetlaw14_TypesApart.j0, if_neg (by simp)]) ?_
  refine Ev.bind (f := fun k _ => _) (show_ev a ga (by omega)) ?_
  refine Ev.bind (f := fun k _ => _) (show_ev b gb (by omega)) ?_
  refine Ev.bind (f := fun k _ => _) (cmp_ev a b wa wb) ?_
  have e : (((showA a).toList == (showA b).toList) == (cmpT a b == 0)) = true := by
    have ea : showA a = showT a := if_pos ma
    have eb : showA b = showT b := if_pos mb
    rw [ea, eb]
    by_cases h : a = b
    · subst h; rw [cmpT_self]; simp
    · have h1 : ¬ (showT a).toList = (showT b).toList := fun q => h ((show_apart ma mb pa pb).1 (toList_inj q))
      have h2 : ¬ cmpT a b = 0 := fun q => h (cmpT_eq q)
      rw [beq_eq_false_iff_ne.2 h1, beq_eq_false_iff_ne.2 h2]; rfl
  simp only [if_pos e]
  exact Ev.now true
theorem may_of {a : Ty} (h : ¬ (showA a).toList = ([63] : List UInt8)) : mayT a = true := by
  cases hm : mayT a with
  | true => rfl
  | false => exact absurd (showA_no hm) h
theorem apart_pure (a b : Ty) (ga : rngT a = true) (gb : rngT b = true) (ha : zT a ≤ 1099511627776) (hb : zT b ≤ 1099511627776) : ∃ k, gussetlaw14_TypesApart.f k a.f0 a.f1 a.f2 a.f3 b.f0 b.f1 b.f2 b.f3 = some true := by
  refine Ev.rounds (g := fun k => gussetlaw14_TypesApart.f k a.f0 a.f1 a.f2 a.f3 b.f0 b.f1 b.f2 b.f3) ?_
  unfold gussetlaw14_TypesApart.f
  refine Ev.bind (f := fun k _ => _) (show_ev a ga (by omega)) ?_
  by_cases h1 : (showA a).toList = ([63] : List UInt8)
  · simp only [if_pos h1]; exact apart_true a b ga ha
  simp only [if_neg h1]
  refine Ev.bind (f := fun k _ => _) (show_ev b gb (by omega)) ?_
  by_cases h2 : (showA b).toList = ([63] : List UInt8)
  · simp only [if_pos h2]; exact apart_true a b ga ha
  simp only [if_neg h2]
  refine Ev.bind (f := fun k _ => _) (plain_ev a ha) ?_
  cases pa : plainT a with
  | false => simp only [Bool.false_eq_true, if_false]; exact apart_true a b ga ha
  | true =>
    simp only [if_true]
    refine Ev.bind (f := fun k _ => _) (plain_ev b hb) ?_
    cases pb : plainT b with
    | false => exact apart_true a b ga ha
    | true => exact apart_false a b ga gb ha hb (may_of h1) (may_of h2) pa pb
end Go.Proofs.YtjcajpkgamolkaaDoor.Ty
