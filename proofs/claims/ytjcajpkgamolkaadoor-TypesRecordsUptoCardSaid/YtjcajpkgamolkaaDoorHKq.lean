/- HK, as this claim needs it. -/
import Derived.Test.YtjcajpkgamolkaaDoorHEq
import Derived.Test.YtjcajpkgamolkaaDoorPTypx6q
namespace Go.Proofs.YtjcajpkgamolkaaDoor.Ty
open Go.RowKit Go.Proofs.YtjcajpkgamolkaaDoor.PTyp Go.Proofs.YtjcajpkgamolkaaDoorW.PrintWords Go.Proofs.YtjcajpkgamolkaaDoorW.PrintLast Go.Proofs.YtjcajpkgamolkaaDoorW.PrintMore
set_option linter.unusedVariables false
set_option linter.unusedSimpArgs false
theorem order_is (a b : Int) : gussetref14_order.f a b = some (cmpI a b) := by unfold gussetref14_order.f cmpI; split <;> (try split) <;> simp_all
theorem rsize_l (t : Ty) (hw : wTs t.f3 ≤ 1099511627776) (IH : ∀ u ∈ t.f3, Ev (fun k => gussetref14_Size.f k u.f0 u.f1 u.f2 u.f3) (sizeT u : Int)) : ∀ (j i : Nat) (s : Int), i + j = t.f3.length → 0 ≤ s → s + sizeTs (t.f3.drop i) ≤ 1099511627777 → Ev (fun k => gussetref14_Size.l0 k s (i : Int) t.f0 t.f1 t.f2 t.f3) (s + sizeTs (t.f3.drop i)) := by
  intro j
  induction j with
  | zero =>
    intro i s hi h0 hs
    refine Ev.step (f := fun _ => some _) (fun k => ?_) (Ev.now _)
    rw [gussetref14_Size.l0, if_neg (by omega), List.drop_eq_nil_of_le (by omega), sizeTs_nil]
    simp
  | succ j ih =>
    intro i s hi h0 hs
    have hlt : i < t.f3.length := by omega
    rw [drop_at hlt, sizeTs_cons] at hs ⊢
    have e := ih (i + 1) (s + sizeT t.f3[i]) (by omega) (by omega) (by omega)
    have hl := wTs_len t.f3
    refine Ev.step (f := fun k => (gussetref14_Size.f k t.f3[i].f0 t.f3[i].f1 t.f3[i].f2 t.f3[i].f3).bind fun n => gussetref14_Size.l0 k (wrap64 (s + n)) (wrap64 ((i : Int) + 1)) t.f0 t.f1 t.f2 t.f3) (fun k => ?_) ?_
    · rw [gussetref14_Size.l0, if_pos (by omega), if_pos (by omega), rd_at hlt]
    · refine Ev.bind (f := fun k n => gussetref14_Size.l0 k (wrap64 (s + n)) (wrap64 ((i : Int) + 1)) t.f0 t.f1 t.f2 t.f3) (IH _ (List.getElem_mem hlt)) ?_
      rw [wrap_id _ (by omega), wrap_id _ (by omega)]
      rw [show s + ((sizeT t.f3[i] + sizeTs (t.f3.drop (i + 1)) : Nat) : Int) = s + (sizeT t.f3[i] : Int) + (sizeTs (t.f3.drop (i + 1)) : Int) by omega]
      exact e
theorem rsize_ev (t : Ty) : wT t ≤ 1099511627776 → Ev (fun k => gussetref14_Size.f k t.f0 t.f1 t.f2 t.f3) (sizeT t : Int) := by
  refine Ty.ind (p := fun t => wT t ≤ 1099511627776 → Ev (fun k => gussetref14_Size.f k t.f0 t.f1 t.f2 t.f3) (sizeT t : Int)) ?_ t
  intro k n ns l ih hw
  rw [wT_mk] at hw
  have hsz := sizes_le_w l
  have := rsize_l ⟨k, n, ns, l⟩ (by show wTs l ≤ _; omega) (fun t ht => ih t ht (by have := wTs_mem (l := l) ht; omega)) l.length 0 1 (by show 0 + l.length = l.length; omega) (by omega) (by rw [List.drop_zero]; show (1 : Int) + sizeTs l ≤ _; omega)
  rw [List.drop_zero] at this
  refine Ev.step (f := fun q => gussetref14_Size.l0 q 1 0 k n ns l) (fun q => by rw [gussetref14_Size.f]) ?_
  rw [sizeT_mk]
  simpa using this
section
variable (a b : Ty)
abbrev rl1 (k : Nat) (c i : Int) : Option Int := gussetref14_Compare.l1 k c i a.f0 a.f1 a.f2 a.f3 b.f0 b.f1 b.f2 b.f3
abbrev rj4 (k : Nat) (c : Int) : Option Int := gussetref14_Compare.j4 k c a.f0 a.f1 a.f2 a.f3 b.f0 b.f1 b.f2 b.f3
abbrev rj3 (k : Nat) (c i : Int) (h : Bool) : Option Int := gussetref14_Compare.j3 k c i h a.f0 a.f1 a.f2 a.f3 b.f0 b.f1 b.f2 b.f3
abbrev rl0 (k : Nat) (c i : Int) : Option Int := gussetref14_Compare.l0 k c i a.f0 a.f1 a.f2 a.f3 b.f0 b.f1 b.f2 b.f3
abbrev rj1 (k : Nat) (c : Int) : Option Int := gussetref14_Compare.j1 k c a.f0 a.f1 a.f2 a.f3 b.f0 b.f1 b.f2 b.f3
abbrev rj0 (k : Nat) (c : Int) : Option Int := gussetref14_Compare.j0 k c a.f0 a.f1 a.f2 a.f3 b.f0 b.f1 b.f2 b.f3
theorem rl1_ne {c : Int} (hc : c ≠ 0) (i : Int) : Ev (fun k => rl1 a b k c i) c := by
  refine Ev.step (f := fun _ => some c) (fun k => ?_) (Ev.now _)
  show gussetref14_Compare.l1 (k + 1) _ _ _ _ _ _ _ _ _ _ = _
  rw [gussetref14_Compare.l1, if_neg hc]
theorem rl1_ev (hl : a.f3.length = b.f3.length) (hs : a.f3.length ≤ 1099511627776) (IH : ∀ t ∈ a.f3, ∀ u ∈ b.f3, Ev (fun k => gussetref14_Compare.f k t.f0 t.f1 t.f2 t.f3 u.f0 u.f1 u.f2 u.f3) (cmpT t u)) : ∀ (j i : Nat), i + j = a.f3.length → Ev (fun k => rl1 a b k 0 i) (cmpTs (a.f3.drop i) (b.f3.drop i)) := by
  intro j
  induction j with
  | zero =>
    intro i hi
    rw [List.drop_eq_nil_of_le (by omega), List.drop_eq_nil_of_le (by omega)]
    have e0 : cmpTs [] [] = 0 := by simp [cmpTs]
    rw [e0]
    refine Ev.step (f := fun _ => some 0) (fun k => ?_) (Ev.now _)
    show gussetref14_Compare.l1 (k + 1) _ _ _ _ _ _ _ _ _ _ = _
    rw [gussetref14_Compare.l1, if_pos rfl, if_neg (by omega)]
  | succ j ih =>
    intro i hi
    have h1 : i < a.f3.length := by omega
    have h2 : i < b.f3.length := by omega
    rw [drop_at h1, drop_at h2, cmpTs]
    refine Ev.step (f := fun k => (gussetref14_Compare.f k a.f3[i].f0 a.f3[i].f1 a.f3[i].f2 a.f3[i].f3 b.f3[i].f0 b.f3[i].f1 b.f3[i].f2 b.f3[i].f3).bind fun t => rl1 a b k t ((i + 1 : Nat) : Int)) (fun k => ?_) ?_
    · show gussetref14_Compare.l1 (k + 1) _ _ _ _ _ _ _ _ _ _ = _
      rw [gussetref14_Compare.l1, if_pos rfl, if_pos (by omega), if_pos (by omega), if_pos (by omega), rd_at h1, rd_at h2, wrap_id _ (by omega)]
      rfl
    · refine Ev.bind (f := fun k t => rl1 a b k t ((i + 1 : Nat) : Int)) (IH _ (List.getElem_mem h1) _ (List.getElem_mem h2)) ?_
      by_cases hz : cmpT a.f3[i] b.f3[i] = 0
      · rw [hz, orI_0]; exact ih (i + 1) (by omega)
      · rw [orI_ne hz]; exact rl1_ne a b hz _
variable (hs : a.f3.length ≤ 1099511627776) (hn : a.f2.length ≤ 1099511627776) (IH : ∀ t ∈ a.f3, ∀ u ∈ b.f3, Ev (fun k => gussetref14_Compare.f k t.f0 t.f1 t.f2 t.f3 u.f0 u.f1 u.f2 u.f3) (cmpT t u))
include hs IH
theorem rj4_ev (c : Int) (hl : c = 0 → a.f3.length = b.f3.length) : Ev (fun k => rj4 a b k c) (orI c (cmpTs a.f3 b.f3)) := by
  refine Ev.step (f := fun k => rl1 a b k c ((0 : Nat) : Int)) (fun k => ?_) ?_
  · show gussetref14_Compare.j4 (k + 1) _ _ _ _ _ _ _ _ _ = _
    rw [gussetref14_Compare.j4]
    rfl
  · by_cases hz : c = 0
    · subst hz
      rw [orI_0]
      have := rl1_ev a b (hl rfl) hs IH a.f3.length 0 (by omega)
      rw [List.drop_zero, List.drop_zero] at this
      exact this
    · rw [orI_ne hz]; exact rl1_ne a b hz _
theorem rj3_ev (c i : Int) : Ev (fun k => rj3 a b k c i false) (orI c (orI (cmpI a.f3.length b.f3.length) (cmpTs a.f3 b.f3))) := by
  by_cases hz : c = 0
  · subst hz
    rw [orI_0]
    refine Ev.step (f := fun k => rj4 a b k (cmpI a.f3.length b.f3.length)) (fun k => ?_) (rj4_ev a b hs IH _ (fun h => len_eq h))
    show gussetref14_Compare.j3 (k + 1) _ _ _ _ _ _ _ _ _ _ _ = _
    rw [gussetref14_Compare.j3, if_neg (by simp), if_pos rfl, order_is, Option.bind_some]
  · rw [orI_ne hz]
    have := rj4_ev a b hs IH c (fun h => absurd h hz)
    rw [orI_ne hz] at this
    refine Ev.step (f := fun k => rj4 a b k c) (fun k => ?_) this
    show gussetref14_Compare.j3 (k + 1) _ _ _ _ _ _ _ _ _ _ _ = _
    rw [gussetref14_Compare.j3, if_neg (by simp), if_neg hz]
theorem rl0_ne {c : Int} (hc : c ≠ 0) (i : Int) : Ev (fun k => rl0 a b k c i) c := by
  have := rj3_ev a b hs IH c i
  rw [orI_ne hc] at this
  refine Ev.step (f := fun k => rj3 a b k c i false) (fun k => ?_) this
  show gussetref14_Compare.l0 (k + 1) _ _ _ _ _ _ _ _ _ _ = _
  rw [gussetref14_Compare.l0, if_neg hc]
include hn
theorem rl0_ev (hl : a.f2.length = b.f2.length) : ∀ (j i : Nat), i + j = a.f2.length → Ev (fun k => rl0 a b k 0 i) (orI (cmpBs (a.f2.drop i) (b.f2.drop i)) (orI (cmpI a.f3.length b.f3.length) (cmpTs a.f3 b.f3))) := by
  intro j
  induction j with
  | zero =>
    intro i hi
    rw [List.drop_eq_nil_of_le (by omega), List.drop_eq_nil_of_le (by omega)]
    have e0 : cmpBs [] [] = 0 := by simp [cmpBs]
    rw [e0]
    refine Ev.step (f := fun k => rj3 a b k 0 i false) (fun k => ?_) (rj3_ev a b hs IH 0 i)
    show gussetref14_Compare.l0 (k + 1) _ _ _ _ _ _ _ _ _ _ = _
    rw [gussetref14_Compare.l0, if_pos rfl, decide_eq_false (by omega)]
  | succ j ih =>
    intro i hi
    have h1 : i < a.f2.length := by omega
    have h2 : i < b.f2.length := by omega
    rw [drop_at h1, drop_at h2, cmpBs]
    have e : ∀ k, rj3 a b (k + 1) 0 i true = rl0 a b k (cmpB a.f2[i] b.f2[i]) ((i + 1 : Nat) : Int) := fun k => by
      show gussetref14_Compare.j3 (k + 1) _ _ _ _ _ _ _ _ _ _ _ = _
      rw [gussetref14_Compare.j3, if_pos rfl, if_pos (by omega), if_pos (by omega), if_pos (by omega), rdB_at h1, rdB_at h2, wrap_id _ (by omega), Go.Proofs.bytesLess_eq, Go.Proofs.bytesLess_eq]
      unfold cmpB
      by_cases c1 : a.f2[i].toList < b.f2[i].toList
      · rw [if_pos (decide_eq_true c1), if_pos c1]; rfl
      · rw [if_neg (by simpa using c1), if_neg c1]
        by_cases c2 : b.f2[i].toList < a.f2[i].toList
        · rw [if_pos (decide_eq_true c2), if_pos c2]; rfl
        · rw [if_neg (by simpa using c2), if_neg c2]; rfl
    refine Ev.step (f := fun k => rj3 a b k 0 i true) (fun k => ?_) (Ev.step e ?_)
    · show gussetref14_Compare.l0 (k + 1) _ _ _ _ _ _ _ _ _ _ = _
      rw [gussetref14_Compare.l0, if_pos rfl, decide_eq_true (by omega)]
    · by_cases hz : cmpB a.f2[i] b.f2[i] = 0
      · rw [hz, orI_0]; exact ih (i + 1) (by omega)
      · rw [orI_ne hz, orI_ne hz]; exact rl0_ne a b hs IH hz _
theorem rj1_ev (c : Int) (hl : c = 0 → a.f2.length = b.f2.length) : Ev (fun k => rj1 a b k c) (orI c (orI (cmpBs a.f2 b.f2) (orI (cmpI a.f3.length b.f3.length) (cmpTs a.f3 b.f3)))) := by
  refine Ev.step (f := fun k => rl0 a b k c ((0 : Nat) : Int)) (fun k => ?_) ?_
  · show gussetref14_Compare.j1 (k + 1) _ _ _ _ _ _ _ _ _ = _
    rw [gussetref14_Compare.j1]
    rfl
  · by_cases hz : c = 0
    · subst hz
      rw [orI_0]
      have := rl0_ev a b hs hn IH (hl rfl) a.f2.length 0 (by omega)
      rw [List.drop_zero, List.drop_zero] at this
      exact this
    · rw [orI_ne hz]; exact rl0_ne a b hs IH hz _
theorem rj0_ev (c : Int) : Ev (fun k => rj0 a b k c) (orI c (orI (cmpI a.f2.length b.f2.length) (orI (cmpBs a.f2 b.f2) (orI (cmpI a.f3.length b.f3.length) (cmpTs a.f3 b.f3))))) := by
  by_cases hz : c = 0
  · subst hz
    rw [orI_0]
    refine Ev.step (f := fun k => rj1 a b k (cmpI a.f2.length b.f2.length)) (fun k => ?_) (rj1_ev a b hs hn IH _ (fun h => len_eq h))
    show gussetref14_Compare.j0 (k + 1) _ _ _ _ _ _ _ _ _ = _
    rw [gussetref14_Compare.j0, if_pos rfl, order_is, Option.bind_some]
  · rw [orI_ne hz]
    have := rj1_ev a b hs hn IH c (fun h => absurd h hz)
    rw [orI_ne hz] at this
    refine Ev.step (f := fun k => rj1 a b k c) (fun k => ?_) this
    show gussetref14_Compare.j0 (k + 1) _ _ _ _ _ _ _ _ _ = _
    rw [gussetref14_Compare.j0, if_neg hz]
end
theorem rcmp_ev (a : Ty) : ∀ b : Ty, wT a ≤ 1099511627776 → wT b ≤ 1099511627776 → Ev (fun k => gussetref14_Compare.f k a.f0 a.f1 a.f2 a.f3 b.f0 b.f1 b.f2 b.f3) (cmpT a b) := by
  refine Ty.ind (p := fun a => ∀ b : Ty, wT a ≤ 1099511627776 → wT b ≤ 1099511627776 → Ev (fun k => gussetref14_Compare.f k a.f0 a.f1 a.f2 a.f3 b.f0 b.f1 b.f2 b.f3) (cmpT a b)) ?_ a
  intro k n ns l ih b hwa hwb
  obtain ⟨k', n', ns', l'⟩ := b
  rw [wT_mk] at hwa hwb
  have hla := wTs_len l
  rw [cmpT_mk]
  have T := rj0_ev ⟨k, n, ns, l⟩ ⟨k', n', ns', l'⟩ (by show l.length ≤ _; omega) (by show ns.length ≤ _; omega) (fun t ht u hu => ih t ht u (by have := wTs_mem (l := l) ht; omega) (by have := wTs_mem (l := l') hu; omega))
  by_cases hz : cmpI k k' = 0
  · rw [hz, orI_0]
    refine Ev.step (f := fun q => rj0 ⟨k, n, ns, l⟩ ⟨k', n', ns', l'⟩ q (cmpI n n')) (fun q => ?_) (T _)
    show gussetref14_Compare.f (q + 1) k n ns l k' n' ns' l' = _
    rw [gussetref14_Compare.f, order_is, Option.bind_some, if_pos hz, order_is, Option.bind_some]
  · have := T (cmpI k k')
    rw [orI_ne hz] at this ⊢
    refine Ev.step (f := fun q => rj0 ⟨k, n, ns, l⟩ ⟨k', n', ns', l'⟩ q (cmpI k k')) (fun q => ?_) this
    show gussetref14_Compare.f (q + 1) k n ns l k' n' ns' l' = _
    rw [gussetref14_Compare.f, order_is, Option.bind_some, if_neg hz]
end Go.Proofs.YtjcajpkgamolkaaDoor.Ty
