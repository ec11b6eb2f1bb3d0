/- HE, as this claim needs it. -/
import Derived.Test.YtdheakalfleleaaDoorHDq
import Derived.Test.YtdheakalfleleaaDoorHCq
namespace Go.Proofs.YtdheakalfleleaaDoor.Val
open Go.RowKit Go.Proofs.YtdheakalfleleaaDoor.POper Go.Proofs.YtdheakalfleleaaDoorW.PrintWords Go.Proofs.YtdheakalfleleaaDoorW.PrintLast Go.Proofs.YtdheakalfleleaaDoorW.PrintMore
set_option linter.unusedVariables false
set_option linter.unusedSimpArgs false
def GrowB (O : Nat → Prop) (w w' : World) : Nat → Prop := fun k => (O k ∧ k < w.heap.size) ∨ (w.heap.size < k ∧ k < w'.heap.size)
section
variable {w : World} {O : Nat → Prop} {p : Nat} {v : Value} {xs : List Tg} {Os : Nat → Nat → Prop} {D : List Th}
theorem GPw.more (h : GPw w O p v xs Os D) {W : World} {v1 : Value} {x : Tg} {t : Th} {Q : Nat → Prop} (hc : Chg (fun k => k = p ∨ some k = v.ownBlock) w W) (hhdr : W.heap[p]? = some (.cells #[v1] 69 (0, 0)))
    (hrow : kTg.R 98 W 0 (fun k => (O k ∧ k < w.heap.size) ∨ w.heap.size < k) v1 (xs ++ [x])) (ht : PG W Q x t) (hQ : ∀ k, Q k → w.heap.size < k ∧ k < W.heap.size ∧ some k ≠ v1.ownBlock) (hat : v1.ownBlock = v.ownBlock ∨ ∃ b, v1.ownBlock = some b ∧ w.heap.size ≤ b) :
    GPw W (GrowB O w W) p v1 (xs ++ [x]) (fun i k => if i = D.length then Q k else Os i k) (D ++ [t]) where
  hdr := hhdr
  po := Or.inl ⟨h.po, h.plt⟩
  row := Kd.R_mono (Kd.R_bound hrow) (fun k hk => by
    rcases hk.1 with h1 | h1
    · exact Or.inl h1
    · exact Or.inr ⟨h1, hk.2.2.1⟩)
  len := by simp [h.len]
  th := by
    intro i t' hi
    by_cases e : i = D.length
    · subst e
      rw [List.getElem?_append_right (Nat.le_refl _), Nat.sub_self] at hi
      injection hi with hi
      subst hi
      simp only [if_true]
      rw [List.getD_eq_getElem?_getD, List.getElem?_append_right (by rw [h.len]; exact Nat.le_refl _), h.len, Nat.sub_self]
      exact ht
    · have hlt : i < D.length := by
        have := (List.getElem?_eq_some_iff.1 hi).1
        simp at this
        omega
      rw [List.getElem?_append_left hlt] at hi
      simp only [if_neg e]
      rw [List.getD_eq_getElem?_getD, List.getElem?_append_left (by rw [h.len]; exact hlt), ← List.getD_eq_getElem?_getD]
      refine (h.th i t' hi).step (fun k hk hlt => hc.block k hlt (fun hq => ?_))
      rcases hq with rfl | hq
      · exact h.nop i hk
      · exact h.nor i k hq.symm hk
  sub := by
    intro i k hk
    by_cases e : i = D.length
    · simp only [if_pos e] at hk
      have := hQ k hk
      exact ⟨Or.inr ⟨this.1, this.2.1⟩, this.2.1⟩
    · simp only [if_neg e] at hk
      exact ⟨Or.inl (h.sub i k hk), Nat.lt_of_lt_of_le (h.sub i k hk).2 hc.size⟩
  dis := by
    intro i j k hij h1 h2
    by_cases e : i = D.length
    · simp only [if_pos e] at h1
      simp only [if_neg (show ¬ j = D.length from fun e2 => hij (e.trans e2.symm))] at h2
      have := (hQ k h1).1
      have := (h.sub j k h2).2
      omega
    · simp only [if_neg e] at h1
      by_cases e2 : j = D.length
      · simp only [if_pos e2] at h2
        have := (hQ k h2).1
        have := (h.sub i k h1).2
        omega
      · simp only [if_neg e2] at h2
        exact h.dis i j k hij h1 h2
  nop := by
    intro i hk
    by_cases e : i = D.length
    · simp only [if_pos e] at hk
      have := (hQ p hk).1
      have := h.plt
      omega
    · simp only [if_neg e] at hk
      exact h.nop i hk
  nor := by
    intro i k hv hk
    by_cases e : i = D.length
    · simp only [if_pos e] at hk
      exact (hQ k hk).2.2 hv.symm
    · simp only [if_neg e] at hk
      have := (h.sub i k hk).2
      rcases hat with hat | ⟨b, hb, hle⟩
      · rw [hat] at hv
        exact h.nor i k hv hk
      · rw [hv] at hb; injection hb with hb; omega
theorem gstore_box {W : World} {u0 u1 u2 : Value} {D' : List Th} (hp : GP W (GrowB O w W) p D') (hc : Chg O w W) :
    GP (((W.setCell ⟨w.heap.size, 0, none⟩ u0).setCell ⟨w.heap.size, 1, none⟩ u1).setCell ⟨w.heap.size, 2, none⟩ u2) (Grow O w (((W.setCell ⟨w.heap.size, 0, none⟩ u0).setCell ⟨w.heap.size, 1, none⟩ u1).setCell ⟨w.heap.size, 2, none⟩ u2)) p D' ∧ Chg O w (((W.setCell ⟨w.heap.size, 0, none⟩ u0).setCell ⟨w.heap.size, 1, none⟩ u1).setCell ⟨w.heap.size, 2, none⟩ u2) := by
  have c3 : Chg (fun k => k = w.heap.size) W (((W.setCell ⟨w.heap.size, 0, none⟩ u0).setCell ⟨w.heap.size, 1, none⟩ u1).setCell ⟨w.heap.size, 2, none⟩ u2) :=
    (((Chg.setCell (O := fun k => k = w.heap.size) W ⟨w.heap.size, 0, none⟩ u0 rfl).trans (Chg.setCell (O := fun k => k = w.heap.size) _ ⟨w.heap.size, 1, none⟩ u1 rfl)).trans (Chg.setCell (O := fun k => k = w.heap.size) _ ⟨w.heap.size, 2, none⟩ u2 rfl)).mono (fun k _ hq => by
      rcases hq with (hq | hq) | hq
      · exact hq
      · exact hq.1
      · exact hq.1)
  have hs := c3.size
  refine ⟨(hp.keep c3 (fun k hk _ e => ?_)).mono (fun k hk _ => ?_), (hc.trans c3).mono (fun k hlt hq => ?_)⟩
  · rcases hk with h1 | h1
    · omega
    · omega
  · rcases hk with h1 | h1
    · exact Or.inl h1
    · exact Or.inr ⟨by omega, by omega⟩
  · rcases hq with hq | hq
    · exact hq
    · omega
end
end Go.Proofs.YtdheakalfleleaaDoor.Val
namespace Go.Proofs.YtdheakalfleleaaDoor.Val
open Go.RowKit Go.Proofs.YtdheakalfleleaaDoor.POper Go.Proofs.YtdheakalfleleaaDoorW.PrintWords Go.Proofs.YtdheakalfleleaaDoorW.PrintLast Go.Proofs.YtdheakalfleleaaDoorW.PrintMore
set_option linter.unusedVariables false
set_option linter.unusedSimpArgs false
section
variable {w : World} {O : Nat → Prop} {p : Nat} {v : Value} {xs : List Tg} {Os : Nat → Nat → Prop} {D : List Th}
set_option maxHeartbeats 4000000 in
set_option maxRecDepth 100000 in
theorem gmkarr_calls (h : GP w O p D) {A : Option Addr} {c : Nat} {l : List S23} (hC : k23.C w A l.length l) (hmax : l.length < 1000000000000) (hlen : D.length < 1000000000000) :
    Calls Tryd.prog 41 #[.pointer (some ⟨p, 0, none⟩), .slice A l.length c] w fun e w' => e = .returned (enc ⟨5, D.length, ⟨#[]⟩⟩) ∧ GP w' (Grow O w w') p (D ++ [.arr l]) ∧ Chg O w w' := by
  obtain ⟨v, xs, Os, h⟩ := h
  have HP0 := Aside0.mk h
  have hk := h.keep (Q := No) (Chg.alloc No w (.cells #[.int .i64 0, .int .i64 0, .string ⟨#[]⟩] 23)) (fun _ _ _ hn => hn)
  obtain ⟨Ar, cr, ev, hCr, g0⟩ := hk.head
  have HC := Aside0.mk (Kd.C_drew (Kd.C_alloc hC (.cells #[.int .i64 0, .int .i64 0, .string ⟨#[]⟩] 23)))
  have BZ := Aside0.mk (heap_alloc_new w (.cells #[.int .i64 0, .int .i64 0, .string ⟨#[]⟩] 23))
  have EV := Aside0.mk ev
  have hxl : xs.length < 1000000000000 := by rw [h.len]; exact hlen
  have hpne : w.heap.size ≠ p := by have := h.plt; omega
  clear h hk hC ev hCr hlen
  go_enter Tryd.func41, Tryd.ntmps41
  go_wp2
  refine start_ (n := 13) (S := fun w' => w'.cell? ⟨p, 0, none⟩ = some (.slice Ar xs.length cr)) (ds := [12]) #[false, false, false, false, false, false, false, false, false, false, false, false, false] (by kernel_rfl) rfl rfl g0 (fun hHeld => ?_)
  refine pure_ (i := 0) (N := some 5) (v := ?_) (a' := ?_) #[true, false, false, false, false, false, false, false, false, false, false, false, false] rfl rfl (by kernel_rfl) (fun _ _ _ h => h) (Or.inl ⟨by rfl, ?_⟩) ?_ ?_
  rotate_left
  · intro w'
    go_simp
    with_reducible rfl
  rotate_left
  · simp only [Act.put, List.setIfInBounds_toArray, List.set_cons_zero, List.set_cons_succ, i64_w, i32_w]
    rfl
  refine pure_ (i := 1) (N := some 6) (v := ?_) (a' := ?_) #[true, true, false, false, false, false, false, false, false, false, false, false, false] rfl rfl (by kernel_rfl) (fun _ _ _ h => h) (Or.inl ⟨by rfl, ?_⟩) ?_ ?_
  rotate_left
  · intro w'
    go_simp
    with_reducible rfl
  rotate_left
  · simp only [Act.put, List.setIfInBounds_toArray, List.set_cons_zero, List.set_cons_succ, i64_w, i32_w]
    rfl
  refine pure_ (i := 2) (N := some 7) (v := ?_) (a' := ?_) #[true, true, true, false, false, false, false, false, false, false, false, false, false] rfl rfl (by kernel_rfl) (fun _ _ _ h => h) (Or.inl ⟨by rfl, ?_⟩) ?_ ?_
  rotate_left
  · intro w'
    go_simp
    with_reducible rfl
  rotate_left
  · simp only [Act.put, List.setIfInBounds_toArray, List.set_cons_zero, List.set_cons_succ, i64_w, i32_w]
    rfl
  refine pure_ (i := 3) (N := some 8) (v := ?_) (a' := ?_) #[true, true, true, true, false, false, false, false, false, false, false, false, false] rfl rfl (by kernel_rfl) (fun _ _ _ h => h) (Or.inl ⟨by rfl, ?_⟩) ?_ ?_
  rotate_left
  · intro w'
    go_simp
    with_reducible rfl
  rotate_left
  · simp only [Act.put, List.setIfInBounds_toArray, List.set_cons_zero, List.set_cons_succ, i64_w, i32_w]
    rfl
  refine pure_ (i := 5) (N := some 10) (v := ?_) (a' := ?_) #[true, true, true, true, false, true, false, false, false, false, false, false, false] rfl rfl (by kernel_rfl) (fun _ _ _ h => h) (Or.inl ⟨by rfl, ?_⟩) ?_ ?_
  rotate_left
  · intro w'
    go_simp
    with_reducible rfl
  rotate_left
  · simp only [Act.put, List.setIfInBounds_toArray, List.set_cons_zero, List.set_cons_succ, i64_w, i32_w]
    rfl
  refine take_ (i := 4) (N := some 9) (v := ?_) (a' := ?_) #[true, true, true, true, true, true, false, false, false, false, false, false, false] rfl rfl (by kernel_rfl) (fun _ _ _ h => h) (Or.inl ⟨by rfl, ?_⟩) hHeld ?_ ?_
  rotate_left
  · rintro w' s0
    go_simp
    with_reducible rfl
  rotate_left
  · simp only [Act.put, List.setIfInBounds_toArray, List.set_cons_zero, List.set_cons_succ, i64_w, i32_w]
    rfl
  refine one_ (i := 6) (N := some 11) #[true, true, true, true, true, true, true, false, false, false, false, false, false] rfl rfl (by kernel_rfl) (by decide) (fun K hK => ?_)
  refine Kd.R_append_rows_step k23 (w0 := (w.alloc (.cells #[.int .i64 0, .int .i64 0, .string ⟨#[]⟩] 23)).drew) 0 (by rfl) (.const (.slice none 0 0)) (.tmp 10) 64 23 (.agg #[(.int .i64 0), (.int .i64 0), (.string ⟨#[]⟩)]) 32 rfl Tryd.underlying64 info32 rfl (by decide) (by omega) (.slice none 0 0) ([] : List S23) l _ _ _ (fun k => w.heap.size < k) (fun _ => False) rfl rfl (Kd.R_nil _ _ _ _ _) HC.out (fun _ _ h => h) (fun _ h => h.elim) (fun k hk => by simp at hk; omega) (Below.refl _ _) (Nat.zero_le _) (by simp; omega) ?_
  intro v1 w1 hrow1 _ hgrow _
  obtain ⟨AL, cL, ev1⟩ := Kd.R_slice hrow1
  subst ev1
  rw [List.nil_append] at hrow1
  have h1 : w1.cell? ⟨p, 0, none⟩ = some (.slice Ar xs.length cr) := hgrow.cell hHeld (by simp [Value.ownBlock])
  have hz := blk_grown (blk_drew BZ.out) hgrow (by simp [Value.ownBlock])
  have C1 := Aside0.mk (((Chg.alloc No w (.cells #[.int .i64 0, .int .i64 0, .string ⟨#[]⟩] 23)).trans ((chg_drew No (w.alloc (.cells #[.int .i64 0, .int .i64 0, .string ⟨#[]⟩] 23))).trans (Chg.of_grown (O := No) hgrow (fun k hk => by simp [Value.ownBlock] at hk)))).mono (Q := No) (fun k _ hq => by simp [No] at hq))
  have hL := Aside0.mk hrow1
  have BZ1 := Aside0.mk hz
  clear hrow1 hgrow hz
  refine hK.out _ _ h1 (fun hHeld => ?_)
  clear hK K
  refine norm_ (a' := ?_) ?_ ?_
  rotate_left
  · show Act.put _ (some 11) _ = _
    simp only [Act.put, List.setIfInBounds_toArray, List.set_cons_zero, List.set_cons_succ, i64_w, i32_w]
    rfl
  refine pure_ (i := 7) (N := some 12) (v := ?_) (a' := ?_) #[true, true, true, true, true, true, true, true, false, false, false, false, false] rfl rfl (by kernel_rfl) (fun _ _ _ h => h) (Or.inl ⟨by rfl, ?_⟩) ?_ ?_
  rotate_left
  · intro w'
    go_simp
    with_reducible rfl
  rotate_left
  · simp only [Act.put, List.setIfInBounds_toArray, List.set_cons_zero, List.set_cons_succ, i64_w, i32_w]
    rfl
  refine one_ (i := 8) (N := some 13) #[true, true, true, true, true, true, true, true, true, false, false, false, false] rfl rfl (by kernel_rfl) (by decide) (fun K hK => ?_)
  refine value_ (w1 := ?_) (v := ?_) (by rfl) rfl ?_ ?_
  rotate_left 2
  · go_simp
    constructor
    · rfl
    · rfl
  refine hK.out _ _ (cell_alloc hHeld _) (fun hHeld => ?_)
  clear hK K
  refine norm_ (a' := ?_) ?_ ?_
  rotate_left
  · show Act.put _ (some 13) _ = _
    simp only [Act.put, List.setIfInBounds_toArray, List.set_cons_zero, List.set_cons_succ, i64_w, i32_w]
    rfl
  refine one_ (i := 9) (N := some 14) #[true, true, true, true, true, true, true, true, true, true, false, false, false] rfl rfl (by kernel_rfl) (by decide) (fun K hK => ?_)
  refine Kd.R_append_step kTg (w0 := w1) 0 (by rfl) (.tmp 9) (.tmp 13) 67 98 (.agg #[.bool false, .slice none 0 0, .slice none 0 0]) 56 rfl Tryd.underlying67 info72 rfl (by decide) (by omega) (.slice Ar xs.length cr) xs (false, (none, 0, 0), (AL, l.length, cL)) [.bool false, .slice none 0 0, .slice AL l.length cL] (fun k => (O k ∧ k < w.heap.size) ∨ w.heap.size < k) (fun _ => False) rfl rfl (kTg_mk _ _ _ _) (fun _ h => h.elim) (fun k hk => Or.inr (by have := blk_lt BZ1.out; omega)) ?aO (Below.refl _ _) (Nat.zero_le _) (by omega) ?_
  (case aO => rw [← EV.out]; exact Kd.R_step (Kd.R_mono (Kd.R_bound HP0.out.row) (fun k hk => Or.inl ⟨hk.1, hk.2.2.1⟩)) (fun k hk hlt => C1.out.block k hlt (fun h => h)))
  intro v2 w2 hrow2 _ hgrow hat
  obtain ⟨A2, c2, ev2⟩ := Kd.R_slice hrow2
  subst ev2
  have hnp : some p ≠ (Value.slice Ar xs.length cr).ownBlock := fun e => HP0.out.row_ne (by rw [EV.out]; exact e.symm)
  have h2 : w2.cell? ⟨p, 0, none⟩ = some (.slice Ar xs.length cr) := hgrow.cell h1 hnp
  refine hK.out _ _ h2 (fun hHeld => ?_)
  clear hK K
  refine norm_ (a' := ?_) ?_ ?_
  rotate_left
  · show Act.put _ (some 14) _ = _
    simp only [Act.put, List.setIfInBounds_toArray, List.set_cons_zero, List.set_cons_succ, i64_w, i32_w]
    rfl
  refine pure_ (i := 10) (N := some 15) (v := ?_) (a' := ?_) #[true, true, true, true, true, true, true, true, true, true, true, false, false] rfl rfl (by kernel_rfl) (fun _ _ _ h => h) (Or.inl ⟨by rfl, ?_⟩) ?_ ?_
  rotate_left
  · intro w'
    go_simp
    with_reducible rfl
  rotate_left
  · simp only [Act.put, List.setIfInBounds_toArray, List.set_cons_zero, List.set_cons_succ, i64_w, i32_w]
    rfl
  refine pure_ (i := 11) (N := some 16) (v := ?_) (a' := ?_) #[true, true, true, true, true, true, true, true, true, true, true, true, false] rfl rfl (by kernel_rfl) (fun _ _ _ h => h) (Or.inl ⟨by rfl, ?_⟩) ?_ ?_
  rotate_left
  · intro w'
    go_simp
    with_reducible rfl
  rotate_left
  · simp only [Act.put, List.setIfInBounds_toArray, List.set_cons_zero, List.set_cons_succ, i64_w, i32_w]
    rfl
  refine last_ (i := 12) (N := none) #[true, true, true, true, true, true, true, true, true, true, true, true, true] rfl rfl (by kernel_rfl) (by decide) (fun K hK => ?_)
  have hblk : w2.heap[p]? = some (.cells #[.slice Ar xs.length cr] 69 (0, 0)) := blk_grown (by rw [← EV.out]; exact C1.out.blk HP0.out.hdr (fun h => h)) hgrow hnp
  have hs1 : w2.cell? ⟨p, 0, none⟩ = some (.slice Ar xs.length cr) := h2
  have hs2 := blk_frozen hblk 0
  refine skip_ (w1 := ?_) (by rfl) rfl ?_ ?_
  rotate_left
  · go_simp
    rfl
  refine hK.out _ _ ?_
  clear hK K
  refine done_ (by kernel_rfl) ?_
  have hU := HP0.out.row_ne
  rw [EV.out] at hU
  have hR2 := hrow2
  rw [show (xs ++ [((false, (none, 0, 0), (AL, l.length, cL)) : Tg)]).length = xs.length + 1 by simp] at hR2
  have bP := blk_put hblk 0 (.slice A2 (xs.length + 1) c2) rfl
  have bZ := blk_far (p := ⟨p, 0, none⟩) (blk_grown BZ1.out hgrow (fun e => by have := (HP0.out.row_lt (show v.ownBlock = some w.heap.size by rw [EV.out]; exact e.symm)).1; omega)) hpne (.slice A2 (xs.length + 1) c2)
  have hL2 := Kd.R_set (Kd.R_over hL.out (Kd.R_mono (Kd.R_step HP0.out.row (fun k _ hlt => C1.out.block k hlt (fun h => h))) (ok' := O) (fun k h => h)) (by decide) (by rw [EV.out]; exact hgrow)) hblk (by decide) 0 (.slice A2 (xs.length + 1) c2)
  have hT2 := Kd.R_set hR2 hblk (by decide) 0 (.slice A2 (xs.length + 1) c2)
  have cW : Chg (fun k => k = p ∨ some k = v.ownBlock) w (w2.setCell ⟨p, 0, none⟩ (.slice A2 (xs.length + 1) c2)) := ((C1.out.trans (Chg.of_grown (O := fun k => some k = v.ownBlock) hgrow (fun k hk => by rw [EV.out]; exact hk.symm))).trans (Chg.setCell (O := fun k => k = p) w2 ⟨p, 0, none⟩ _ rfl)).mono (fun k _ hq => by
    rcases hq with (hq | hq) | hq
    · exact hq.elim
    · exact Or.inr hq.1
    · exact Or.inl hq.1)
  have hat2 : (Value.slice A2 (xs.length + 1) c2).ownBlock = v.ownBlock ∨ ∃ b, (Value.slice A2 (xs.length + 1) c2).ownBlock = some b ∧ w.heap.size ≤ b := by
    rw [EV.out]
    rcases hat with hat | ⟨b, hb, hle⟩
    · exact Or.inl ((ownLen A2 _ _ _ _).trans hat)
    · exact Or.inr ⟨b, (ownLen A2 _ _ _ _).trans hb, by have := C1.out.size; omega⟩
  have hGP := HP0.out.more cW bP hT2 (t := .arr l) (Q := fun k => w.heap.size < k ∧ k < (w2.setCell ⟨p, 0, none⟩ (.slice A2 (xs.length + 1) c2)).heap.size ∧ some k ≠ (Value.slice A2 (xs.length + 1) c2).ownBlock) ⟨rfl, Kd.R_nil _ _ _ _ _, Kd.R_mono (Kd.R_bound hL2) (fun k hk => by
    obtain ⟨h1, _, h3, q, hq, cells, hc⟩ := hk
    exact ⟨h1, h3, Kd.R_ne hT2 hc (fun e => (show ∀ q, q ∈ 23 :: k23.E → q ≠ 98 by decide) q hq e.symm)⟩)⟩ (fun k hk => hk) hat2
  have HG := Aside0.mk (And.intro hGP (cW.mono (Q := O) (fun k _ hq => by
    rcases hq with rfl | hq
    · exact HP0.out.po
    · exact (HP0.out.row_lt hq.symm).2)))
  have BP := Aside0.mk bP
  have BZ2 := Aside0.mk bZ
  clear hGP cW hat2 hT2 hL2 bZ bP hR2 hU hs1 hs2 hblk h2 h1 hnp hrow2 hgrow hat hHeld
  generalize w2.setCell ⟨p, 0, none⟩ (.slice A2 (xs.length + 1) c2) = Wa at *
  have gp : Wa.cell? ⟨p, 0, none⟩ = some (.slice A2 (xs.length + 1) c2) := (blk_cell BP.out 0).trans rfl
  obtain ⟨⟨z0, z1, z2⟩, f0, f1, f2⟩ := box3 BZ2.out
  go_wp2
  refine bodyPost_ret (results_cell_row rfl _ _ w.heap.size 23 #[.int .i64 5, .int .i64 xs.length, .string ⟨#[]⟩] (0, 0) _ rfl (put3 BZ2.out) Tryd.underlying23 rfl (by kernel_rfl)) rfl ⟨by rw [HP0.out.len]; rfl, ?_⟩
  exact gstore_box ⟨_, _, _, HG.out.1⟩ HG.out.2
end
end Go.Proofs.YtdheakalfleleaaDoor.Val
namespace Go.Proofs.YtdheakalfleleaaDoor.Val
open Go.RowKit Go.Proofs.YtdheakalfleleaaDoor.POper Go.Proofs.YtdheakalfleleaaDoorW.PrintWords Go.Proofs.YtdheakalfleleaaDoorW.PrintLast Go.Proofs.YtdheakalfleleaaDoorW.PrintMore
set_option linter.unusedVariables false
set_option linter.unusedSimpArgs false
theorem kvPut_len : ∀ (kv : List (ByteArray × S23)) (n : ByteArray) (y : S23), (kvPut kv n y).length ≤ kv.length + 1
  | [], _, _ => Nat.le_refl _
  | (k, z) :: r, n, y => by
    unfold kvPut
    split
    · simp
    · have := kvPut_len r n y
      simpa using this
theorem kvFold_len (ns : List ByteArray) (l : List S23) : (kvFold ns l).length ≤ ns.length := by
  have key : ∀ (qs : List (ByteArray × S23)) (kv : List (ByteArray × S23)), (qs.foldl (fun kv q => kvPut kv q.1 q.2) kv).length ≤ kv.length + qs.length := by
    intro qs
    induction qs with
    | nil => intro kv; exact Nat.le_refl _
    | cons q r ih =>
      intro kv
      have h1 := ih (kvPut kv q.1 q.2)
      have h2 := kvPut_len kv q.1 q.2
      simp only [List.foldl_cons, List.length_cons] at h1 ⊢
      omega
  have h := key (ns.zip l) []
  unfold kvFold
  have : (ns.zip l).length ≤ ns.length := by rw [List.length_zip]; omega
  simp only [List.length_nil] at h
  omega
theorem objAt_new (D : List Th) (kv : List (ByteArray × S23)) (s : ByteArray) : objAt (D ++ [.obj kv]) ⟨6, (D.length : Nat), s⟩ = some kv := by
  have h2 : D.length < (D ++ [Th.obj kv]).length := by simp
  have h3 : (D ++ [Th.obj kv])[D.length]? = some (.obj kv) := by simp
  simp [objAt]
  omega
theorem set_new (D : List Th) (t t' : Th) : (D ++ [t]).set D.length t' = D ++ [t'] := by simp
section
variable {w : World} {O : Nat → Prop} {p : Nat} {v : Value} {xs : List Tg} {Os : Nat → Nat → Prop} {D : List Th}
theorem gstore_box' {W : World} {u0 u1 u2 : Value} {V : Nat} {D' : List Th} (hp : GP W (fun k => (O k ∧ k < w.heap.size) ∨ (w.heap.size < k ∧ k ≠ V)) p D') (hc : Chg O w W) :
    GP (((W.setCell ⟨w.heap.size, 0, none⟩ u0).setCell ⟨w.heap.size, 1, none⟩ u1).setCell ⟨w.heap.size, 2, none⟩ u2) (Grow O w (((W.setCell ⟨w.heap.size, 0, none⟩ u0).setCell ⟨w.heap.size, 1, none⟩ u1).setCell ⟨w.heap.size, 2, none⟩ u2)) p D' ∧ Chg O w (((W.setCell ⟨w.heap.size, 0, none⟩ u0).setCell ⟨w.heap.size, 1, none⟩ u1).setCell ⟨w.heap.size, 2, none⟩ u2) :=
  gstore_box (hp.mono (fun k hk hlt => hk.imp id (fun h => ⟨h.1, hlt⟩))) hc
set_option maxHeartbeats 4000000 in
set_option maxRecDepth 100000 in
theorem gmkobj_calls (h : GP w O p D) {A B : Option Addr} {c d : Nat} {ns : List ByteArray} {l : List S23} (hN : ∀ W, Chg O w W → Kd.string.C W A ns.length ns) (hC : ∀ W, Chg O w W → k23.C W B l.length l) (hmax : l.length < 1000000000) (hmax2 : ns.length < 1000000000) (hlen : D.length < 1000000000) :
    Calls Tryd.prog 43 #[.pointer (some ⟨p, 0, none⟩), .slice A ns.length c, .slice B l.length d] w fun e w' => e = .returned (enc ⟨6, D.length, ⟨#[]⟩⟩) ∧ GP w' (Grow O w w') p (D ++ [.obj (kvFold ns l)]) ∧ Chg O w w' := by
  obtain ⟨v, xs, Os, h⟩ := h
  have HP0 := Aside0.mk h
  have hk := h.keep (Q := No) (Chg.alloc No w (.cells #[.int .i64 0, .int .i64 0, .string ⟨#[]⟩] 23)) (fun _ _ _ hn => hn)
  obtain ⟨Ar, cr, ev, hCr, g0⟩ := hk.head
  have HNC := Aside0.mk hN
  have HLC := Aside0.mk hC
  have BZ := Aside0.mk (heap_alloc_new w (.cells #[.int .i64 0, .int .i64 0, .string ⟨#[]⟩] 23))
  have EV := Aside0.mk ev
  have hxl : xs.length < 1000000000 := by rw [h.len]; exact hlen
  have hpne : w.heap.size ≠ p := by have := h.plt; omega
  have C1 := Aside0.mk (Chg.alloc No w (.cells #[.int .i64 0, .int .i64 0, .string ⟨#[]⟩] 23))
  have HXL := Aside0.mk h.len
  clear h hk hN hC ev hCr hlen
  go_enter Tryd.func43, Tryd.ntmps43
  go_wp2_with (first | (at_builtin; refine hold_ ?_))
  unfold Held
  refine Kd.R_append kTg (w0 := w.alloc (.cells #[.int .i64 0, .int .i64 0, .string ⟨#[]⟩] 23)) (W := w.alloc (.cells #[.int .i64 0, .int .i64 0, .string ⟨#[]⟩] 23)) 0 rfl (.tmp 13) (.tmp 15) 67 98 (.agg #[.bool false, .slice none 0 0, .slice none 0 0]) 56 rfl Tryd.underlying67 info72 rfl (by decide) (by omega) (.slice Ar xs.length cr) xs (true, (none, 0, 0), (none, 0, 0)) [.bool true, .slice none 0 0, .slice none 0 0] (fun k => (O k ∧ k < w.heap.size) ∨ w.heap.size < k) (fun _ => False) rfl (by simp; rfl) (kTg_mk _ _ _ _) (fun _ h => h.elim) (fun k hk => Or.inr (by simp at hk; omega)) ?aO (Below.refl _ _) (Nat.zero_le _) (by omega) ?_
  (case aO => rw [← EV.out]; exact Kd.R_step (Kd.R_mono (Kd.R_bound HP0.out.row) (fun k hk => Or.inl ⟨hk.1, hk.2.2.1⟩)) (fun k hk hlt => C1.out.block k hlt (fun h => h)))
  intro v2 w2 hrow2 _ hgrow hat
  obtain ⟨A2, c2, ev2⟩ := Kd.R_slice hrow2
  subst ev2
  have hnp : some p ≠ (Value.slice Ar xs.length cr).ownBlock := fun e => HP0.out.row_ne (by rw [EV.out]; exact e.symm)
  have h2 : w2.cell? ⟨p, 0, none⟩ = some (.slice Ar xs.length cr) := hgrow.cell g0 hnp
  have hblk : w2.heap[p]? = some (.cells #[.slice Ar xs.length cr] 69 (0, 0)) := blk_grown (by rw [← EV.out]; exact C1.out.blk HP0.out.hdr (fun h => h)) hgrow hnp
  have hs2 := blk_frozen hblk 0
  have hR2 := hrow2
  have EN : (xs ++ [((true, (none, 0, 0), (none, 0, 0)) : Tg)]).length = xs.length + 1 := by simp
  rw [EN] at hR2 ⊢
  have bP := blk_put hblk 0 (.slice A2 (xs.length + 1) c2) rfl
  have bZ := blk_far (p := ⟨p, 0, none⟩) (blk_grown BZ.out hgrow (fun e => by have := (HP0.out.row_lt (show v.ownBlock = some w.heap.size by rw [EV.out]; exact e.symm)).1; omega)) hpne (.slice A2 (xs.length + 1) c2)
  have hT2 := Kd.R_set hR2 hblk (by decide) 0 (.slice A2 (xs.length + 1) c2)
  have cW : Chg (fun k => k = p ∨ some k = v.ownBlock) w (w2.setCell ⟨p, 0, none⟩ (.slice A2 (xs.length + 1) c2)) := ((C1.out.trans (Chg.of_grown (O := fun k => some k = v.ownBlock) hgrow (fun k hk => by rw [EV.out]; exact hk.symm))).trans (Chg.setCell (O := fun k => k = p) w2 ⟨p, 0, none⟩ _ rfl)).mono (fun k _ hq => by
    rcases hq with (hq | hq) | hq
    · exact hq.elim
    · exact Or.inr hq.1
    · exact Or.inl hq.1)
  have hat2 : (Value.slice A2 (xs.length + 1) c2).ownBlock = v.ownBlock ∨ ∃ b, (Value.slice A2 (xs.length + 1) c2).ownBlock = some b ∧ w.heap.size ≤ b := by
    rw [EV.out]
    rcases hat with hat | ⟨b, hb, hle⟩
    · exact Or.inl ((ownLen A2 _ _ _ _).trans hat)
    · exact Or.inr ⟨b, (ownLen A2 _ _ _ _).trans hb, by have := C1.out.size; omega⟩
  have hGP := HP0.out.more cW bP hT2 (t := .obj []) (Q := fun _ => False) ⟨rfl, Kd.R_nil _ _ _ _ _, Kd.R_nil _ _ _ _ _⟩ (fun k hk => hk.elim) hat2
  have HG := Aside0.mk (And.intro hGP (cW.mono (Q := O) (fun k _ hq => by
    rcases hq with rfl | hq
    · exact HP0.out.po
    · exact (HP0.out.row_lt hq.symm).2)))
  have BP := Aside0.mk bP
  have BZ2 := Aside0.mk bZ
  clear hGP cW hat2 hT2 bZ bP hR2 hnp hrow2 hgrow hat BZ g0 EN
  go_wp2
  have hsz : (w2.setCell ⟨p, 0, none⟩ (.slice A2 (xs.length + 1) c2)).heap.size = w2.heap.size := by simp [World.setCell]
  have hVw : w.heap.size < w2.heap.size := by have := blk_lt BZ2.out; rw [hsz] at this; exact this
  have HX : Aside0 (GP ((w2.setCell ⟨p, 0, none⟩ (.slice A2 (xs.length + 1) c2)).alloc (.cells #[.int .i64 6, .int .i64 xs.length, .string ⟨#[]⟩] 23)) (fun k => (O k ∧ k < w.heap.size) ∨ (w.heap.size < k ∧ k ≠ w2.heap.size)) p (D ++ [.obj []]) ∧ Chg O w ((w2.setCell ⟨p, 0, none⟩ (.slice A2 (xs.length + 1) c2)).alloc (.cells #[.int .i64 6, .int .i64 xs.length, .string ⟨#[]⟩] 23))) := ⟨⟨_, _, _, (HG.out.1.mono (Q := fun k => (O k ∧ k < w.heap.size) ∨ (w.heap.size < k ∧ k ≠ w2.heap.size)) (fun k hk hlt => by
      rcases hk with hk | hk
      · exact Or.inl hk
      · exact Or.inr ⟨hk.1, by omega⟩)).keep (Chg.alloc No _ _) (fun _ _ _ hn => hn)⟩, (HG.out.2.trans (Chg.alloc No _ _)).mono (fun k _ hq => hq.elim id (fun h => h.1.elim))⟩
  have BZ3 := Aside0.mk (blk_alloc BZ2.out (.cells #[.int .i64 6, .int .i64 xs.length, .string ⟨#[]⟩] 23))
  have bv := heap_alloc_new (w2.setCell ⟨p, 0, none⟩ (.slice A2 (xs.length + 1) c2)) (.cells #[.int .i64 6, .int .i64 xs.length, .string ⟨#[]⟩] 23)
  rw [hsz] at bv
  have BV := Aside0.mk bv
  clear bv HG BP BZ2 hblk h2 hs2
  all_goals
    go_loopw [8] (fun v8 wr => ∃ i : Nat, v8 = .int .i64 i ∧ i ≤ ns.length ∧ i ≤ l.length ∧ GP wr (fun k => (O k ∧ k < w.heap.size) ∨ (w.heap.size < k ∧ k ≠ w2.heap.size)) p (D ++ [.obj (kvFold (ns.take i) (l.take i))]) ∧ Chg O w wr ∧ wr.heap[w.heap.size]? = some (.cells #[.int .i64 0, .int .i64 0, .string ⟨#[]⟩] 23) ∧ wr.heap[w2.heap.size]? = some (.cells #[.int .i64 6, .int .i64 xs.length, .string ⟨#[]⟩] 23)) (fun v8 _ => ns.length - (intOf v8).toNat)
    case atStart => exact ⟨0, rfl, Nat.zero_le _, Nat.zero_le _, by simpa [kvFold] using HX.out.1, HX.out.2, BZ3.out, BV.out⟩
    case round =>
      obtain ⟨i, rfl, hi1, hi2, hgp, hch, hz, hv⟩ := hrel
      have HF := Aside0.mk (And.intro hgp (And.intro hch (And.intro hz hv)))
      clear HX BZ3 BV
      obtain ⟨⟨b0, b1, b2⟩, _, _, _⟩ := box3 hv
      by_cases hlt : i < ns.length ∧ i < l.length
      · have d1 : decide ((i : Int) < (l.length : Int)) = true := by simp; omega
        have d2 : decide ((i : Int) < (ns.length : Int)) = true := by simp; omega
        obtain ⟨ad, eA, hx⟩ := Kd.at_string (HNC.out wr hch) (i : Int) (by omega) (by omega)
        obtain ⟨ad2, eB, hy0, hy1, hy2⟩ := at_T23 (HLC.out wr hch) (i : Int) (by omega) (by omega)
        simp only [Int.toNat_natCast] at hx hy0 hy1 hy2
        clear hgp hch hz hv
        subst eA
        subst eB
        go_wp2
        go_still_tail 10, (by kernel_rfl)
        change wpList _ _ _ _ _ wr.drew
        obtain ⟨v', xs', Os', hg'⟩ := HF.out.1.keep (chg_drew No wr) (fun _ _ _ hn => hn)
        have HS := Aside0.mk (gset_some hg' (x := ⟨6, (xs.length : Nat), ⟨#[]⟩⟩) (by rw [HXL.out]; exact objAt_new D _ _) (rd_T23 l i) (rdOf ByteArray.empty ns i) (by have := kvFold_len (ns.take i) (l.take i); have := List.length_take_le' i ns; omega))
        clear hg'
        go_wp2_with (go_at_call 72; refine hold_ ?_)
        unfold Held
        refine HS.out.mono ?_
        rintro e w4 ⟨rfl, hg4, hc4⟩
        have HT4 := Aside0.mk (And.intro hg4 hc4)
        clear hg4 hc4 HS
        go_wp2
        go_roundw
        case rel => exact ⟨i + 1, by go_num, by omega, by omega, by
            have hg4 := HT4.out.1
            have hw4 := HT4.out.2.size
            have ek : (D ++ [Th.obj (kvFold (ns.take i) (l.take i))]).set (Int.toNat ((xs.length : Nat) : Int)) (.obj (kvPut (kvFold (ns.take i) (l.take i)) (rdOf ByteArray.empty ns i) (rd_T23 l i))) = D ++ [.obj (kvFold (ns.take (i + 1)) (l.take (i + 1)))] := by
              rw [kvFold_succ ns l i hlt.1 hlt.2, HXL.out, Int.toNat_natCast]
              exact set_new D _ _
            rw [← ek]
            refine hg4.mono (fun k hk hkl => ?_)
            rcases hk with hk | hk
            · exact hk.1
            · have := blk_lt HF.out.2.2.2
              simp at hk
              exact Or.inr ⟨by omega, by omega⟩, (HF.out.2.1.trans ((chg_drew No wr).trans HT4.out.2)).mono (fun k hkl hq => by
            rcases hq with hq | hq
            · exact hq
            · rcases hq.1 with h1 | h1
              · exact h1.elim
              · rcases h1.1 with h2 | h2
                · exact h2.1
                · omega), HT4.out.2.blk (blk_drew HF.out.2.2.1) (fun hq => by
            rcases hq with h1 | h1
            · omega
            · omega), HT4.out.2.blk (blk_drew HF.out.2.2.2) (fun hq => by
            rcases hq with h1 | h1
            · omega
            · omega)⟩
        case measure => simp [intOf]; omega
      · by_cases hn : i < ns.length
        · have d2 : decide ((i : Int) < (ns.length : Int)) = true := by simp; omega
          have d1 : decide ((i : Int) < (l.length : Int)) = false := by simp; omega
          have HK := Aside0.mk (kvFold_all ns l i (by omega))
          obtain ⟨⟨z0, z1, z2⟩, f0, f1, f2⟩ := box3 hz
          clear hgp hch hz hv
          go_wp2
          refine bodyPost_ret (results_cell_row rfl _ _ w.heap.size 23 #[.int .i64 6, .int .i64 xs.length, .string ⟨#[]⟩] (0, 0) _ rfl (put3 HF.out.2.2.1) Tryd.underlying23 rfl (by kernel_rfl)) rfl ⟨by rw [HXL.out]; rfl, ?_⟩
          have hgp := HF.out.1
          rw [HK.out] at hgp
          exact gstore_box' (V := w2.heap.size) hgp HF.out.2.1
        · have d2 : decide ((i : Int) < (ns.length : Int)) = false := by simp; omega
          have HK := Aside0.mk (kvFold_all ns l i (by omega))
          obtain ⟨⟨z0, z1, z2⟩, f0, f1, f2⟩ := box3 hz
          clear hgp hch hz hv
          go_wp2
          refine bodyPost_ret (results_cell_row rfl _ _ w.heap.size 23 #[.int .i64 6, .int .i64 xs.length, .string ⟨#[]⟩] (0, 0) _ rfl (put3 HF.out.2.2.1) Tryd.underlying23 rfl (by kernel_rfl)) rfl ⟨by rw [HXL.out]; rfl, ?_⟩
          have hgp := HF.out.1
          rw [HK.out] at hgp
          exact gstore_box' (V := w2.heap.size) hgp HF.out.2.1
end
end Go.Proofs.YtdheakalfleleaaDoor.Val
namespace Go.Proofs.YtdheakalfleleaaDoor.Val
open Go.RowKit Go.Proofs.YtdheakalfleleaaDoor.POper Go.Proofs.YtdheakalfleleaaDoorW.PrintWords Go.Proofs.YtdheakalfleleaaDoorW.PrintLast Go.Proofs.YtdheakalfleleaaDoorW.PrintMore
set_option linter.unusedVariables false
set_option linter.unusedSimpArgs false
def HasG (B : Nat) (W : World) (O : Nat → Prop) (p : Nat) (D : List Th) : Prop := B ≤ W.heap.size ∧ GP W O p D ∧ ∀ k, O k → B ≤ k ∧ k < W.heap.size
section
variable {B : Nat} {W W' : World} {O : Nat → Prop} {p : Nat} {D : List Th}
theorem HasG.below (h : HasG B W O p D) (hb : Below W.heap.size W W') : HasG B W' O p D := by
  obtain ⟨h0, hp, hO⟩ := h
  have := hb.size
  exact ⟨by omega, hp.keep (Q := No) (Chg.of_below hb) (fun _ _ _ hn => hn), fun k hk => ⟨(hO k hk).1, by have := (hO k hk).2; omega⟩⟩
theorem HasG.apart {Q : Nat → Prop} (h : HasG B W O p D) (hc : Chg Q W W') (hq : ∀ k, O k → ¬ Q k) : HasG B W' O p D := by
  obtain ⟨h0, hp, hO⟩ := h
  have := hc.size
  exact ⟨by omega, hp.keep hc (fun k hk _ => hq k hk), fun k hk => ⟨(hO k hk).1, by have := (hO k hk).2; omega⟩⟩
theorem HasG.free (h : HasG B W O p D) {k : Nat} (hk : W.heap.size ≤ k) : ¬ O k := fun ho => by have := (h.2.2 k ho).2; omega
theorem HasG.call (h : HasG B W O p D) {P : Program} {f : FuncId} {args : Array Value} {E : Ending} {D' : List Th} (hc : ∀ O, GP W O p D → (∀ k, O k → B ≤ k) → Calls P f args W fun e w' => e = E ∧ GP w' (Grow O W w') p D' ∧ Chg O W w') :
    Calls P f args W fun e w' => e = E ∧ ∃ O', HasG B w' O' p D' ∧ (∀ k, k < W.heap.size → ¬ O k → ¬ O' k) ∧ Chg O W w' := by
  obtain ⟨h0, hp, hO⟩ := h
  refine (hc O hp (fun k hk => (hO k hk).1)).mono ?_
  rintro e w' ⟨he, hp', hch⟩
  have hs := hch.size
  refine ⟨he, _, ⟨by omega, hp', fun k hk => ?_⟩, fun k hk hn hg => ?_, hch⟩
  · rcases hk with hk | hk
    · exact ⟨(hO k hk.1).1, by omega⟩
    · exact ⟨by omega, hk.2⟩
  · rcases hg with hg | hg
    · exact hn hg.1
    · omega
theorem HasG.own (h : HasG B W O p D) (hc : Chg O W W') {w : World} (hb : Below B w W) : Below B w W' := hb.trans (hc.below h.1 (fun k hk => (h.2.2 k hk).1))
theorem gnew_heap (w : World) : GP (w.alloc (.cells #[.slice none 0 0] 69)) (fun k => k = w.heap.size) w.heap.size [] :=
  ⟨.slice none 0 0, [], fun _ _ => False, ⟨heap_alloc_new w _, rfl, Kd.R_nil _ _ _ _ _, rfl, fun i t h => by simp at h, fun _ _ h => h.elim, fun _ _ _ _ h => h.elim, fun _ h => h, fun _ _ _ h => h⟩⟩
theorem HasG.new (B : Nat) (W : World) (hB : B ≤ W.heap.size) : HasG B (W.alloc (.cells #[.slice none 0 0] 69)) (fun k => k = W.heap.size) W.heap.size [] :=
  ⟨by simp; omega, gnew_heap W, fun k hk => by subst hk; simp; omega⟩
theorem HasG.at (h : HasG B W O p D) (x : S23) (i : Int) :
    Calls Tryd.prog 62 #[.pointer (some ⟨p, 0, none⟩), .agg #[.int .i64 x.f0, .int .i64 x.f1, .string x.f2], .int .i64 i] W fun e w' => e = .returned (.tuple #[enc (aAt D x i).1, .bool (aAt D x i).2]) ∧ Below W.heap.size W w' := by
  obtain ⟨_, ⟨v, xs, Os, hp⟩, _⟩ := h
  exact gat_calls hp x i
theorem HasG.len (h : HasG B W O p D) (x : S23) :
    Calls Tryd.prog 57 #[.pointer (some ⟨p, 0, none⟩), .agg #[.int .i64 x.f0, .int .i64 x.f1, .string x.f2]] W fun e w' => e = .returned (.int .i64 (aLen D x)) ∧ Below W.heap.size W w' := by
  obtain ⟨_, ⟨v, xs, Os, hp⟩, _⟩ := h
  exact glen_calls hp x
theorem HasG.set (h : HasG B W O p D) (x y : S23) (n : ByteArray) (hR : Room D 100000000000) :
    Calls Tryd.prog 72 #[.pointer (some ⟨p, 0, none⟩), .agg #[.int .i64 x.f0, .int .i64 x.f1, .string x.f2], .string n, .agg #[.int .i64 y.f0, .int .i64 y.f1, .string y.f2]] W fun e w' => e = .returned (.bool (oSet D x n y).2) ∧ ∃ O', HasG B w' O' p (oSet D x n y).1 ∧ (∀ k, k < W.heap.size → ¬ O k → ¬ O' k) ∧ Chg O W w' :=
  h.call (fun O hp _ => gset_calls hp x y n hR)
theorem HasG.push (h : HasG B W O p D) (x y : S23) (hR : Room D 100000000000) :
    Calls Tryd.prog 84 #[.pointer (some ⟨p, 0, none⟩), .agg #[.int .i64 x.f0, .int .i64 x.f1, .string x.f2], .agg #[.int .i64 y.f0, .int .i64 y.f1, .string y.f2]] W fun e w' => e = .returned (.bool (aPush D x y).2) ∧ ∃ O', HasG B w' O' p (aPush D x y).1 ∧ (∀ k, k < W.heap.size → ¬ O k → ¬ O' k) ∧ Chg O W w' :=
  h.call (fun O hp _ => gpush_calls hp x y hR)
theorem HasG.put (h : HasG B W O p D) (x y : S23) (i : Int) (hR : Room D 100000000000) :
    Calls Tryd.prog 83 #[.pointer (some ⟨p, 0, none⟩), .agg #[.int .i64 x.f0, .int .i64 x.f1, .string x.f2], .int .i64 i, .agg #[.int .i64 y.f0, .int .i64 y.f1, .string y.f2]] W fun e w' => e = .returned (.bool (aPut D x i y).2) ∧ ∃ O', HasG B w' O' p (aPut D x i y).1 ∧ (∀ k, k < W.heap.size → ¬ O k → ¬ O' k) ∧ Chg O W w' :=
  h.call (fun O hp _ => gput_calls hp x y i hR)
theorem HasG.arr (h : HasG B W O p D) {A : Option Addr} {c : Nat} {l : List S23} (hC : k23.C W A l.length l) (hmax : l.length < 1000000000000) (hlen : D.length < 1000000000000) :
    Calls Tryd.prog 41 #[.pointer (some ⟨p, 0, none⟩), .slice A l.length c] W fun e w' => e = .returned (enc ⟨5, D.length, ⟨#[]⟩⟩) ∧ ∃ O', HasG B w' O' p (D ++ [.arr l]) ∧ (∀ k, k < W.heap.size → ¬ O k → ¬ O' k) ∧ Chg O W w' :=
  h.call (fun O hp _ => gmkarr_calls hp hC hmax hlen)
theorem HasG.obj (h : HasG B W O p D) {w0 : World} (hB : B = w0.heap.size) (hb : Below B w0 W) {A A2 : Option Addr} {c d : Nat} {ns : List ByteArray} {l : List S23} (hN : Kd.string.C w0 A ns.length ns) (hC : k23.C w0 A2 l.length l) (hmax : l.length < 1000000000) (hmax2 : ns.length < 1000000000) (hlen : D.length < 1000000000) :
    Calls Tryd.prog 43 #[.pointer (some ⟨p, 0, none⟩), .slice A ns.length c, .slice A2 l.length d] W fun e w' => e = .returned (enc ⟨6, D.length, ⟨#[]⟩⟩) ∧ ∃ O', HasG B w' O' p (D ++ [.obj (kvFold ns l)]) ∧ (∀ k, k < W.heap.size → ¬ O k → ¬ O' k) ∧ Chg O W w' := by
  have h0 := h.1
  subst hB
  exact h.call (fun O hp hO => gmkobj_calls hp (fun W1 hc => Kd.C_below hN (hb.trans (hc.below h0 hO))) (fun W1 hc => Kd.C_below hC (hb.trans (hc.below h0 hO))) hmax hmax2 hlen)
end
structure Deed where
  k : Int
  v : S23
  x : S23
  nm : ByteArray
  i : Int
  nA : Option Addr
  nc : Nat
  ns : List ByteArray
  lA : Option Addr
  lc : Nat
  l : List S23
structure DeedOk (w : World) (d : Deed) : Prop where
  n : Kd.string.C w d.nA d.ns.length d.ns
  c : k23.C w d.lA d.l.length d.l
  nl : d.ns.length ≤ 1048576
  cl : d.l.length ≤ 1048576
theorem DeedOk.below {w W : World} {d : Deed} (h : DeedOk w d) (hb : Below w.heap.size w W) : DeedOk W d := ⟨Kd.C_below h.n hb, Kd.C_below h.c hb, h.nl, h.cl⟩
end Go.Proofs.YtdheakalfleleaaDoor.Val
