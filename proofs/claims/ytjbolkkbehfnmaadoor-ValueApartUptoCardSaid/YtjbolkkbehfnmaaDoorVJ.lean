/- Contracts of what makes a heap's things: add, Array. -/
import Derived.Test.YtjbolkkbehfnmaaDoorVI
namespace Go.Proofs.YtjbolkkbehfnmaaDoor.Val
open Go.RowKit Go.Proofs.YtjbolkkbehfnmaaDoor.PVal Go.Proofs.YtjbolkkbehfnmaaDoorW.PrintWords Go.Proofs.YtjbolkkbehfnmaaDoorW.PrintLast Go.Proofs.YtjbolkkbehfnmaaDoorW.PrintMore
set_option linter.unusedVariables false
set_option linter.unusedSimpArgs false
section
variable {w : World} {O : Nat → Prop} {p : Nat} {v : Value} {xs : List (Bool × Nat)} {Os : Nat → Nat → Prop} {D : List Th}
/-- A thing more. -/
theorem HPw.push (h : HPw w O p v xs Os D) {W : World} {v1 : Value} {x : Bool × Nat} {t : Th} {Q : Nat → Prop} (hc : Chg (fun k => k = p ∨ some k = v.ownBlock) w W) (hhdr : W.heap[p]? = some (.cells #[v1] 52 (0, 0)))
    (hrow : kTh.R 75 W 0 (fun k => (O k ∧ k < w.heap.size) ∨ w.heap.size ≤ k) v1 (xs ++ [x])) (ht : PT w Q x t) (hQ : ∀ k, Q k → k < w.heap.size ∧ ¬ O k) (hat : v1.ownBlock = v.ownBlock ∨ ∃ b, v1.ownBlock = some b ∧ w.heap.size ≤ b) :
    HPw W (fun k => Q k ∨ Grow O w W k) p v1 (xs ++ [x]) (fun i k => if i = D.length then Q k else Os i k) (D ++ [t]) where
  hdr := hhdr
  po := Or.inr (Or.inl ⟨h.po, h.plt⟩)
  row := Kd.R_mono (Kd.R_bound hrow) (fun k hk => by
    rcases hk.1 with h1 | h1
    · exact Or.inr (Or.inl h1)
    · exact Or.inr (Or.inr ⟨h1, hk.2.2.1⟩))
  len := by simp [h.len]
  th := by
    intro i t' hi
    have no : ∀ k, (Q k ∨ (∃ i, Os i k)) → ¬ (k = p ∨ some k = v.ownBlock) := by
      intro k hk hq
      rcases hk with hk | ⟨i, hk⟩
      · rcases hq with rfl | hq
        · exact (hQ _ hk).2 h.po
        · exact (hQ _ hk).2 (h.row_lt hq.symm).2
      · rcases hq with rfl | hq
        · exact h.nop i hk
        · exact h.nor i k hq.symm hk
    by_cases e : i = D.length
    · subst e
      rw [List.getElem?_append_right (Nat.le_refl _), Nat.sub_self] at hi
      injection hi with hi
      subst hi
      simp only [if_true]
      rw [List.getD_eq_getElem?_getD, List.getElem?_append_right (by rw [h.len]; exact Nat.le_refl _), h.len, Nat.sub_self]
      exact ht.step (fun k hk hlt => hc.block k hlt (no k (Or.inl hk)))
    · have hlt : i < D.length := by
        have := (List.getElem?_eq_some_iff.1 hi).1
        simp at this
        omega
      rw [List.getElem?_append_left hlt] at hi
      simp only [if_neg e]
      rw [List.getD_eq_getElem?_getD, List.getElem?_append_left (by rw [h.len]; exact hlt), ← List.getD_eq_getElem?_getD]
      exact (h.th i t' hi).step (fun k hk hlt => hc.block k hlt (no k (Or.inr ⟨i, hk⟩)))
  sub := by
    intro i k hk
    by_cases e : i = D.length
    · simp only [if_pos e] at hk
      exact ⟨Or.inl hk, Nat.lt_of_lt_of_le (hQ k hk).1 hc.size⟩
    · simp only [if_neg e] at hk
      exact ⟨Or.inr (Or.inl (h.sub i k hk)), Nat.lt_of_lt_of_le (h.sub i k hk).2 hc.size⟩
  dis := by
    intro i j k hij h1 h2
    by_cases e : i = D.length
    · simp only [if_pos e] at h1
      simp only [if_neg (show ¬ j = D.length from fun e2 => hij (e.trans e2.symm))] at h2
      exact (hQ k h1).2 (h.sub j k h2).1
    · simp only [if_neg e] at h1
      by_cases e2 : j = D.length
      · simp only [if_pos e2] at h2
        exact (hQ k h2).2 (h.sub i k h1).1
      · simp only [if_neg e2] at h2
        exact h.dis i j k hij h1 h2
  nop := by
    intro i hk
    by_cases e : i = D.length
    · simp only [if_pos e] at hk
      exact (hQ p hk).2 h.po
    · simp only [if_neg e] at hk
      exact h.nop i hk
  nor := by
    intro i k hv hk
    have key : ¬ w.heap.size ≤ k ∧ v1.ownBlock = v.ownBlock := by
      by_cases e : i = D.length
      · simp only [if_pos e] at hk
        have := (hQ k hk).1
        rcases hat with hat | ⟨b, hb, hle⟩
        · exact ⟨by omega, hat⟩
        · rw [hv] at hb; injection hb with hb; omega
      · simp only [if_neg e] at hk
        have := (h.sub i k hk).2
        rcases hat with hat | ⟨b, hb, hle⟩
        · exact ⟨by omega, hat⟩
        · rw [hv] at hb; injection hb with hb; omega
    rw [key.2] at hv
    by_cases e : i = D.length
    · simp only [if_pos e] at hk
      exact (hQ k hk).2 (h.row_lt hv).2
    · simp only [if_neg e] at hk
      exact h.nor i k hv hk
/-- A goal at which the walk stands. -/
def Held (P : Prop) : Prop := P
theorem hold_ {P : Prop} (h : Held P) : P := h
theorem info75 : (Tryd.prog.info? 75).map (fun i => (i.zero, i.size, i.bytes)) = some (some .nilIface, 1, 16) := by kernel_rfl
theorem row1 (W : World) (x : Bool × Nat) : kTh.C (W.alloc (.cells #[thEnc x] 75)) (some ⟨W.heap.size, 0, none⟩) 1 [x] :=
  ⟨rfl, by decide, fun _ => ⟨⟨W.heap.size, 0, none⟩, rfl, fun j q hj => by
    have hj0 : j = 0 := by
      have := (List.getElem?_eq_some_iff.1 hj).1
      simp at this
      omega
    subst hj0
    injection hj with hj
    subst hj
    refine ⟨[thEnc x], rfl, rfl, fun i u hu => ?_⟩
    have hi0 : i = 0 := by
      have := (List.getElem?_eq_some_iff.1 hu).1
      simp at this
      omega
    subst hi0
    injection hu with hu
    subst hu
    exact (blk_cell (heap_alloc_new W (.cells #[thEnc x] 75)) 0).trans rfl⟩⟩
set_option maxHeartbeats 2000000 in
set_option maxRecDepth 100000 in
theorem add_calls (h : HPw w O p v xs Os D) (kind : Int) {x : Bool × Nat} {t : Th} {Q : Nat → Prop} (ht : PT w Q x t) (hQ : ∀ k, Q k → k < w.heap.size ∧ ¬ O k) (hlen : D.length < 1000000000000) :
    Calls Tryd.prog 34 #[.pointer (some ⟨p, 0, none⟩), .int .i64 kind, thEnc x] w fun e w' => e = .returned (enc ⟨kind, D.length, ⟨#[]⟩⟩) ∧ HP w' (fun k => Q k ∨ Grow O w w' k) p (D ++ [t]) ∧ Chg O w w' := by
  obtain ⟨A, c, rfl, hC, hc⟩ := h.head
  have HH := Aside0.mk h
  have HT := Aside0.mk ht
  have HQ := Aside0.mk hQ
  clear h ht hQ hC
  have hc1 := cell_alloc hc (.cells #[.int .i64 0, .int .i64 0, .string ⟨#[]⟩] 32)
  clear hc
  have HN : Aside0 (some p ≠ (Value.slice A xs.length c).ownBlock ∧ some w.heap.size ≠ (Value.slice A xs.length c).ownBlock ∧ p ≠ w.heap.size) := ⟨fun e => HH.out.row_ne e.symm, fun e => by have := (HH.out.row_lt e.symm).1; omega, by have := HH.out.plt; omega⟩
  have HL := Aside0.mk HH.out.len
  have hlen2 : xs.length < 1000000000000 := by rw [HL.out]; exact hlen
  clear hlen
  obtain ⟨ty, xb, hxv⟩ : ∃ ty xb, thEnc x = .iface ty (.pointer (some ⟨xb, 0, none⟩)) := by
    unfold thEnc
    split
    · exact ⟨_, _, rfl⟩
    · exact ⟨_, _, rfl⟩
  rw [hxv]
  have HX := Aside0.mk hxv
  clear hxv
  have hpn := HN.out.2.2
  go_enter Tryd.func34, Tryd.ntmps34
  go_wp2_with (first | (at_builtin; refine hold_ ?_))
  unfold Held
  refine Kd.R_append_row thEnc (false, 0) (h1 := thEnc_one) (w0 := w) 0 rfl (.tmp 11) (.tmp 13) 50 75 .nilIface 16 rfl Tryd.underlying50 info75 rfl (by decide) (.slice A xs.length c) xs [x] (some ⟨w.heap.size + 1, 0, none⟩) 1 1 (fun k => (O k ∧ k < w.heap.size) ∨ w.heap.size ≤ k) rfl rfl (fun k hk => Or.inr (by simp at hk; omega)) ?aO ?aR ?aB (Nat.zero_le _) (by omega) ?_
  (case aO => exact Kd.R_alloc (Kd.R_alloc (Kd.R_mono (Kd.R_bound HH.out.row) (fun k hk => Or.inl ⟨hk.1, hk.2.2.1⟩)) _) _)
  (case aR => have h_ := row1 (w.alloc (.cells #[.int .i64 0, .int .i64 0, .string ⟨#[]⟩] 32)) x; rw [HX.out] at h_; simp at h_; exact h_)
  (case aB => exact ⟨rfl, rfl, rfl, by simp; omega, fun k hk => absurd hk (Nat.not_lt_zero k)⟩)
  intro v1 w1 hrow1 _ hgrow hat
  obtain ⟨A1, c1, ev1⟩ := Kd.R_slice hrow1
  subst ev1
  have hh := blk_grown (blk_alloc (blk_alloc HH.out.hdr (.cells #[.int .i64 0, .int .i64 0, .string ⟨#[]⟩] 32)) (.cells #[.iface ty (.pointer (some ⟨xb, 0, none⟩))] 75)) hgrow HN.out.1
  have hx := blk_grown (blk_alloc (heap_alloc_new w (.cells #[.int .i64 0, .int .i64 0, .string ⟨#[]⟩] 32)) (.cells #[.iface ty (.pointer (some ⟨xb, 0, none⟩))] 75)) hgrow HN.out.2.1
  have g0 : w1.cell? ⟨p, 0, none⟩ = some (.slice A xs.length c) := (blk_cell hh 0).trans rfl
  have g1 := blk_frozen hh 0
  obtain ⟨⟨b0, b1, b2⟩, f0, f1, f2⟩ := box3 hx
  have HG := Aside0.mk (And.intro hrow1 (And.intro hgrow (And.intro hat (And.intro hh hx))))
  clear hrow1 hgrow hat hh hx
  go_wp2
  obtain ⟨hrow, hgrow, hat, hh, hx⟩ := HG.out
  have hpw : w.heap.size ≠ p := fun e => hpn e.symm
  refine bodyPost_ret (results_cell_row rfl _ _ w.heap.size 32 #[.int .i64 kind, .int .i64 xs.length, .string ⟨#[]⟩] (0, 0) _ rfl (put3 (blk_far hx hpw _)) Tryd.underlying32 rfl (by kernel_rfl)) rfl ⟨by rw [HL.out]; rfl, ?_⟩
  have hS : ((w.alloc (.cells #[.int .i64 0, .int .i64 0, .string ⟨#[]⟩] 32)).alloc (.cells #[.iface ty (.pointer (some ⟨xb, 0, none⟩))] 75)).heap.size = w.heap.size + 2 := by simp
  have hC1 : Chg (fun k => some k = (Value.slice A xs.length c).ownBlock) w w1 := (((Chg.alloc No w (.cells #[.int .i64 0, .int .i64 0, .string ⟨#[]⟩] 32)).trans (Chg.alloc No _ (.cells #[.iface ty (.pointer (some ⟨xb, 0, none⟩))] 75))).trans (Chg.of_grown (O := fun k => some k = (Value.slice A xs.length c).ownBlock) hgrow (fun k hk => hk.symm))).mono (fun k hk hq => by
    rcases hq with (hq | hq) | hq
    · exact hq.elim
    · exact hq.1.elim
    · exact hq.1)
  have hC2 : ∀ (u u0 u1 u2 : Value), Chg (fun k => k = p ∨ some k = (Value.slice A xs.length c).ownBlock) w ((((w1.setCell ⟨p, 0, none⟩ u).setCell ⟨w.heap.size, 0, none⟩ u0).setCell ⟨w.heap.size, 1, none⟩ u1).setCell ⟨w.heap.size, 2, none⟩ u2) := fun u u0 u1 u2 =>
    ((((hC1.trans (Chg.setCell (O := fun k => k = p) w1 ⟨p, 0, none⟩ u rfl)).trans (Chg.setCell (O := fun k => k = w.heap.size) _ ⟨w.heap.size, 0, none⟩ u0 rfl)).trans (Chg.setCell (O := fun k => k = w.heap.size) _ ⟨w.heap.size, 1, none⟩ u1 rfl)).trans (Chg.setCell (O := fun k => k = w.heap.size) _ ⟨w.heap.size, 2, none⟩ u2 rfl)).mono (fun k hk hq => by
      rcases hq with (((hq | hq) | hq) | hq) | hq
      · exact Or.inr hq
      · exact Or.inl hq.1
      · omega
      · omega
      · omega)
  have hR0 : kTh.R 75 w1 0 (fun k => (O k ∧ k < w.heap.size) ∨ w.heap.size ≤ k) (Value.slice A1 (xs.length + 1) c1) (xs ++ [x]) := by
    have h_ := hrow
    rw [show (xs ++ [x]).length = xs.length + 1 by simp] at h_
    exact h_
  have hE : ∀ q, q ∈ 75 :: kTh.E → q ≠ 32 := by decide
  have hE2 : ∀ q, q ∈ 75 :: kTh.E → q ≠ 52 := by decide
  refine ⟨⟨Value.slice A1 (xs.length + 1) c1, _, _, HH.out.push (hC2 _ _ _ _) ?_ ?_ HT.out HQ.out ?_⟩, (hC2 _ _ _ _).mono (fun k _ hk => ?_)⟩
  · exact blk_far (p := ⟨w.heap.size, 2, none⟩) (blk_far (p := ⟨w.heap.size, 1, none⟩) (blk_far (p := ⟨w.heap.size, 0, none⟩) (blk_put hh 0 _ rfl) hpn _) hpn _) hpn _
  · have hx1 := blk_far (p := ⟨p, 0, none⟩) hx hpw (Value.slice A1 (xs.length + 1) c1)
    exact Kd.R_set (Kd.R_set (Kd.R_set (Kd.R_set hR0 hh hE2 0 _) hx1 hE 0 _) (blk_put hx1 0 _ rfl) hE 1 _) (blk_put (blk_put hx1 0 _ rfl) 1 _ rfl) hE 2 _
  · rcases hat with hat | ⟨b, hb, hle⟩
    · exact Or.inl ((ownLen A1 _ _ _ _).trans hat)
    · exact Or.inr ⟨b, (ownLen A1 _ _ _ _).trans hb, by omega⟩
  · rcases hk with rfl | hk
    · exact HH.out.po
    · exact (HH.out.row_lt hk.symm).2
end
end Go.Proofs.YtjbolkkbehfnmaaDoor.Val
