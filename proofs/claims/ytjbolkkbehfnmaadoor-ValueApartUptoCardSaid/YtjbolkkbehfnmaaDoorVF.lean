/- Contracts of what writes a heap: Push. -/
import Derived.Test.YtjbolkkbehfnmaaDoorVE
namespace Go.Proofs.YtjbolkkbehfnmaaDoor.Val
open Go.RowKit Go.Proofs.YtjbolkkbehfnmaaDoor.PVal Go.Proofs.YtjbolkkbehfnmaaDoorW.PrintWords Go.Proofs.YtjbolkkbehfnmaaDoorW.PrintLast Go.Proofs.YtjbolkkbehfnmaaDoorW.PrintMore
set_option linter.unusedVariables false
set_option linter.unusedSimpArgs false
theorem info32 : (Tryd.prog.info? 32).map (fun i => (i.zero, i.size, i.bytes)) = some (some (.agg #[(.int .i64 0), (.int .i64 0), (.string ⟨#[]⟩)]), k32.sz, 32) := by kernel_rfl
section
variable {w : World} {O : Nat → Prop} {p : Nat} {v : Value} {xs : List (Bool × Nat)} {Os : Nat → Nat → Prop} {D : List Th}
set_option maxHeartbeats 2000000 in
set_option maxRecDepth 100000 in
theorem push_some (h : HPw w O p v xs Os D) {x y : S32} {l : List S32} (hl : arrAt D x = some l) (hmax : l.length < 1000000000000) :
    Calls Tryd.prog 17 #[.pointer (some ⟨p, 0, none⟩), .agg #[.int .i64 x.f0, .int .i64 x.f1, .string x.f2], .agg #[.int .i64 y.f0, .int .i64 y.f1, .string y.f2]] w fun e w' => e = .returned (.bool true) ∧ HP w' (Grow O w w') p (D.set x.f1.toNat (.arr (l ++ [y]))) ∧ Chg O w w' := by
  have h1 := (h.keep (Chg.alloc No w (.cells #[.int .i64 x.f0, .int .i64 x.f1, .string x.f2] 32)) (fun _ _ _ hn => hn)).keep (Chg.alloc No _ (.cells #[.int .i64 y.f0, .int .i64 y.f1, .string y.f2] 32)) (fun _ _ _ hn => hn)
  have H1 := Aside0.mk (array_some h1 hl)
  have HH := Aside0.mk h
  have HT := Aside0.mk (h1.th _ _ (arrAt_some hl).2.2.2)
  clear h h1
  have BX0 := Aside0.mk (new2 w (.cells #[.int .i64 x.f0, .int .i64 x.f1, .string x.f2] 32) (.cells #[.int .i64 y.f0, .int .i64 y.f1, .string y.f2] 32))
  obtain ⟨r, hr⟩ : ∃ r, xs.getD x.f1.toNat (false, 0) = r := ⟨_, rfl⟩
  rw [hr] at H1 HT
  have HR := Aside0.mk hr
  clear hr
  go_enter Tryd.func17, Tryd.ntmps17
  go_wp2_with (first
    | (go_at_call 33; refine H1.out.mono ?_; rintro e w' ⟨rfl, hb⟩; obtain ⟨q1, q2, sv, hblk, hrow⟩ := HT.out.step (fun k _ hk => hb.block k hk); have hc : w'.cell? ⟨r.2, 0, none⟩ = some sv := (blk_cell hblk 0).trans rfl; have HQ := Aside0.mk (And.intro q1 (And.intro q2 (And.intro hrow hblk))); clear q1 q2 hrow hblk; have bx := blk_below BX0.out hb; obtain ⟨⟨b0, b1, b2⟩, f0, f1, f2⟩ := box3 bx; clear bx; have HB := Aside0.mk hb; clear hb))
  have HN : Aside0 (some r.2 ≠ sv.ownBlock ∧ some (w.heap.size + 1) ≠ sv.ownBlock) := ⟨Kd.R_ne HQ.out.2.2.1 HQ.out.2.2.2 (by decide), fun e => by have := (HH.out.sub _ _ (HQ.out.2.2.1.1 _ e.symm)).2; omega⟩
  refine start_ (n := 11) (S := fun w' => w'.cell? ⟨r.2, 0, none⟩ = some sv ∧ w'.cell? ⟨w.heap.size + 1, 0, none⟩ = some (.int .i64 y.f0) ∧ w'.cell? ⟨w.heap.size + 1, 1, none⟩ = some (.int .i64 y.f1) ∧ w'.cell? ⟨w.heap.size + 1, 2, none⟩ = some (.string y.f2)) (ds := [10]) #[false, false, false, false, false, false, false, false, false, false, false] (by kernel_rfl) rfl rfl ⟨hc, b0, b1, b2⟩ (fun hHeld => ?_)
  refine pure_ (i := 0) (N := some 16) (v := ?_) (a' := ?_) #[true, false, false, false, false, false, false, false, false, false, false] rfl rfl (by kernel_rfl) (fun _ _ _ h => h) (Or.inl ⟨by rfl, ?_⟩) ?_ ?_
  rotate_left
  · intro w'
    go_simp
    with_reducible rfl
  rotate_left
  · simp only [Act.put, List.setIfInBounds_toArray, List.set_cons_zero, List.set_cons_succ, i64_w, i32_w]
    rfl
  refine pure_ (i := 1) (N := some 17) (v := ?_) (a' := ?_) #[true, true, false, false, false, false, false, false, false, false, false] rfl rfl (by kernel_rfl) (fun _ _ _ h => h) (Or.inl ⟨by rfl, ?_⟩) ?_ ?_
  rotate_left
  · intro w'
    go_simp
    with_reducible rfl
  rotate_left
  · simp only [Act.put, List.setIfInBounds_toArray, List.set_cons_zero, List.set_cons_succ, i64_w, i32_w]
    rfl
  refine pure_ (i := 2) (N := some 18) (v := ?_) (a' := ?_) #[true, true, true, false, false, false, false, false, false, false, false] rfl rfl (by kernel_rfl) (fun _ _ _ h => h) (Or.inl ⟨by rfl, ?_⟩) ?_ ?_
  rotate_left
  · intro w'
    go_simp
    with_reducible rfl
  rotate_left
  · simp only [Act.put, List.setIfInBounds_toArray, List.set_cons_zero, List.set_cons_succ, i64_w, i32_w]
    rfl
  refine pure_ (i := 3) (N := some 19) (v := ?_) (a' := ?_) #[true, true, true, true, false, false, false, false, false, false, false] rfl rfl (by kernel_rfl) (fun _ _ _ h => h) (Or.inl ⟨by rfl, ?_⟩) ?_ ?_
  rotate_left
  · intro w'
    go_simp
    with_reducible rfl
  rotate_left
  · simp only [Act.put, List.setIfInBounds_toArray, List.set_cons_zero, List.set_cons_succ, i64_w, i32_w]
    rfl
  refine take_ (i := 4) (N := some 20) (v := ?_) (a' := ?_) #[true, true, true, true, true, false, false, false, false, false, false] rfl rfl (by kernel_rfl) (fun _ _ _ h => h) (Or.inl ⟨by rfl, ?_⟩) hHeld ?_ ?_
  rotate_left
  · rintro w' ⟨s0, s1, s2, s3⟩
    go_simp
    with_reducible rfl
  rotate_left
  · simp only [Act.put, List.setIfInBounds_toArray, List.set_cons_zero, List.set_cons_succ, i64_w, i32_w]
    rfl
  refine take_ (i := 5) (N := some 21) (v := ?_) (a' := ?_) #[true, true, true, true, true, true, false, false, false, false, false] rfl rfl (by kernel_rfl) (fun _ _ _ h => h) (Or.inl ⟨by rfl, ?_⟩) hHeld ?_ ?_
  rotate_left
  · rintro w' ⟨s0, s1, s2, s3⟩
    go_simp
    with_reducible rfl
  rotate_left
  · simp only [Act.put, List.setIfInBounds_toArray, List.set_cons_zero, List.set_cons_succ, i64_w, i32_w]
    rfl
  refine one_ (i := 6) (N := some 22) #[true, true, true, true, true, true, true, false, false, false, false] rfl rfl (by kernel_rfl) (by decide) (fun K hK => ?_)
  refine value_ (w1 := ?_) (v := ?_) (by rfl) rfl ?_ ?_
  rotate_left 2
  · go_simp
    constructor
    · rfl
    · rfl
  refine hK.out _ _ ⟨cell_alloc hHeld.1 _, cell_alloc hHeld.2.1 _, cell_alloc hHeld.2.2.1 _, cell_alloc hHeld.2.2.2 _⟩ (fun hHeld => ?_)
  clear hK K
  refine norm_ (a' := ?_) ?_ ?_
  rotate_left
  · show Act.put _ (some 22) _ = _
    simp only [Act.put, List.setIfInBounds_toArray, List.set_cons_zero, List.set_cons_succ, i64_w, i32_w]
    rfl
  refine one_ (i := 7) (N := some 23) #[true, true, true, true, true, true, true, true, false, false, false] rfl rfl (by kernel_rfl) (by decide) (fun K hK => ?_)
  obtain ⟨q1, q2, hrow, hblk⟩ := HQ.out
  refine Kd.R_append_step k32 (w0 := w'.drew) 0 (by rfl) (.tmp 20) (.tmp 22) 34 32 (.agg #[(.int .i64 0), (.int .i64 0), (.string ⟨#[]⟩)]) 32 rfl Tryd.underlying34 info32 rfl (by decide) (by omega) sv l y [.int .i64 y.f0, .int .i64 y.f1, .string y.f2] (fun k => Os x.f1.toNat k ∨ w'.drew.heap.size ≤ k) (fun k => (Os x.f1.toNat k ∨ w'.drew.heap.size ≤ k) ∧ some k ≠ sv.ownBlock) rfl rfl (k32_mkM _ _ _ y) (fun _ hk => hk) (fun k hk => Or.inr hk) (Kd.R_mono hrow (fun k hk => Or.inl hk)) (Below.refl _ _) (by omega) (by omega) ?_
  intro v1 w1 hrow1 _ hgrow hat
  obtain ⟨A1, c1, ev1⟩ := Kd.R_slice hrow1
  subst ev1
  refine hK.out _ _ ⟨hgrow.cell (show w'.drew.cell? _ = _ from hc) HN.out.1, hgrow.cell (show w'.drew.cell? _ = _ from b0) HN.out.2, hgrow.cell (show w'.drew.cell? _ = _ from b1) HN.out.2, hgrow.cell (show w'.drew.cell? _ = _ from b2) HN.out.2⟩ (fun hHeld => ?_)
  clear hK K
  refine norm_ (a' := ?_) ?_ ?_
  rotate_left
  · show Act.put _ (some 23) _ = _
    simp only [Act.put, List.setIfInBounds_toArray, List.set_cons_zero, List.set_cons_succ, i64_w, i32_w]
    rfl
  refine pure_ (i := 8) (N := some 24) (v := ?_) (a' := ?_) #[true, true, true, true, true, true, true, true, true, false, false] rfl rfl (by kernel_rfl) (fun _ _ _ h => h) (Or.inl ⟨by rfl, ?_⟩) ?_ ?_
  rotate_left
  · intro w'
    go_simp
    with_reducible rfl
  rotate_left
  · simp only [Act.put, List.setIfInBounds_toArray, List.set_cons_zero, List.set_cons_succ, i64_w, i32_w]
    rfl
  refine pure_ (i := 9) (N := some 25) (v := ?_) (a' := ?_) #[true, true, true, true, true, true, true, true, true, true, false] rfl rfl (by kernel_rfl) (fun _ _ _ h => h) (Or.inl ⟨by rfl, ?_⟩) ?_ ?_
  rotate_left
  · intro w'
    go_simp
    with_reducible rfl
  rotate_left
  · simp only [Act.put, List.setIfInBounds_toArray, List.set_cons_zero, List.set_cons_succ, i64_w, i32_w]
    rfl
  refine last_ (i := 10) (N := none) #[true, true, true, true, true, true, true, true, true, true, true] rfl rfl (by kernel_rfl) (by decide) (fun K hK => ?_)
  have hblk1 : w1.heap[r.2]? = some (.cells #[sv] 65 (0, 0)) := blk_grown (show w'.drew.heap[r.2]? = _ from hblk) hgrow HN.out.1
  have hs1 : w1.cell? ⟨r.2, 0, none⟩ = some sv := hHeld.1
  have hs2 := blk_frozen hblk1 0
  refine skip_ (w1 := ?_) (by rfl) rfl ?_ ?_
  rotate_left
  · go_simp
    rfl
  refine hK.out _ _ ?_
  clear hK K
  refine done_ (by kernel_rfl) ?_
  go_wp2
  go_ret
  have hb1 : Below w.heap.size w w'.drew := below_drew1 (below_step (below_alloc (below_alloc (Below.refl _ _) _) _) HB.out)
  refine ⟨rfl, HH.out.finish (n := x.f1.toNat) hb1 ?_ ?_⟩
  · refine ((Chg.of_grown (O := fun k => some k = sv.ownBlock) hgrow (fun k hk => hk.symm)).trans (Chg.setCell (O := fun k => k = r.2) w1 ⟨r.2, 0, none⟩ _ rfl)).mono (fun k hk hq => ?_)
    rcases hq with hq | hq
    · exact hrow.1 k hq.symm
    · rw [hq.1]; exact q2
  · rw [HR.out]
    exact ⟨q1, Or.inl q2, _, blk_put hblk1 0 _ rfl, by have h_ := Kd.R_set hrow1 hblk1 (by decide) 0 (Value.slice A1 (l.length + 1) c1); rw [show (l ++ [y]).length = l.length + 1 by simp] at h_; exact h_⟩
end
end Go.Proofs.YtjbolkkbehfnmaaDoor.Val
