/- HZ, as this claim needs it. -/
import Derived.Test.YtjcajpkgamolkaaDoorHXq
import Derived.Test.YtjcajpkgamolkaaDoorHLq
import Derived.Test.YtjcajpkgamolkaaDoorHIq
namespace Go.Proofs.YtjcajpkgamolkaaDoor.Ty
open Go.RowKit Go.Proofs.YtjcajpkgamolkaaDoor.PTyp Go.Proofs.YtjcajpkgamolkaaDoorW.PrintWords Go.Proofs.YtjcajpkgamolkaaDoorW.PrintLast Go.Proofs.YtjcajpkgamolkaaDoorW.PrintMore
set_option linter.unusedVariables false
set_option linter.unusedSimpArgs false
theorem same_ev (a : Ty) (wa : wT a ≤ 1099511627776) : Ev (fun k => gussetlaw14_same.f k a.f0 a.f1 a.f2 a.f3 a.f0 a.f1 a.f2 a.f3) true := by
  unfold gussetlaw14_same.f
  refine Ev.bind (f := fun k _ => _) (rcmp_ev a a wa wa) ?_
  rw [cmpT_self]
  exact Ev.now _
set_option maxHeartbeats 4000000 in
set_option maxRecDepth 100000 in
theorem checks_calls (t : Ty) (hg : rngT t = true) (hz : zT t ≤ 8796093022208) (A2 : Option Addr) (c2 : Nat) (A3 : Option Addr) (c3 : Nat) (w : World) [GW w] (hr : RowsT w t A2 c2 A3 c3) : Calls Tryd.prog 3 #[.agg #[.int .i64 t.f0, .int .i64 t.f1, .slice A2 t.f2.length c2, .slice A3 t.f3.length c3]] w fun e w' => e = .returned (.bool true) ∧ Below w.heap.size w w' := by
  have hu25 := Tryd.underlying25
  have wt : wT t ≤ 1099511627776 := by have := wT8_le_z t; omega
  obtain ⟨kkt, hK⟩ := twin_ev t wt
  have Et := Aside0.mk (hK kkt (Nat.le_refl _))
  clear hK
  obtain ⟨kkc, hK⟩ := check_ev t wt
  have Ec := Aside0.mk (hK kkc (Nat.le_refl _))
  clear hK
  obtain ⟨kkd, hK⟩ := rcheck_ev t wt
  have Ed := Aside0.mk (hK kkd (Nat.le_refl _))
  clear hK
  obtain ⟨kks, hK⟩ := size_ev t wt
  have Es := Aside0.mk (hK kks (Nat.le_refl _))
  clear hK
  obtain ⟨kkr, hK⟩ := rsize_ev t wt
  have Er := Aside0.mk (hK kkr (Nat.le_refl _))
  clear hK
  obtain ⟨kkh, hK⟩ := show_ev t hg hz
  have Eh := Aside0.mk (hK kkh (Nat.le_refl _))
  clear hK
  obtain ⟨kkg, hK⟩ := rshow_ev t hg hz
  have Eg := Aside0.mk (hK kkg (Nat.le_refl _))
  clear hK
  obtain ⟨kka, hK⟩ := same_ev t wt
  have Ea := Aside0.mk (hK kka (Nat.le_refl _))
  clear hK
  have HR := Aside0.mk hr
  clear hr hg hz wt
  have HB0 := Aside0.mk (below_alloc (Below.refl w.heap.size w) (.cells #[.int .i64 t.f0, .int .i64 t.f1, .slice A2 t.f2.length c2, .slice A3 t.f3.length c3] 25))
  have B0 := Aside0.mk (heap_alloc_new w (.cells #[.int .i64 t.f0, .int .i64 t.f1, .slice A2 t.f2.length c2, .slice A3 t.f3.length c3] 25))
  go_enter Tryd.func3, Tryd.ntmps3
  obtain ⟨⟨t0, t1, t2, t3⟩, _⟩ := box4T B0.out
  have rt := HR.out.below HB0.out
  go_wp2_with (go_at_call 12; refine holdT_ ?_)
  unfold HeldT
  refine (gussetlaw14_Twin.calls kkt _ _ _ _ _ _ _ _ _ _ _ _ _ rt.2.1 rt.1 rt.2.2.2 rt.2.2.1 Et.out).mono ?_
  rintro e w1 ⟨v2, v3, rfl, h2, h3, hb⟩
  obtain ⟨M2, m2, e2, l2, g2⟩ := Kd.R_reads h2
  obtain ⟨M3, m3, e3, l3, g3⟩ := Kd.R_reads h3
  subst e2
  subst e3
  clear t0 t1 t2 t3 h2 h3 rt
  go_upto_region 2 with (fail)
  have BM := Aside0.mk (heap_alloc_new w1 (.cells #[.int .i64 t.f0, .int .i64 t.f1, .slice M2 t.f2.length m2, .slice M3 t.f3.length m3] 25))
  have BT := Aside0.mk (blk_alloc (blk_below B0.out hb) (.cells #[.int .i64 t.f0, .int .i64 t.f1, .slice M2 t.f2.length m2, .slice M3 t.f3.length m3] 25))
  have HB1 := Aside0.mk (below_alloc (below_step HB0.out hb) (.cells #[.int .i64 t.f0, .int .i64 t.f1, .slice M2 t.f2.length m2, .slice M3 t.f3.length m3] 25))
  have RM : Aside0 (RowsT (w1.alloc (.cells #[.int .i64 t.f0, .int .i64 t.f1, .slice M2 t.f2.length m2, .slice M3 t.f3.length m3] 25)) t M2 m2 M3 m3) := ⟨RowsT.below (W := w1) ⟨l2, g2, l3, g3⟩ (below_alloc (Below.refl _ _) _)⟩
  have RT := Aside0.mk (HR.out.below HB1.out)
  clear hb B0 HB0 l2 g2 l3 g3
  generalize w1.alloc (.cells #[.int .i64 t.f0, .int .i64 t.f1, .slice M2 t.f2.length m2, .slice M3 t.f3.length m3] 25) = w2 at *
  generalize w1.heap.size = gm at *
  obtain ⟨⟨t0, t1, t2, t3⟩, _⟩ := box4T BT.out
  obtain ⟨⟨m0, m1, n2, n3⟩, _⟩ := box4T BM.out
  refine start_ (n := 28) (S := fun w' => w'.cell? ⟨w.heap.size, 0, none⟩ = some (.int .i64 t.f0) ∧ w'.cell? ⟨w.heap.size, 1, none⟩ = some (.int .i64 t.f1) ∧ w'.cell? ⟨w.heap.size, 2, none⟩ = some (.slice A2 t.f2.length c2) ∧ w'.cell? ⟨w.heap.size, 3, none⟩ = some (.slice A3 t.f3.length c3) ∧ w'.cell? ⟨gm, 0, none⟩ = some (.int .i64 t.f0) ∧ w'.cell? ⟨gm, 1, none⟩ = some (.int .i64 t.f1) ∧ w'.cell? ⟨gm, 2, none⟩ = some (.slice M2 t.f2.length m2) ∧ w'.cell? ⟨gm, 3, none⟩ = some (.slice M3 t.f3.length m3)) (ds := []) #[false, false, false, false, false, false, false, false, false, false, false, false, false, false, false, false, false, false, false, false, false, false, false, false, false, false, false, false] (by kernel_rfl) rfl rfl ⟨t0, t1, t2, t3, m0, m1, n2, n3⟩ (fun hHeld => ?_)
  refine take_ (i := 0) (N := some 6) (v := ?_) (a' := ?_) #[true, false, false, false, false, false, false, false, false, false, false, false, false, false, false, false, false, false, false, false, false, false, false, false, false, false, false, false] rfl rfl (by kernel_rfl) (fun _ _ _ h => h) (Or.inl ⟨by rfl, ?_⟩) hHeld ?_ ?_
  rotate_left
  · rintro w' ⟨s0, s1, s2, s3, s4, s5, s6, s7⟩
    go_simp
    with_reducible rfl
  rotate_left
  · simp only [Act.put, List.setIfInBounds_toArray, List.set_cons_zero, List.set_cons_succ, i64_w, i32_w]
    rfl
  refine take_ (i := 2) (N := some 8) (v := ?_) (a' := ?_) #[true, false, true, false, false, false, false, false, false, false, false, false, false, false, false, false, false, false, false, false, false, false, false, false, false, false, false, false] rfl rfl (by kernel_rfl) (fun _ _ _ h => h) (Or.inl ⟨by rfl, ?_⟩) hHeld ?_ ?_
  rotate_left
  · rintro w' ⟨s0, s1, s2, s3, s4, s5, s6, s7⟩
    go_simp
    with_reducible rfl
  rotate_left
  · simp only [Act.put, List.setIfInBounds_toArray, List.set_cons_zero, List.set_cons_succ, i64_w, i32_w]
    rfl
  refine one_ (i := 1) (N := some 7) #[true, true, true, false, false, false, false, false, false, false, false, false, false, false, false, false, false, false, false, false, false, false, false, false, false, false, false, false] rfl rfl (by kernel_rfl) (by decide) (fun K hK => ?_)
  refine call_ 13 #[.agg #[.int .i64 t.f0, .int .i64 t.f1, .slice M2 t.f2.length m2, .slice M3 t.f3.length m3]] (by rfl) rfl ?_ ?_
  · go_simp
    try rfl
  have HBq := Aside0.mk (below_drew1 HB1.out)
  have RMq := Aside0.mk (RM.out.below (below_drew1 (Below.refl _ _)))
  have RTq := Aside0.mk (RT.out.below (below_drew1 (Below.refl _ _)))
  haveI := GW.of (w := w) HBq.out
  refine (types_Check.calls kkc _ _ _ _ _ _ _ _ _ _ RMq.out.2.1 RMq.out.1 RMq.out.2.2.2 RMq.out.2.2.1 Ec.out).mono ?_
  rintro e w3 ⟨rfl, hb⟩
  refine ⟨_, rfl, ?_⟩
  have HBp := Aside0.mk (below_step HBq.out hb)
  have RMp := Aside0.mk (RMq.out.below hb)
  have RTp := Aside0.mk (RTq.out.below hb)
  clear HBq RMq RTq
  have HBq := HBp
  have RMq := RMp
  have RTq := RTp
  clear HBp RMp RTp
  refine hK.out _ _ ⟨pw_cell_below hb hHeld.1, pw_cell_below hb hHeld.2.1, pw_cell_below hb hHeld.2.2.1, pw_cell_below hb hHeld.2.2.2.1, pw_cell_below hb hHeld.2.2.2.2.1, pw_cell_below hb hHeld.2.2.2.2.2.1, pw_cell_below hb hHeld.2.2.2.2.2.2.1, pw_cell_below hb hHeld.2.2.2.2.2.2.2⟩ (fun hHeld => ?_)
  clear hK K
  refine norm_ (a' := ?_) ?_ ?_
  rotate_left
  · show Act.put _ (some 7) _ = _
    simp only [Act.put, List.setIfInBounds_toArray, List.set_cons_zero, List.set_cons_succ, i64_w, i32_w]
    rfl
  clear hb
  refine one_ (i := 3) (N := some 9) #[true, true, true, true, false, false, false, false, false, false, false, false, false, false, false, false, false, false, false, false, false, false, false, false, false, false, false, false] rfl rfl (by kernel_rfl) (by decide) (fun K hK => ?_)
  refine call_ 14 #[.agg #[.int .i64 t.f0, .int .i64 t.f1, .slice A2 t.f2.length c2, .slice A3 t.f3.length c3]] (by rfl) rfl ?_ ?_
  · go_simp
    try rfl
  haveI := GW.of (w := w) HBq.out
  refine (gussetref14_Check.calls kkd _ _ _ _ _ _ _ _ _ _ RTq.out.2.1 RTq.out.1 RTq.out.2.2.2 RTq.out.2.2.1 Ed.out).mono ?_
  rintro e w4 ⟨rfl, hb⟩
  refine ⟨_, rfl, ?_⟩
  have HBp := Aside0.mk (below_step HBq.out hb)
  have RMp := Aside0.mk (RMq.out.below hb)
  have RTp := Aside0.mk (RTq.out.below hb)
  clear HBq RMq RTq
  have HBq := HBp
  have RMq := RMp
  have RTq := RTp
  clear HBp RMp RTp
  refine hK.out _ _ ⟨pw_cell_below hb hHeld.1, pw_cell_below hb hHeld.2.1, pw_cell_below hb hHeld.2.2.1, pw_cell_below hb hHeld.2.2.2.1, pw_cell_below hb hHeld.2.2.2.2.1, pw_cell_below hb hHeld.2.2.2.2.2.1, pw_cell_below hb hHeld.2.2.2.2.2.2.1, pw_cell_below hb hHeld.2.2.2.2.2.2.2⟩ (fun hHeld => ?_)
  clear hK K
  refine norm_ (a' := ?_) ?_ ?_
  rotate_left
  · show Act.put _ (some 9) _ = _
    simp only [Act.put, List.setIfInBounds_toArray, List.set_cons_zero, List.set_cons_succ, i64_w, i32_w]
    rfl
  clear hb
  refine pure_ (i := 4) (N := some 10) (v := ?_) (a' := ?_) #[true, true, true, true, true, false, false, false, false, false, false, false, false, false, false, false, false, false, false, false, false, false, false, false, false, false, false, false] rfl rfl (by kernel_rfl) (fun _ _ _ h => h) (Or.inl ⟨by rfl, ?_⟩) ?_ ?_
  rotate_left
  · intro w'
    go_simp
    with_reducible rfl
  rotate_left
  · simp only [Act.put, List.setIfInBounds_toArray, List.set_cons_zero, List.set_cons_succ, i64_w, i32_w]
    rfl
  refine pure_ (i := 5) (N := some 11) (v := ?_) (a' := ?_) #[true, true, true, true, true, true, false, false, false, false, false, false, false, false, false, false, false, false, false, false, false, false, false, false, false, false, false, false] rfl rfl (by kernel_rfl) (fun _ _ _ h => h) (Or.inl ⟨by rfl, ?_⟩) ?_ ?_
  rotate_left
  · intro w'
    go_simp
    with_reducible rfl
  rotate_left
  · simp only [Act.put, List.setIfInBounds_toArray, List.set_cons_zero, List.set_cons_succ, i64_w, i32_w]
    rfl
  refine take_ (i := 6) (N := some 12) (v := ?_) (a' := ?_) #[true, true, true, true, true, true, true, false, false, false, false, false, false, false, false, false, false, false, false, false, false, false, false, false, false, false, false, false] rfl rfl (by kernel_rfl) (fun _ _ _ h => h) (Or.inl ⟨by rfl, ?_⟩) hHeld ?_ ?_
  rotate_left
  · rintro w' ⟨s0, s1, s2, s3, s4, s5, s6, s7⟩
    go_simp
    with_reducible rfl
  rotate_left
  · simp only [Act.put, List.setIfInBounds_toArray, List.set_cons_zero, List.set_cons_succ, i64_w, i32_w]
    rfl
  refine take_ (i := 8) (N := some 14) (v := ?_) (a' := ?_) #[true, true, true, true, true, true, true, false, true, false, false, false, false, false, false, false, false, false, false, false, false, false, false, false, false, false, false, false] rfl rfl (by kernel_rfl) (fun _ _ _ h => h) (Or.inl ⟨by rfl, ?_⟩) hHeld ?_ ?_
  rotate_left
  · rintro w' ⟨s0, s1, s2, s3, s4, s5, s6, s7⟩
    go_simp
    with_reducible rfl
  rotate_left
  · simp only [Act.put, List.setIfInBounds_toArray, List.set_cons_zero, List.set_cons_succ, i64_w, i32_w]
    rfl
  refine one_ (i := 7) (N := some 13) #[true, true, true, true, true, true, true, true, true, false, false, false, false, false, false, false, false, false, false, false, false, false, false, false, false, false, false, false] rfl rfl (by kernel_rfl) (by decide) (fun K hK => ?_)
  refine call_ 15 #[.agg #[.int .i64 t.f0, .int .i64 t.f1, .slice M2 t.f2.length m2, .slice M3 t.f3.length m3]] (by rfl) rfl ?_ ?_
  · go_simp
    try rfl
  haveI := GW.of (w := w) HBq.out
  refine (types_Size.calls kks _ _ _ _ _ _ _ _ _ _ RMq.out.2.1 RMq.out.1 RMq.out.2.2.2 RMq.out.2.2.1 Es.out).mono ?_
  rintro e w5 ⟨rfl, hb⟩
  refine ⟨_, rfl, ?_⟩
  have HBp := Aside0.mk (below_step HBq.out hb)
  have RMp := Aside0.mk (RMq.out.below hb)
  have RTp := Aside0.mk (RTq.out.below hb)
  clear HBq RMq RTq
  have HBq := HBp
  have RMq := RMp
  have RTq := RTp
  clear HBp RMp RTp
  refine hK.out _ _ ⟨pw_cell_below hb hHeld.1, pw_cell_below hb hHeld.2.1, pw_cell_below hb hHeld.2.2.1, pw_cell_below hb hHeld.2.2.2.1, pw_cell_below hb hHeld.2.2.2.2.1, pw_cell_below hb hHeld.2.2.2.2.2.1, pw_cell_below hb hHeld.2.2.2.2.2.2.1, pw_cell_below hb hHeld.2.2.2.2.2.2.2⟩ (fun hHeld => ?_)
  clear hK K
  refine norm_ (a' := ?_) ?_ ?_
  rotate_left
  · show Act.put _ (some 13) _ = _
    simp only [Act.put, List.setIfInBounds_toArray, List.set_cons_zero, List.set_cons_succ, i64_w, i32_w]
    rfl
  clear hb
  refine one_ (i := 9) (N := some 15) #[true, true, true, true, true, true, true, true, true, true, false, false, false, false, false, false, false, false, false, false, false, false, false, false, false, false, false, false] rfl rfl (by kernel_rfl) (by decide) (fun K hK => ?_)
  refine call_ 16 #[.agg #[.int .i64 t.f0, .int .i64 t.f1, .slice A2 t.f2.length c2, .slice A3 t.f3.length c3]] (by rfl) rfl ?_ ?_
  · go_simp
    try rfl
  haveI := GW.of (w := w) HBq.out
  refine (gussetref14_Size.calls kkr _ _ _ _ _ _ _ _ _ _ RTq.out.2.1 RTq.out.1 RTq.out.2.2.2 RTq.out.2.2.1 Er.out).mono ?_
  rintro e w6 ⟨rfl, hb⟩
  refine ⟨_, rfl, ?_⟩
  have HBp := Aside0.mk (below_step HBq.out hb)
  have RMp := Aside0.mk (RMq.out.below hb)
  have RTp := Aside0.mk (RTq.out.below hb)
  clear HBq RMq RTq
  have HBq := HBp
  have RMq := RMp
  have RTq := RTp
  clear HBp RMp RTp
  refine hK.out _ _ ⟨pw_cell_below hb hHeld.1, pw_cell_below hb hHeld.2.1, pw_cell_below hb hHeld.2.2.1, pw_cell_below hb hHeld.2.2.2.1, pw_cell_below hb hHeld.2.2.2.2.1, pw_cell_below hb hHeld.2.2.2.2.2.1, pw_cell_below hb hHeld.2.2.2.2.2.2.1, pw_cell_below hb hHeld.2.2.2.2.2.2.2⟩ (fun hHeld => ?_)
  clear hK K
  refine norm_ (a' := ?_) ?_ ?_
  rotate_left
  · show Act.put _ (some 15) _ = _
    simp only [Act.put, List.setIfInBounds_toArray, List.set_cons_zero, List.set_cons_succ, i64_w, i32_w]
    rfl
  clear hb
  refine pure_ (i := 10) (N := some 16) (v := ?_) (a' := ?_) #[true, true, true, true, true, true, true, true, true, true, true, false, false, false, false, false, false, false, false, false, false, false, false, false, false, false, false, false] rfl rfl (by kernel_rfl) (fun _ _ _ h => h) (Or.inl ⟨by rfl, ?_⟩) ?_ ?_
  rotate_left
  · intro w'
    go_simp
    with_reducible rfl
  rotate_left
  · simp only [Act.put, List.setIfInBounds_toArray, List.set_cons_zero, List.set_cons_succ, i64_w, i32_w]
    rfl
  refine pure_ (i := 11) (N := some 17) (v := ?_) (a' := ?_) #[true, true, true, true, true, true, true, true, true, true, true, true, false, false, false, false, false, false, false, false, false, false, false, false, false, false, false, false] rfl rfl (by kernel_rfl) (fun _ _ _ h => h) (Or.inl ⟨by rfl, ?_⟩) ?_ ?_
  rotate_left
  · intro w'
    go_simp
    with_reducible rfl
  rotate_left
  · simp only [Act.put, List.setIfInBounds_toArray, List.set_cons_zero, List.set_cons_succ, i64_w, i32_w]
    rfl
  refine pure_ (i := 12) (N := some 18) (v := ?_) (a' := ?_) #[true, true, true, true, true, true, true, true, true, true, true, true, true, false, false, false, false, false, false, false, false, false, false, false, false, false, false, false] rfl rfl (by kernel_rfl) (fun _ _ _ h => h) (Or.inl ⟨by rfl, ?_⟩) ?_ ?_
  rotate_left
  · intro w'
    go_simp
    with_reducible rfl
  rotate_left
  · simp only [Act.put, List.setIfInBounds_toArray, List.set_cons_zero, List.set_cons_succ, i64_w, i32_w]
    rfl
  refine take_ (i := 13) (N := some 19) (v := ?_) (a' := ?_) #[true, true, true, true, true, true, true, true, true, true, true, true, true, true, false, false, false, false, false, false, false, false, false, false, false, false, false, false] rfl rfl (by kernel_rfl) (fun _ _ _ h => h) (Or.inl ⟨by rfl, ?_⟩) hHeld ?_ ?_
  rotate_left
  · rintro w' ⟨s0, s1, s2, s3, s4, s5, s6, s7⟩
    go_simp
    with_reducible rfl
  rotate_left
  · simp only [Act.put, List.setIfInBounds_toArray, List.set_cons_zero, List.set_cons_succ, i64_w, i32_w]
    rfl
  refine take_ (i := 15) (N := some 21) (v := ?_) (a' := ?_) #[true, true, true, true, true, true, true, true, true, true, true, true, true, true, false, true, false, false, false, false, false, false, false, false, false, false, false, false] rfl rfl (by kernel_rfl) (fun _ _ _ h => h) (Or.inl ⟨by rfl, ?_⟩) hHeld ?_ ?_
  rotate_left
  · rintro w' ⟨s0, s1, s2, s3, s4, s5, s6, s7⟩
    go_simp
    with_reducible rfl
  rotate_left
  · simp only [Act.put, List.setIfInBounds_toArray, List.set_cons_zero, List.set_cons_succ, i64_w, i32_w]
    rfl
  refine one_ (i := 14) (N := some 20) #[true, true, true, true, true, true, true, true, true, true, true, true, true, true, true, true, false, false, false, false, false, false, false, false, false, false, false, false] rfl rfl (by kernel_rfl) (by decide) (fun K hK => ?_)
  refine call_ 17 #[.agg #[.int .i64 t.f0, .int .i64 t.f1, .slice M2 t.f2.length m2, .slice M3 t.f3.length m3]] (by rfl) rfl ?_ ?_
  · go_simp
    try rfl
  haveI := GW.of (w := w) HBq.out
  refine (types_Show.calls kkh _ _ _ _ _ _ _ _ _ _ RMq.out.2.1 RMq.out.1 RMq.out.2.2.2 RMq.out.2.2.1 Eh.out).mono ?_
  rintro e w7 ⟨rfl, hb⟩
  refine ⟨_, rfl, ?_⟩
  have HBp := Aside0.mk (below_step HBq.out hb)
  have RMp := Aside0.mk (RMq.out.below hb)
  have RTp := Aside0.mk (RTq.out.below hb)
  clear HBq RMq RTq
  have HBq := HBp
  have RMq := RMp
  have RTq := RTp
  clear HBp RMp RTp
  refine hK.out _ _ ⟨pw_cell_below hb hHeld.1, pw_cell_below hb hHeld.2.1, pw_cell_below hb hHeld.2.2.1, pw_cell_below hb hHeld.2.2.2.1, pw_cell_below hb hHeld.2.2.2.2.1, pw_cell_below hb hHeld.2.2.2.2.2.1, pw_cell_below hb hHeld.2.2.2.2.2.2.1, pw_cell_below hb hHeld.2.2.2.2.2.2.2⟩ (fun hHeld => ?_)
  clear hK K
  refine norm_ (a' := ?_) ?_ ?_
  rotate_left
  · show Act.put _ (some 20) _ = _
    simp only [Act.put, List.setIfInBounds_toArray, List.set_cons_zero, List.set_cons_succ, i64_w, i32_w]
    rfl
  clear hb
  refine one_ (i := 16) (N := some 22) #[true, true, true, true, true, true, true, true, true, true, true, true, true, true, true, true, true, false, false, false, false, false, false, false, false, false, false, false] rfl rfl (by kernel_rfl) (by decide) (fun K hK => ?_)
  refine call_ 18 #[.agg #[.int .i64 t.f0, .int .i64 t.f1, .slice A2 t.f2.length c2, .slice A3 t.f3.length c3]] (by rfl) rfl ?_ ?_
  · go_simp
    try rfl
  haveI := GW.of (w := w) HBq.out
  refine (gussetref14_Show.calls kkg _ _ _ _ _ _ _ _ _ _ RTq.out.2.1 RTq.out.1 RTq.out.2.2.2 RTq.out.2.2.1 Eg.out).mono ?_
  rintro e w8 ⟨rfl, hb⟩
  refine ⟨_, rfl, ?_⟩
  have HBp := Aside0.mk (below_step HBq.out hb)
  have RMp := Aside0.mk (RMq.out.below hb)
  have RTp := Aside0.mk (RTq.out.below hb)
  clear HBq RMq RTq
  have HBq := HBp
  have RMq := RMp
  have RTq := RTp
  clear HBp RMp RTp
  refine hK.out _ _ ⟨pw_cell_below hb hHeld.1, pw_cell_below hb hHeld.2.1, pw_cell_below hb hHeld.2.2.1, pw_cell_below hb hHeld.2.2.2.1, pw_cell_below hb hHeld.2.2.2.2.1, pw_cell_below hb hHeld.2.2.2.2.2.1, pw_cell_below hb hHeld.2.2.2.2.2.2.1, pw_cell_below hb hHeld.2.2.2.2.2.2.2⟩ (fun hHeld => ?_)
  clear hK K
  refine norm_ (a' := ?_) ?_ ?_
  rotate_left
  · show Act.put _ (some 22) _ = _
    simp only [Act.put, List.setIfInBounds_toArray, List.set_cons_zero, List.set_cons_succ, i64_w, i32_w]
    rfl
  clear hb
  refine pure_ (i := 17) (N := some 23) (v := ?_) (a' := ?_) #[true, true, true, true, true, true, true, true, true, true, true, true, true, true, true, true, true, true, false, false, false, false, false, false, false, false, false, false] rfl rfl (by kernel_rfl) (fun _ _ _ h => h) (Or.inl ⟨by rfl, ?_⟩) ?_ ?_
  rotate_left
  · intro w'
    go_simp
    with_reducible rfl
  rotate_left
  · simp only [Act.put, List.setIfInBounds_toArray, List.set_cons_zero, List.set_cons_succ, i64_w, i32_w]
    rfl
  refine pure_ (i := 18) (N := some 24) (v := ?_) (a' := ?_) #[true, true, true, true, true, true, true, true, true, true, true, true, true, true, true, true, true, true, true, false, false, false, false, false, false, false, false, false] rfl rfl (by kernel_rfl) (fun _ _ _ h => h) (Or.inl ⟨by rfl, ?_⟩) ?_ ?_
  rotate_left
  · intro w'
    go_simp
    with_reducible rfl
  rotate_left
  · simp only [Act.put, List.setIfInBounds_toArray, List.set_cons_zero, List.set_cons_succ, i64_w, i32_w]
    rfl
  refine pure_ (i := 19) (N := some 25) (v := ?_) (a' := ?_) #[true, true, true, true, true, true, true, true, true, true, true, true, true, true, true, true, true, true, true, true, false, false, false, false, false, false, false, false] rfl rfl (by kernel_rfl) (fun _ _ _ h => h) (Or.inl ⟨by rfl, ?_⟩) ?_ ?_
  rotate_left
  · intro w'
    go_simp
    with_reducible rfl
  rotate_left
  · simp only [Act.put, List.setIfInBounds_toArray, List.set_cons_zero, List.set_cons_succ, i64_w, i32_w]
    rfl
  refine take_ (i := 20) (N := some 26) (v := ?_) (a' := ?_) #[true, true, true, true, true, true, true, true, true, true, true, true, true, true, true, true, true, true, true, true, true, false, false, false, false, false, false, false] rfl rfl (by kernel_rfl) (fun _ _ _ h => h) (Or.inl ⟨by rfl, ?_⟩) hHeld ?_ ?_
  rotate_left
  · rintro w' ⟨s0, s1, s2, s3, s4, s5, s6, s7⟩
    go_simp
    with_reducible rfl
  rotate_left
  · simp only [Act.put, List.setIfInBounds_toArray, List.set_cons_zero, List.set_cons_succ, i64_w, i32_w]
    rfl
  refine take_ (i := 21) (N := some 27) (v := ?_) (a' := ?_) #[true, true, true, true, true, true, true, true, true, true, true, true, true, true, true, true, true, true, true, true, true, true, false, false, false, false, false, false] rfl rfl (by kernel_rfl) (fun _ _ _ h => h) (Or.inl ⟨by rfl, ?_⟩) hHeld ?_ ?_
  rotate_left
  · rintro w' ⟨s0, s1, s2, s3, s4, s5, s6, s7⟩
    go_simp
    with_reducible rfl
  rotate_left
  · simp only [Act.put, List.setIfInBounds_toArray, List.set_cons_zero, List.set_cons_succ, i64_w, i32_w]
    rfl
  refine one_ (i := 22) (N := some 28) #[true, true, true, true, true, true, true, true, true, true, true, true, true, true, true, true, true, true, true, true, true, true, true, false, false, false, false, false] rfl rfl (by kernel_rfl) (by decide) (fun K hK => ?_)
  refine call_ 19 #[.agg #[.int .i64 t.f0, .int .i64 t.f1, .slice M2 t.f2.length m2, .slice M3 t.f3.length m3], .agg #[.int .i64 t.f0, .int .i64 t.f1, .slice A2 t.f2.length c2, .slice A3 t.f3.length c3]] (by rfl) rfl ?_ ?_
  · go_simp
    try rfl
  haveI := GW.of (w := w) HBq.out
  refine (gussetlaw14_same.calls kka _ _ _ _ _ _ _ _ _ _ _ _ _ _ _ _ _ _ RMq.out.2.1 RMq.out.1 RMq.out.2.2.2 RMq.out.2.2.1 RTq.out.2.1 RTq.out.1 RTq.out.2.2.2 RTq.out.2.2.1 Ea.out).mono ?_
  rintro e w9 ⟨rfl, hb⟩
  refine ⟨_, rfl, ?_⟩
  have HBp := Aside0.mk (below_step HBq.out hb)
  have RMp := Aside0.mk (RMq.out.below hb)
  have RTp := Aside0.mk (RTq.out.below hb)
  clear HBq RMq RTq
  have HBq := HBp
  have RMq := RMp
  have RTq := RTp
  clear HBp RMp RTp
  refine hK.out _ _ ⟨pw_cell_below hb hHeld.1, pw_cell_below hb hHeld.2.1, pw_cell_below hb hHeld.2.2.1, pw_cell_below hb hHeld.2.2.2.1, pw_cell_below hb hHeld.2.2.2.2.1, pw_cell_below hb hHeld.2.2.2.2.2.1, pw_cell_below hb hHeld.2.2.2.2.2.2.1, pw_cell_below hb hHeld.2.2.2.2.2.2.2⟩ (fun hHeld => ?_)
  clear hK K
  refine norm_ (a' := ?_) ?_ ?_
  rotate_left
  · show Act.put _ (some 28) _ = _
    simp only [Act.put, List.setIfInBounds_toArray, List.set_cons_zero, List.set_cons_succ, i64_w, i32_w]
    rfl
  clear hb
  refine pure_ (i := 23) (N := some 29) (v := ?_) (a' := ?_) #[true, true, true, true, true, true, true, true, true, true, true, true, true, true, true, true, true, true, true, true, true, true, true, true, false, false, false, false] rfl rfl (by kernel_rfl) (fun _ _ _ h => h) (Or.inl ⟨by rfl, ?_⟩) ?_ ?_
  rotate_left
  · intro w'
    go_simp
    with_reducible rfl
  rotate_left
  · simp only [Act.put, List.setIfInBounds_toArray, List.set_cons_zero, List.set_cons_succ, i64_w, i32_w]
    rfl
  refine pure_ (i := 24) (N := some 30) (v := ?_) (a' := ?_) #[true, true, true, true, true, true, true, true, true, true, true, true, true, true, true, true, true, true, true, true, true, true, true, true, true, false, false, false] rfl rfl (by kernel_rfl) (fun _ _ _ h => h) (Or.inl ⟨by rfl, ?_⟩) ?_ ?_
  rotate_left
  · intro w'
    go_simp
    with_reducible rfl
  rotate_left
  · simp only [Act.put, List.setIfInBounds_toArray, List.set_cons_zero, List.set_cons_succ, i64_w, i32_w]
    rfl
  refine one_ (i := 25) (N := some 31) #[true, true, true, true, true, true, true, true, true, true, true, true, true, true, true, true, true, true, true, true, true, true, true, true, true, true, false, false] rfl rfl (by kernel_rfl) (by decide) (fun K hK => ?_)
  refine call_ 20 #[] (by rfl) rfl ?_ ?_
  · go_simp
    try rfl
  haveI := GW.of (w := w) HBq.out
  refine (sure_calls _).mono ?_
  rintro e w10 ⟨rfl, hb⟩
  refine ⟨_, rfl, ?_⟩
  have HBp := Aside0.mk (below_step HBq.out hb)
  have RMp := Aside0.mk (RMq.out.below hb)
  have RTp := Aside0.mk (RTq.out.below hb)
  clear HBq RMq RTq
  have HBq := HBp
  have RMq := RMp
  have RTq := RTp
  clear HBp RMp RTp
  refine hK.out _ _ ⟨pw_cell_below hb hHeld.1, pw_cell_below hb hHeld.2.1, pw_cell_below hb hHeld.2.2.1, pw_cell_below hb hHeld.2.2.2.1, pw_cell_below hb hHeld.2.2.2.2.1, pw_cell_below hb hHeld.2.2.2.2.2.1, pw_cell_below hb hHeld.2.2.2.2.2.2.1, pw_cell_below hb hHeld.2.2.2.2.2.2.2⟩ (fun hHeld => ?_)
  clear hK K
  refine norm_ (a' := ?_) ?_ ?_
  rotate_left
  · show Act.put _ (some 31) _ = _
    simp only [Act.put, List.setIfInBounds_toArray, List.set_cons_zero, List.set_cons_succ, i64_w, i32_w]
    rfl
  clear hb
  refine pure_ (i := 26) (N := some 32) (v := ?_) (a' := ?_) #[true, true, true, true, true, true, true, true, true, true, true, true, true, true, true, true, true, true, true, true, true, true, true, true, true, true, true, false] rfl rfl (by kernel_rfl) (fun _ _ _ h => h) (Or.inl ⟨by rfl, ?_⟩) ?_ ?_
  rotate_left
  · intro w'
    go_simp
    with_reducible rfl
  rotate_left
  · simp only [Act.put, List.setIfInBounds_toArray, List.set_cons_zero, List.set_cons_succ, i64_w, i32_w]
    rfl
  refine pure_ (i := 27) (N := some 2) (v := ?_) (a' := ?_) #[true, true, true, true, true, true, true, true, true, true, true, true, true, true, true, true, true, true, true, true, true, true, true, true, true, true, true, true] rfl rfl (by kernel_rfl) (fun _ _ _ h => h) (Or.inl ⟨by rfl, ?_⟩) ?_ ?_
  rotate_left
  · intro w'
    go_simp
    with_reducible rfl
  rotate_left
  · simp only [Act.put, List.setIfInBounds_toArray, List.set_cons_zero, List.set_cons_succ, i64_w, i32_w]
    rfl
  refine done_ (by kernel_rfl) ?_
  go_wp2
  go_ret
  exact ⟨rfl, HBq.out⟩
end Go.Proofs.YtjcajpkgamolkaaDoor.Ty
