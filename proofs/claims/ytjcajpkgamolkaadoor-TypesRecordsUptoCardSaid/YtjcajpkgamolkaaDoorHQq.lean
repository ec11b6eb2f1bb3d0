/- HQ, as this claim needs it. -/
import Derived.Test.YtjcajpkgamolkaaDoorHOq
import Derived.Test.YtjcajpkgamolkaaDoorHPq
namespace Go.Proofs.YtjcajpkgamolkaaDoor.Ty
open Go.RowKit Go.Proofs.YtjcajpkgamolkaaDoor.PTyp Go.Proofs.YtjcajpkgamolkaaDoorW.PrintWords Go.Proofs.YtjcajpkgamolkaaDoorW.PrintLast Go.Proofs.YtjcajpkgamolkaaDoorW.PrintMore
set_option linter.unusedVariables false
set_option linter.unusedSimpArgs false
theorem record_own {l : List S45} {a : Ty} {E : Int} (hu : recordT (l.map slOf) = (a, E)) {W : World} {A : Option Addr} {c : Nat} (hr : Kd.C k45 W A l.length l) (hc : l.length ≤ c) (hw : wTs (l.map (·.f1)) ≤ 500000000000) (ha : wT a ≤ 1000000000000) :
    Calls Tryd.prog 28 #[.slice A l.length c] W fun e w' => ∃ A2 c2 A3 c3, e = .returned (.tuple #[.agg #[.int .i64 a.f0, .int .i64 a.f1, .slice A2 a.f2.length c2, .slice A3 a.f3.length c3], .int .i64 E]) ∧ RowsT w' a A2 c2 A3 c3 ∧ Sp W.heap.size w'.heap.size (wT a) w' A2 a.f2.length A3 a.f3.length ∧ Below W.heap.size W w' := by
  refine (record_calls A c l W hr hc hw).mono ?_
  rw [hu]
  rintro e w' ⟨v2, v3, rfl, h2, h3, hB⟩
  obtain ⟨A2, c2, A3, c3, e2, e3, hS⟩ := sp_of (wT a) a w' _ _ _ _ (Nat.le_refl _) ha h2 h3
  obtain ⟨B2, d2, f2, l2, g2⟩ := Kd.R_reads h2
  obtain ⟨B3, d3, f3, l3, g3⟩ := Kd.R_reads h3
  rw [e2] at f2; injection f2 with p q r; subst p; subst r
  rw [e3] at f3; injection f3 with p q r; subst p; subst r
  subst e2; subst e3
  exact ⟨A2, c2, A3, c3, rfl, ⟨l2, g2, l3, g3⟩, hS, hB⟩
theorem refrecord_full {l : List S45} {a : Ty} {E : Int} (hu : recordT (l.map slOf) = (a, E)) {W : World} {A : Option Addr} {c : Nat} (hr : Kd.C k45 W A l.length l) (hc : l.length ≤ c) (hw : wTs (l.map (·.f1)) ≤ 500000000000) :
    Calls Tryd.prog 29 #[.slice A l.length c] W fun e w' => ∃ A2 c2 A3 c3, e = .returned (.tuple #[.agg #[.int .i64 a.f0, .int .i64 a.f1, .slice A2 a.f2.length c2, .slice A3 a.f3.length c3], .int .i64 E]) ∧ RowsT w' a A2 c2 A3 c3 ∧ Below W.heap.size W w' := by
  refine (refrecord_calls A c l W hr hc hw).mono ?_
  rw [hu]
  exact fun e w' h => h
theorem record_w {l : List S45} {a : Ty} {E : Int} (h : recordT (l.map slOf) = (a, E)) (hw : wTs (l.map (·.f1)) ≤ 400000000000) : wT a ≤ 1000000000000 := by
  have hl := wTs_len (l.map (·.f1))
  rw [List.length_map] at hl
  have hz : wT zeroT = 1 := by decide +kernel
  have hs : wTs ((normS (l.map slOf)).map (·.2)) = wTs (l.map (·.f1)) := by
    have hp : (normS (l.map slOf)).Perm (l.map slOf) := by
      have : ∀ (m l : List Sl), (m.foldl insS l).Perm (m ++ l) := by
        intro m
        induction m with
        | nil => intro l; exact List.Perm.refl _
        | cons t m ih => intro l; rw [List.foldl_cons]; exact (ih _).trans ((List.Perm.append_left m (insS_perm l t)).trans List.perm_middle)
      have := this (l.map slOf) []
      rwa [List.append_nil] at this
    have hq : ∀ {a b : List Ty}, a.Perm b → wTs a = wTs b := by
      intro a b h
      induction h with
      | nil => rfl
      | cons x _ ih => rw [wTs_cons, wTs_cons, ih]
      | swap x y l => rw [wTs_cons, wTs_cons, wTs_cons, wTs_cons]; omega
      | trans _ _ i1 i2 => rw [i1, i2]
    rw [hq (hp.map (·.2)), List.map_map]
    rfl
  have hn : ((normS (l.map slOf)).map (·.1)).length = l.length := by rw [List.length_map, normS_len, List.length_map]
  unfold recordT at h
  repeat' split at h
  all_goals (obtain ⟨rfl, _⟩ := Prod.mk.inj h)
  · omega
  · omega
  · rw [wT_is]
    show 1 + ((normS (l.map slOf)).map (·.1)).length + wTs ((normS (l.map slOf)).map (·.2)) ≤ _
    omega
set_option maxHeartbeats 4000000 in
set_option maxRecDepth 100000 in
theorem records_calls (A0 : Option Addr) (c0 : Nat) (l : List S45) (w : World) [GW w] (hr : Kd.C k45 w A0 l.length l) (hc : l.length ≤ c0) (hw : wTs (l.map (·.f1)) ≤ 400000000000) :
    Calls Tryd.prog 6 #[.slice A0 l.length c0] w fun e w' => e = .returned (.bool true) ∧ Below w.heap.size w w' := by
  have hu25 := Tryd.underlying25
  have hu45 := Tryd.underlying45
  obtain ⟨a, E, hu⟩ : ∃ a E, recordT (l.map slOf) = (a, E) := ⟨_, _, rfl⟩
  have HR := Aside0.mk hr
  have HU := Aside0.mk hu
  have HW := Aside0.mk (show wTs (l.map (·.f1)) ≤ 500000000000 by omega)
  have HWA := Aside0.mk (record_w hu hw)
  have HC := Aside0.mk hc
  have hnl : l.length ≤ 400000000000 := by have := wTs_len (l.map (·.f1)); rw [List.length_map] at this; omega
  have HB0 := Aside0.mk (Below.refl w.heap.size w)
  obtain ⟨Ka, hKa⟩ := same_ev5 a (by have := HWA.out; omega)
  have EA := Aside0.mk (hKa Ka (Nat.le_refl _))
  clear hr hu hw hc hKa
  go_enter Tryd.func6, Tryd.ntmps6
  go_wp2
  go_loopw [3, 4] (fun v3 v4 W => ∃ (i : Nat) (u3 : Value), v4 = .int .i64 i ∧ i ≤ l.length ∧ v3 = u3 ∧ Aside0 (Below w.heap.size w W) ∧ Aside0 (k45.R 45 W w.heap.size (fun _ => True) u3 (l.take i))) (fun _ v4 _ => l.length + 1 - (RowKit.intOf v4).toNat)
  case atStart => exact ⟨0, .slice none 0 0, rfl, Nat.zero_le _, rfl, HB0, ⟨Kd.R_nil _ _ _ _ _⟩⟩
  case round =>
    clear HB0
    obtain ⟨i, u3, rfl, hin, rfl, HB, R3⟩ := hrel
    have hge : ((0 : Int) ≤ (i : Int)) = True := by simp
    by_cases hi : i < l.length
    · obtain ⟨ad, A2, c2, A3, c3, e, k0, k1, k2, k3, k4, rows⟩ := at_slot HR.out (Below.refl _ _) hi
      have ROWS := Aside0.mk rows
      have HWi : Aside0 (wT l[i].f1 ≤ 500000000000) := ⟨by have := wTs_mem (l := l.map (·.f1)) (List.mem_map_of_mem (List.getElem_mem hi)); have := HW.out; omega⟩
      have HTK : Aside0 (l.take (i + 1) = l.take i ++ [l[i]]) := ⟨List.take_succ_eq_append_getElem hi⟩
      have HLM : Aside0 ((l.take i).length = i) := ⟨by rw [List.length_take]; omega⟩
      have hlt : ((i : Int) < (l.length : Int)) = True := eq_true (by omega)
      clear rows
      obtain ⟨n, t, ht⟩ : ∃ n t, l[i] = ⟨n, t⟩ := ⟨_, _, rfl⟩
      rw [ht] at k0 k1 k2 k3 k4 ROWS HWi HTK
      clear ht
      subst e
      dsimp only at k0 k1 k2 k3 k4 ROWS HWi
      have q0 := pw_cell_below HB.out k0
      have K0 := Aside0.mk k0
      have q1 := pw_cell_below HB.out k1
      have K1 := Aside0.mk k1
      have q2 := pw_cell_below HB.out k2
      have K2 := Aside0.mk k2
      have q3 := pw_cell_below HB.out k3
      have K3 := Aside0.mk k3
      have q4 := pw_cell_below HB.out k4
      have K4 := Aside0.mk k4
      clear k0 k1 k2 k3 k4
      obtain ⟨Kt, hKt⟩ := twin_ev t (by have := HWi.out; omega)
      have ET := Aside0.mk (hKt Kt (Nat.le_refl _))
      clear hKt
      generalize l.take i = M at *
      obtain ⟨Am, cm, em⟩ := Kd.R_slice R3.out
      subst em
      go_upto_region 5 with (fail)
      refine start_ (n := 16) (S := fun w' => w'.cell? (ad.add (i * 5)) = some (.string n) ∧ w'.cell? ⟨(ad.add (i * 5)).block, (ad.add (i * 5)).off + 1, none⟩ = some (.int .i64 t.f0) ∧ w'.cell? ⟨(ad.add (i * 5)).block, (ad.add (i * 5)).off + 1 + 1, none⟩ = some (.int .i64 t.f1) ∧ w'.cell? ⟨(ad.add (i * 5)).block, (ad.add (i * 5)).off + 1 + 2, none⟩ = some (.slice A2 t.f2.length c2) ∧ w'.cell? ⟨(ad.add (i * 5)).block, (ad.add (i * 5)).off + 1 + 3, none⟩ = some (.slice A3 t.f3.length c3)) (ds := []) #[false, false, false, false, false, false, false, false, false, false, false, false, false, false, false, false] (by kernel_rfl) rfl rfl ⟨q0, q1, q2, q3, q4⟩ (fun hHeld => ?_)
      refine pure_ (i := 0) (N := some 16) (v := ?_) (a' := ?_) #[true, false, false, false, false, false, false, false, false, false, false, false, false, false, false, false] rfl rfl (by kernel_rfl) (fun _ _ _ h => h) (Or.inl ⟨by rfl, ?_⟩) ?_ ?_
      rotate_left
      · intro w'
        go_simp
        with_reducible rfl
      rotate_left
      · simp only [Act.put, List.setIfInBounds_toArray, List.set_cons_zero, List.set_cons_succ, i64_w, i32_w]
        rfl
      refine pure_ (i := 1) (N := some 17) (v := ?_) (a' := ?_) #[true, true, false, false, false, false, false, false, false, false, false, false, false, false, false, false] rfl rfl (by kernel_rfl) (fun _ _ _ h => h) (Or.inl ⟨by rfl, ?_⟩) ?_ ?_
      rotate_left
      · intro w'
        go_simp
        with_reducible rfl
      rotate_left
      · simp only [Act.put, List.setIfInBounds_toArray, List.set_cons_zero, List.set_cons_succ, i64_w, i32_w]
        rfl
      refine pure_ (i := 2) (N := some 18) (v := ?_) (a' := ?_) #[true, true, true, false, false, false, false, false, false, false, false, false, false, false, false, false] rfl rfl (by kernel_rfl) (fun _ _ _ h => h) (Or.inl ⟨by rfl, ?_⟩) ?_ ?_
      rotate_left
      · intro w'
        go_simp
        with_reducible rfl
      rotate_left
      · simp only [Act.put, List.setIfInBounds_toArray, List.set_cons_zero, List.set_cons_succ, i64_w, i32_w]
        rfl
      refine pure_ (i := 3) (N := some 19) (v := ?_) (a' := ?_) #[true, true, true, true, false, false, false, false, false, false, false, false, false, false, false, false] rfl rfl (by kernel_rfl) (fun _ _ _ h => h) (Or.inl ⟨by rfl, ?_⟩) ?_ ?_
      rotate_left
      · intro w'
        go_simp
        with_reducible rfl
      rotate_left
      · simp only [Act.put, List.setIfInBounds_toArray, List.set_cons_zero, List.set_cons_succ, i64_w, i32_w]
        rfl
      refine pure_ (i := 4) (N := some 20) (v := ?_) (a' := ?_) #[true, true, true, true, true, false, false, false, false, false, false, false, false, false, false, false] rfl rfl (by kernel_rfl) (fun _ _ _ h => h) (Or.inl ⟨by rfl, ?_⟩) ?_ ?_
      rotate_left
      · intro w'
        go_simp
        with_reducible rfl
      rotate_left
      · simp only [Act.put, List.setIfInBounds_toArray, List.set_cons_zero, List.set_cons_succ, i64_w, i32_w]
        rfl
      refine pure_ (i := 6) (N := some 22) (v := ?_) (a' := ?_) #[true, true, true, true, true, false, true, false, false, false, false, false, false, false, false, false] rfl rfl (by kernel_rfl) (fun _ _ _ h => h) (Or.inl ⟨by rfl, ?_⟩) ?_ ?_
      rotate_left
      · intro w'
        go_simp
        with_reducible rfl
      rotate_left
      · simp only [Act.put, List.setIfInBounds_toArray, List.set_cons_zero, List.set_cons_succ, i64_w, i32_w]
        rfl
      refine pure_ (i := 7) (N := some 23) (v := ?_) (a' := ?_) #[true, true, true, true, true, false, true, true, false, false, false, false, false, false, false, false] rfl rfl (by kernel_rfl) (fun _ _ _ h => h) (Or.inl ⟨by rfl, ?_⟩) ?_ ?_
      rotate_left
      · intro w'
        go_simp
        with_reducible rfl
      rotate_left
      · simp only [Act.put, List.setIfInBounds_toArray, List.set_cons_zero, List.set_cons_succ, i64_w, i32_w]
        rfl
      refine pure_ (i := 8) (N := some 24) (v := ?_) (a' := ?_) #[true, true, true, true, true, false, true, true, true, false, false, false, false, false, false, false] rfl rfl (by kernel_rfl) (fun _ _ _ h => h) (Or.inl ⟨by rfl, ?_⟩) ?_ ?_
      rotate_left
      · intro w'
        go_simp
        with_reducible rfl
      rotate_left
      · simp only [Act.put, List.setIfInBounds_toArray, List.set_cons_zero, List.set_cons_succ, i64_w, i32_w]
        rfl
      refine pure_ (i := 9) (N := some 25) (v := ?_) (a' := ?_) #[true, true, true, true, true, false, true, true, true, true, false, false, false, false, false, false] rfl rfl (by kernel_rfl) (fun _ _ _ h => h) (Or.inl ⟨by rfl, ?_⟩) ?_ ?_
      rotate_left
      · intro w'
        go_simp
        with_reducible rfl
      rotate_left
      · simp only [Act.put, List.setIfInBounds_toArray, List.set_cons_zero, List.set_cons_succ, i64_w, i32_w]
        rfl
      refine take_ (i := 5) (N := some 21) (v := ?_) (a' := ?_) #[true, true, true, true, true, true, true, true, true, true, false, false, false, false, false, false] rfl rfl (by kernel_rfl) (fun _ _ _ h => h) (Or.inl ⟨by rfl, ?_⟩) hHeld ?_ ?_
      rotate_left
      · rintro w' ⟨s0, s1, s2, s3, s4⟩
        go_simp
        with_reducible rfl
      rotate_left
      · simp only [Act.put, List.setIfInBounds_toArray, List.set_cons_zero, List.set_cons_succ, i64_w, i32_w]
        rfl
      refine take_ (i := 10) (N := some 26) (v := ?_) (a' := ?_) #[true, true, true, true, true, true, true, true, true, true, true, false, false, false, false, false] rfl rfl (by kernel_rfl) (fun _ _ _ h => h) (Or.inl ⟨by rfl, ?_⟩) hHeld ?_ ?_
      rotate_left
      · rintro w' ⟨s0, s1, s2, s3, s4⟩
        go_simp
        with_reducible rfl
      rotate_left
      · simp only [Act.put, List.setIfInBounds_toArray, List.set_cons_zero, List.set_cons_succ, i64_w, i32_w]
        rfl
      refine one_ (i := 11) (N := some 27) #[true, true, true, true, true, true, true, true, true, true, true, true, false, false, false, false] rfl rfl (by kernel_rfl) (by decide) (fun K hK => ?_)
      refine call_ 12 #[.agg #[.int .i64 t.f0, .int .i64 t.f1, .slice A2 t.f2.length c2, .slice A3 t.f3.length c3]] (by rfl) rfl ?_ ?_
      · go_simp
        try rfl
      have rt := ROWS.out.below (below_drew1 HB.out)
      refine (gussetlaw14_Twin.calls Kt _ _ _ _ _ _ _ _ _ _ _ _ _ rt.2.1 rt.1 rt.2.2.2 rt.2.2.1 ET.out).mono ?_
      rintro e w1 ⟨v2, v3, rfl, h2, h3, hb⟩
      refine ⟨_, rfl, ?_⟩
      have hb' := below_step (below_drew1 (Below.refl wr.heap.size wr)) hb
      have h2' := Kd.R_mono (Kd.R_bound h2) (ok' := fun k => wr.heap.size ≤ k) (fun k hk => hk.2.1)
      have h3' := Kd.R_mono (Kd.R_bound h3) (ok' := fun k => wr.heap.size ≤ k) (fun k hk => hk.2.1)
      obtain ⟨B2, b2, e2⟩ := Kd.R_slice h2
      obtain ⟨B3, b3, e3⟩ := Kd.R_slice h3
      subst e2
      subst e3
      clear h2 h3 rt
      refine hK.out _ _ ⟨pw_cell_below hb' q0, pw_cell_below hb' q1, pw_cell_below hb' q2, pw_cell_below hb' q3, pw_cell_below hb' q4⟩ (fun hHeld => ?_)
      clear hK K
      refine norm_ (a' := ?_) ?_ ?_
      rotate_left
      · show Act.put _ (some 27) _ = _
        simp only [Act.put, List.setIfInBounds_toArray, List.set_cons_zero, List.set_cons_succ, i64_w, i32_w]
        rfl
      refine pure_ (i := 12) (N := some 28) (v := ?_) (a' := ?_) #[true, true, true, true, true, true, true, true, true, true, true, true, true, false, false, false] rfl rfl (by kernel_rfl) (fun _ _ _ h => h) (Or.inl ⟨by rfl, ?_⟩) ?_ ?_
      rotate_left
      · intro w'
        go_simp
        with_reducible rfl
      rotate_left
      · simp only [Act.put, List.setIfInBounds_toArray, List.set_cons_zero, List.set_cons_succ, i64_w, i32_w]
        rfl
      refine one_ (i := 13) (N := some 29) #[true, true, true, true, true, true, true, true, true, true, true, true, true, true, false, false] rfl rfl (by kernel_rfl) (by decide) (fun K hK => ?_)
      refine value_ (w1 := ?_) (v := ?_) (by rfl) rfl ?_ ?_
      rotate_left 2
      · go_simp
        constructor
        · rfl
        · rfl
      refine hK.out _ _ ⟨pw_cell_below (below_alloc hb' (.cells #[.string n, .int .i64 t.f0, .int .i64 t.f1, .slice B2 t.f2.length b2, .slice B3 t.f3.length b3] 45)) q0, pw_cell_below (below_alloc hb' (.cells #[.string n, .int .i64 t.f0, .int .i64 t.f1, .slice B2 t.f2.length b2, .slice B3 t.f3.length b3] 45)) q1, pw_cell_below (below_alloc hb' (.cells #[.string n, .int .i64 t.f0, .int .i64 t.f1, .slice B2 t.f2.length b2, .slice B3 t.f3.length b3] 45)) q2, pw_cell_below (below_alloc hb' (.cells #[.string n, .int .i64 t.f0, .int .i64 t.f1, .slice B2 t.f2.length b2, .slice B3 t.f3.length b3] 45)) q3, pw_cell_below (below_alloc hb' (.cells #[.string n, .int .i64 t.f0, .int .i64 t.f1, .slice B2 t.f2.length b2, .slice B3 t.f3.length b3] 45)) q4⟩ (fun hHeld => ?_)
      clear hK K
      refine norm_ (a' := ?_) ?_ ?_
      rotate_left
      · show Act.put _ (some 29) _ = _
        simp only [Act.put, List.setIfInBounds_toArray, List.set_cons_zero, List.set_cons_succ, i64_w, i32_w]
        rfl
      refine one_ (i := 14) (N := some 30) #[true, true, true, true, true, true, true, true, true, true, true, true, true, true, true, false] rfl rfl (by kernel_rfl) (by decide) (fun K hK => ?_)
      refine Kd.R_append_step k45 (w0 := w) w.heap.size (by rfl) (.tmp 16) (.tmp 29) 43 45 (.agg #[.string ⟨#[]⟩, .int .i64 0, .int .i64 0, .slice none 0 0, .slice none 0 0]) 80 rfl Tryd.underlying43 info45 rfl (by decide) (by decide) (.slice Am M.length cm) M (⟨n, t⟩ : S45) [.string n, .int .i64 t.f0, .int .i64 t.f1, .slice B2 t.f2.length b2, .slice B3 t.f3.length b3] (fun _ => True) (fun k => wr.heap.size ≤ k) rfl rfl (k45_mkM _ _ _ (⟨n, t⟩ : S45) (Kd.R_lower h2' HB.out.size) (Kd.R_lower h3' HB.out.size)) (fun k hk => ⟨trivial, fun he => by have := (Kd.R_bound R3.out).1 k he.symm; have := this.2.2.1; omega⟩) (fun _ _ => trivial) (Kd.R_below R3.out hb') (below_step HB.out hb') (below_step HB.out hb').size (by have := HLM.out; omega) ?_
      intro v5 w5 ho hb5 hg hat
      rw [← HTK.out] at ho
      refine hK.out _ _ ⟨pw_cell_below hb5 K0.out, pw_cell_below hb5 K1.out, pw_cell_below hb5 K2.out, pw_cell_below hb5 K3.out, pw_cell_below hb5 K4.out⟩ (fun hHeld => ?_)
      clear hK K
      refine norm_ (a' := ?_) ?_ ?_
      rotate_left
      · show Act.put _ (some 30) _ = _
        simp only [Act.put, List.setIfInBounds_toArray, List.set_cons_zero, List.set_cons_succ, i64_w, i32_w]
        rfl
      refine pure_ (i := 15) (N := some 3) (v := ?_) (a' := ?_) #[true, true, true, true, true, true, true, true, true, true, true, true, true, true, true, true] rfl rfl (by kernel_rfl) (fun _ _ _ h => h) (Or.inl ⟨by rfl, ?_⟩) ?_ ?_
      rotate_left
      · intro w'
        go_simp
        with_reducible rfl
      rotate_left
      · simp only [Act.put, List.setIfInBounds_toArray, List.set_cons_zero, List.set_cons_succ, i64_w, i32_w]
        rfl
      refine done_ (by kernel_rfl) ?_
      try go_wp2
      go_roundw
      case measure => simp [RowKit.intOf]; omega
      case rel => exact ⟨i + 1, _, by go_num, hi, rfl, ⟨hb5⟩, ⟨ho⟩⟩
    · obtain rfl : i = l.length := by omega
      have hlt : ((l.length : Int) < (l.length : Int)) = False := by simp
      obtain ⟨M, m, e, lm, gm⟩ := Kd.R_reads R3.out
      rw [List.take_length] at lm gm e
      subst e
      clear R3
      obtain ⟨w1, hw1⟩ : ∃ w1, w1 = wr := ⟨_, rfl⟩
      have HXX := hw1
      have HM := Aside0.mk gm
      have HML := Aside0.mk lm
      have HB1 := HB
      clear HB gm lm hw1 HXX w1
      generalize wr = w1 at *
      go_wp2_with (go_at_call 28; refine holdT_ ?_)
      unfold HeldT
      refine (record_own HU.out HM.out HML.out HW.out HWA.out).mono ?_
      rintro e w2 ⟨A2, a2, A3, a3, rfl, hra, hs, hb⟩
      go_upto_region 7 with (fail)
      have BA : Aside0 ((w2.alloc (.cells #[.int .i64 a.f0, .int .i64 a.f1, .slice A2 a.f2.length a2, .slice A3 a.f3.length a3] 25)).heap[w2.heap.size]? = some (.cells #[.int .i64 a.f0, .int .i64 a.f1, .slice A2 a.f2.length a2, .slice A3 a.f3.length a3] 25 (0, 0))) := ⟨heap_alloc_new w2 _⟩
      have hal := below_alloc (Below.refl w2.heap.size w2) (.cells #[.int .i64 a.f0, .int .i64 a.f1, .slice A2 a.f2.length a2, .slice A3 a.f3.length a3] 25)
      have RA : Aside0 (RowsT (w2.alloc (.cells #[.int .i64 a.f0, .int .i64 a.f1, .slice A2 a.f2.length a2, .slice A3 a.f3.length a3] 25)) a A2 a2 A3 a3) := ⟨hra.below hal⟩
      have HS : Aside0 (Sp w1.heap.size w2.heap.size (wT a) (w2.alloc (.cells #[.int .i64 a.f0, .int .i64 a.f1, .slice A2 a.f2.length a2, .slice A3 a.f3.length a3] 25)) A2 a.f2.length A3 a.f3.length) := ⟨hs.keep (Wr.of_below hal hb.size (Nat.le_refl _))⟩
      have HCm : Aside0 (Below w1.heap.size w1 (w2.alloc (.cells #[.int .i64 a.f0, .int .i64 a.f1, .slice A2 a.f2.length a2, .slice A3 a.f3.length a3] 25))) := ⟨below_step hb hal⟩
      have HB : Aside0 (Below w.heap.size w (w2.alloc (.cells #[.int .i64 a.f0, .int .i64 a.f1, .slice A2 a.f2.length a2, .slice A3 a.f3.length a3] 25))) := ⟨below_step HB1.out HCm.out⟩
      have H12 : Aside0 (w1.heap.size ≤ w2.heap.size) := ⟨hb.size⟩
      have H23 : Aside0 (w2.heap.size < (w2.alloc (.cells #[.int .i64 a.f0, .int .i64 a.f1, .slice A2 a.f2.length a2, .slice A3 a.f3.length a3] 25)).heap.size) := ⟨blk_lt BA.out⟩
      clear hra hs hb hal
      generalize (w2.alloc (.cells #[.int .i64 a.f0, .int .i64 a.f1, .slice A2 a.f2.length a2, .slice A3 a.f3.length a3] 25)) = w3 at *
      go_wp2_with (go_at_call 29; refine holdT_ ?_)
      unfold HeldT
      refine (refrecord_full HU.out (Kd.C_below HR.out HB.out) HC.out HW.out).mono ?_
      rintro e w4 ⟨B2, b2, B3, b3, rfl, hk, hb⟩
      go_upto_region 8 with (fail)
      have BB : Aside0 ((w4.alloc (.cells #[.int .i64 a.f0, .int .i64 a.f1, .slice B2 a.f2.length b2, .slice B3 a.f3.length b3] 25)).heap[w4.heap.size]? = some (.cells #[.int .i64 a.f0, .int .i64 a.f1, .slice B2 a.f2.length b2, .slice B3 a.f3.length b3] 25 (0, 0))) := ⟨heap_alloc_new w4 _⟩
      have hal := below_alloc (Below.refl w4.heap.size w4) (.cells #[.int .i64 a.f0, .int .i64 a.f1, .slice B2 a.f2.length b2, .slice B3 a.f3.length b3] 25)
      have RB : Aside0 (RowsT (w4.alloc (.cells #[.int .i64 a.f0, .int .i64 a.f1, .slice B2 a.f2.length b2, .slice B3 a.f3.length b3] 25)) a B2 b2 B3 b3) := ⟨hk.below hal⟩
      have hbb := below_step hb hal
      have nBA := Aside0.mk (blk_below BA.out hbb)
      have nRA := Aside0.mk (RA.out.below hbb)
      have nHS := Aside0.mk (HS.out.keep (Wr.of_below hbb (Nat.le_trans H12.out (Nat.le_of_lt H23.out)) (Nat.le_of_lt H23.out)))
      have nHC := Aside0.mk (below_step HCm.out hbb)
      have nHB := Aside0.mk (below_step HB.out hbb)
      have H35 : Aside0 (w3.heap.size ≤ (w4.alloc (.cells #[.int .i64 a.f0, .int .i64 a.f1, .slice B2 a.f2.length b2, .slice B3 a.f3.length b3] 25)).heap.size) := ⟨hbb.size⟩
      clear hk hal hb hbb BA RA HS HCm HB
      have BA := nBA
      have RA := nRA
      have HS := nHS
      have HCm := nHC
      have HB := nHB
      clear nBA nRA nHS nHC nHB
      generalize (w4.alloc (.cells #[.int .i64 a.f0, .int .i64 a.f1, .slice B2 a.f2.length b2, .slice B3 a.f3.length b3] 25)) = w5 at *
      have x0 := (blk_cell BA.out 0).trans (show _ = some (.int .i64 a.f0) from rfl)
      have x1 := (blk_cell BA.out 1).trans (show _ = some (.int .i64 a.f1) from rfl)
      have x2 := (blk_cell BA.out 2).trans (show _ = some (.slice A2 a.f2.length a2) from rfl)
      have x3 := (blk_cell BA.out 3).trans (show _ = some (.slice A3 a.f3.length a3) from rfl)
      have y0 := (blk_cell BB.out 0).trans (show _ = some (.int .i64 a.f0) from rfl)
      have y1 := (blk_cell BB.out 1).trans (show _ = some (.int .i64 a.f1) from rfl)
      have y2 := (blk_cell BB.out 2).trans (show _ = some (.slice B2 a.f2.length b2) from rfl)
      have y3 := (blk_cell BB.out 3).trans (show _ = some (.slice B3 a.f3.length b3) from rfl)
      have hEE : (E != E) = false := by simp
      go_wp2_with (go_at_call 19; refine holdT_ ?_)
      unfold HeldT
      refine (gussetlaw14_same.calls Ka _ _ _ _ _ _ _ _ _ _ _ _ _ _ _ _ _ _ RA.out.2.1 RA.out.1 RA.out.2.2.2 RA.out.2.2.1 RB.out.2.1 RB.out.1 RB.out.2.2.2 RB.out.2.2.1 EA.out).mono ?_
      rintro e w6 ⟨rfl, hb⟩
      clear x0 x1 x2 x3 y0 y1 y2 y3
      have nBA := Aside0.mk (blk_below BA.out hb)
      have nHS := Aside0.mk (HS.out.keep (Wr.of_below hb (Nat.le_trans H12.out (Nat.le_trans (Nat.le_of_lt H23.out) H35.out)) (Nat.le_trans (Nat.le_of_lt H23.out) H35.out)))
      have nHC := Aside0.mk (below_step HCm.out hb)
      have nHB := Aside0.mk (below_step HB.out hb)
      have nH35 := Aside0.mk (Nat.le_trans H35.out hb.size)
      clear hb BA RA BB RB HS HCm HB H35
      have BA := nBA
      have HS := nHS
      have HCm := nHC
      have HB := nHB
      have H35 := nH35
      clear nBA nHS nHC nHB nH35
      have x0 := (blk_cell BA.out 0).trans (show _ = some (.int .i64 a.f0) from rfl)
      have x1 := (blk_cell BA.out 1).trans (show _ = some (.int .i64 a.f1) from rfl)
      have x2 := (blk_cell BA.out 2).trans (show _ = some (.slice A2 a.f2.length a2) from rfl)
      have x3 := (blk_cell BA.out 3).trans (show _ = some (.slice A3 a.f3.length a3) from rfl)
      go_wp2_with (go_at_call 27; refine holdT_ ?_)
      unfold HeldT
      refine (spoil_calls w1.heap.size w2.heap.size H12.out (wT a) a.f0 a.f1 A2 a.f2.length a2 A3 a.f3.length a3 w6 (Nat.le_trans (Nat.le_of_lt H23.out) H35.out) HS.out).mono ?_
      rintro e w8 ⟨rfl, hw⟩
      clear x0 x1 x2 x3
      have nHC := Aside0.mk (HCm.out.trans hw.below)
      have nHB := Aside0.mk (HB.out.trans (hw.below.mono HB1.out.size))
      clear hw HCm HB HS BA H35
      have HCm := nHC
      have HB := nHB
      clear nHC nHB
      go_wp2
      go_loopw [9] (fun v9 W => ∃ i : Nat, v9 = .int .i64 i ∧ i ≤ l.length ∧ Aside0 (Below w1.heap.size w1 W) ∧ Aside0 (Below w.heap.size w W)) (fun v9 _ => l.length + 1 - (RowKit.intOf v9).toNat)
      case atStart => exact ⟨0, rfl, Nat.zero_le _, HCm, HB⟩
      case round =>
        clear HCm HB hlt
        obtain ⟨j, rfl, hjn, HCm, HB⟩ := hrel
        have hgj : ((0 : Int) ≤ (j : Int)) = True := by simp
        by_cases hj : j < l.length
        · have hlt : ((j : Int) < (l.length : Int)) = True := eq_true (by omega)
          obtain ⟨ad, A2, c2, A3, c3, e, q0, q1, q2, q3, q4, rows⟩ := at_slot HR.out HB.out hj
          obtain ⟨bd, D2, d2, D3, d3, e', p0, p1, p2, p3, p4, rows'⟩ := at_slot HM.out HCm.out hj
          have ROWS := Aside0.mk (rows.below HB.out)
          have ROWX := Aside0.mk (rows'.below HCm.out)
          have HWi : Aside0 (wT l[j].f1 ≤ 500000000000) := ⟨by have := wTs_mem (l := l.map (·.f1)) (List.mem_map_of_mem (List.getElem_mem hj)); have := HW.out; omega⟩
          clear rows rows'
          obtain ⟨n, t, ht⟩ : ∃ n t, l[j] = ⟨n, t⟩ := ⟨_, _, rfl⟩
          rw [ht] at q0 q1 q2 q3 q4 p0 p1 p2 p3 p4 ROWS ROWX HWi
          clear ht
          subst e
          subst e'
          dsimp only at q0 q1 q2 q3 q4 p0 p1 p2 p3 p4 ROWS ROWX HWi
          obtain ⟨Kt, hKt⟩ := same_ev5 t (by have := HWi.out; omega)
          have ET := Aside0.mk (hKt Kt (Nat.le_refl _))
          clear hKt
          go_upto_region 14 with (fail)
          refine start_ (n := 25) (S := fun w' => w'.cell? (ad.add (j * 5)) = some (.string n) ∧ w'.cell? ⟨(ad.add (j * 5)).block, (ad.add (j * 5)).off + 1, none⟩ = some (.int .i64 t.f0) ∧ w'.cell? ⟨(ad.add (j * 5)).block, (ad.add (j * 5)).off + 1 + 1, none⟩ = some (.int .i64 t.f1) ∧ w'.cell? ⟨(ad.add (j * 5)).block, (ad.add (j * 5)).off + 1 + 2, none⟩ = some (.slice A2 t.f2.length c2) ∧ w'.cell? ⟨(ad.add (j * 5)).block, (ad.add (j * 5)).off + 1 + 3, none⟩ = some (.slice A3 t.f3.length c3) ∧ w'.cell? (bd.add (j * 5)) = some (.string n) ∧ w'.cell? ⟨(bd.add (j * 5)).block, (bd.add (j * 5)).off + 1, none⟩ = some (.int .i64 t.f0) ∧ w'.cell? ⟨(bd.add (j * 5)).block, (bd.add (j * 5)).off + 1 + 1, none⟩ = some (.int .i64 t.f1) ∧ w'.cell? ⟨(bd.add (j * 5)).block, (bd.add (j * 5)).off + 1 + 2, none⟩ = some (.slice D2 t.f2.length d2) ∧ w'.cell? ⟨(bd.add (j * 5)).block, (bd.add (j * 5)).off + 1 + 3, none⟩ = some (.slice D3 t.f3.length d3)) (ds := []) #[false, false, false, false, false, false, false, false, false, false, false, false, false, false, false, false, false, false, false, false, false, false, false, false, false] (by kernel_rfl) rfl rfl ⟨q0, q1, q2, q3, q4, p0, p1, p2, p3, p4⟩ (fun hHeld => ?_)
          refine pure_ (i := 0) (N := some 58) (v := ?_) (a' := ?_) #[true, false, false, false, false, false, false, false, false, false, false, false, false, false, false, false, false, false, false, false, false, false, false, false, false] rfl rfl (by kernel_rfl) (fun _ _ _ h => h) (Or.inl ⟨by rfl, ?_⟩) ?_ ?_
          rotate_left
          · intro w'
            go_simp
            with_reducible rfl
          rotate_left
          · simp only [Act.put, List.setIfInBounds_toArray, List.set_cons_zero, List.set_cons_succ, i64_w, i32_w]
            rfl
          refine pure_ (i := 1) (N := some 59) (v := ?_) (a' := ?_) #[true, true, false, false, false, false, false, false, false, false, false, false, false, false, false, false, false, false, false, false, false, false, false, false, false] rfl rfl (by kernel_rfl) (fun _ _ _ h => h) (Or.inl ⟨by rfl, ?_⟩) ?_ ?_
          rotate_left
          · intro w'
            go_simp
            with_reducible rfl
          rotate_left
          · simp only [Act.put, List.setIfInBounds_toArray, List.set_cons_zero, List.set_cons_succ, i64_w, i32_w]
            rfl
          refine pure_ (i := 2) (N := some 60) (v := ?_) (a' := ?_) #[true, true, true, false, false, false, false, false, false, false, false, false, false, false, false, false, false, false, false, false, false, false, false, false, false] rfl rfl (by kernel_rfl) (fun _ _ _ h => h) (Or.inl ⟨by rfl, ?_⟩) ?_ ?_
          rotate_left
          · intro w'
            go_simp
            with_reducible rfl
          rotate_left
          · simp only [Act.put, List.setIfInBounds_toArray, List.set_cons_zero, List.set_cons_succ, i64_w, i32_w]
            rfl
          refine pure_ (i := 3) (N := some 61) (v := ?_) (a' := ?_) #[true, true, true, true, false, false, false, false, false, false, false, false, false, false, false, false, false, false, false, false, false, false, false, false, false] rfl rfl (by kernel_rfl) (fun _ _ _ h => h) (Or.inl ⟨by rfl, ?_⟩) ?_ ?_
          rotate_left
          · intro w'
            go_simp
            with_reducible rfl
          rotate_left
          · simp only [Act.put, List.setIfInBounds_toArray, List.set_cons_zero, List.set_cons_succ, i64_w, i32_w]
            rfl
          refine pure_ (i := 5) (N := some 63) (v := ?_) (a' := ?_) #[true, true, true, true, false, true, false, false, false, false, false, false, false, false, false, false, false, false, false, false, false, false, false, false, false] rfl rfl (by kernel_rfl) (fun _ _ _ h => h) (Or.inl ⟨by rfl, ?_⟩) ?_ ?_
          rotate_left
          · intro w'
            go_simp
            with_reducible rfl
          rotate_left
          · simp only [Act.put, List.setIfInBounds_toArray, List.set_cons_zero, List.set_cons_succ, i64_w, i32_w]
            rfl
          refine pure_ (i := 6) (N := some 64) (v := ?_) (a' := ?_) #[true, true, true, true, false, true, true, false, false, false, false, false, false, false, false, false, false, false, false, false, false, false, false, false, false] rfl rfl (by kernel_rfl) (fun _ _ _ h => h) (Or.inl ⟨by rfl, ?_⟩) ?_ ?_
          rotate_left
          · intro w'
            go_simp
            with_reducible rfl
          rotate_left
          · simp only [Act.put, List.setIfInBounds_toArray, List.set_cons_zero, List.set_cons_succ, i64_w, i32_w]
            rfl
          refine pure_ (i := 7) (N := some 65) (v := ?_) (a' := ?_) #[true, true, true, true, false, true, true, true, false, false, false, false, false, false, false, false, false, false, false, false, false, false, false, false, false] rfl rfl (by kernel_rfl) (fun _ _ _ h => h) (Or.inl ⟨by rfl, ?_⟩) ?_ ?_
          rotate_left
          · intro w'
            go_simp
            with_reducible rfl
          rotate_left
          · simp only [Act.put, List.setIfInBounds_toArray, List.set_cons_zero, List.set_cons_succ, i64_w, i32_w]
            rfl
          refine pure_ (i := 8) (N := some 66) (v := ?_) (a' := ?_) #[true, true, true, true, false, true, true, true, true, false, false, false, false, false, false, false, false, false, false, false, false, false, false, false, false] rfl rfl (by kernel_rfl) (fun _ _ _ h => h) (Or.inl ⟨by rfl, ?_⟩) ?_ ?_
          rotate_left
          · intro w'
            go_simp
            with_reducible rfl
          rotate_left
          · simp only [Act.put, List.setIfInBounds_toArray, List.set_cons_zero, List.set_cons_succ, i64_w, i32_w]
            rfl
          refine take_ (i := 4) (N := some 62) (v := ?_) (a' := ?_) #[true, true, true, true, true, true, true, true, true, false, false, false, false, false, false, false, false, false, false, false, false, false, false, false, false] rfl rfl (by kernel_rfl) (fun _ _ _ h => h) (Or.inl ⟨by rfl, ?_⟩) hHeld ?_ ?_
          rotate_left
          · rintro w' ⟨s0, s1, s2, s3, s4, s5, s6, s7, s8, s9⟩
            go_simp
            with_reducible rfl
          rotate_left
          · simp only [Act.put, List.setIfInBounds_toArray, List.set_cons_zero, List.set_cons_succ, i64_w, i32_w]
            rfl
          refine take_ (i := 9) (N := some 67) (v := ?_) (a' := ?_) #[true, true, true, true, true, true, true, true, true, true, false, false, false, false, false, false, false, false, false, false, false, false, false, false, false] rfl rfl (by kernel_rfl) (fun _ _ _ h => h) (Or.inl ⟨by rfl, ?_⟩) hHeld ?_ ?_
          rotate_left
          · rintro w' ⟨s0, s1, s2, s3, s4, s5, s6, s7, s8, s9⟩
            go_simp
            with_reducible rfl
          rotate_left
          · simp only [Act.put, List.setIfInBounds_toArray, List.set_cons_zero, List.set_cons_succ, i64_w, i32_w]
            rfl
          refine pure_ (i := 10) (N := some 68) (v := ?_) (a' := ?_) #[true, true, true, true, true, true, true, true, true, true, true, false, false, false, false, false, false, false, false, false, false, false, false, false, false] rfl rfl (by kernel_rfl) (fun _ _ _ h => h) (Or.inl ⟨by rfl, ?_⟩) ?_ ?_
          rotate_left
          · intro w'
            go_simp
            with_reducible rfl
          rotate_left
          · simp only [Act.put, List.setIfInBounds_toArray, List.set_cons_zero, List.set_cons_succ, i64_w, i32_w]
            rfl
          refine pure_ (i := 11) (N := some 69) (v := ?_) (a' := ?_) #[true, true, true, true, true, true, true, true, true, true, true, true, false, false, false, false, false, false, false, false, false, false, false, false, false] rfl rfl (by kernel_rfl) (fun _ _ _ h => h) (Or.inl ⟨by rfl, ?_⟩) ?_ ?_
          rotate_left
          · intro w'
            go_simp
            with_reducible rfl
          rotate_left
          · simp only [Act.put, List.setIfInBounds_toArray, List.set_cons_zero, List.set_cons_succ, i64_w, i32_w]
            rfl
          refine pure_ (i := 12) (N := some 70) (v := ?_) (a' := ?_) #[true, true, true, true, true, true, true, true, true, true, true, true, true, false, false, false, false, false, false, false, false, false, false, false, false] rfl rfl (by kernel_rfl) (fun _ _ _ h => h) (Or.inl ⟨by rfl, ?_⟩) ?_ ?_
          rotate_left
          · intro w'
            go_simp
            with_reducible rfl
          rotate_left
          · simp only [Act.put, List.setIfInBounds_toArray, List.set_cons_zero, List.set_cons_succ, i64_w, i32_w]
            rfl
          refine pure_ (i := 13) (N := some 71) (v := ?_) (a' := ?_) #[true, true, true, true, true, true, true, true, true, true, true, true, true, true, false, false, false, false, false, false, false, false, false, false, false] rfl rfl (by kernel_rfl) (fun _ _ _ h => h) (Or.inl ⟨by rfl, ?_⟩) ?_ ?_
          rotate_left
          · intro w'
            go_simp
            with_reducible rfl
          rotate_left
          · simp only [Act.put, List.setIfInBounds_toArray, List.set_cons_zero, List.set_cons_succ, i64_w, i32_w]
            rfl
          refine pure_ (i := 14) (N := some 72) (v := ?_) (a' := ?_) #[true, true, true, true, true, true, true, true, true, true, true, true, true, true, true, false, false, false, false, false, false, false, false, false, false] rfl rfl (by kernel_rfl) (fun _ _ _ h => h) (Or.inl ⟨by rfl, ?_⟩) ?_ ?_
          rotate_left
          · intro w'
            go_simp
            with_reducible rfl
          rotate_left
          · simp only [Act.put, List.setIfInBounds_toArray, List.set_cons_zero, List.set_cons_succ, i64_w, i32_w]
            rfl
          refine pure_ (i := 15) (N := some 73) (v := ?_) (a' := ?_) #[true, true, true, true, true, true, true, true, true, true, true, true, true, true, true, true, false, false, false, false, false, false, false, false, false] rfl rfl (by kernel_rfl) (fun _ _ _ h => h) (Or.inl ⟨by rfl, ?_⟩) ?_ ?_
          rotate_left
          · intro w'
            go_simp
            with_reducible rfl
          rotate_left
          · simp only [Act.put, List.setIfInBounds_toArray, List.set_cons_zero, List.set_cons_succ, i64_w, i32_w]
            rfl
          refine pure_ (i := 17) (N := some 75) (v := ?_) (a' := ?_) #[true, true, true, true, true, true, true, true, true, true, true, true, true, true, true, true, false, true, false, false, false, false, false, false, false] rfl rfl (by kernel_rfl) (fun _ _ _ h => h) (Or.inl ⟨by rfl, ?_⟩) ?_ ?_
          rotate_left
          · intro w'
            go_simp
            with_reducible rfl
          rotate_left
          · simp only [Act.put, List.setIfInBounds_toArray, List.set_cons_zero, List.set_cons_succ, i64_w, i32_w]
            rfl
          refine pure_ (i := 18) (N := some 76) (v := ?_) (a' := ?_) #[true, true, true, true, true, true, true, true, true, true, true, true, true, true, true, true, false, true, true, false, false, false, false, false, false] rfl rfl (by kernel_rfl) (fun _ _ _ h => h) (Or.inl ⟨by rfl, ?_⟩) ?_ ?_
          rotate_left
          · intro w'
            go_simp
            with_reducible rfl
          rotate_left
          · simp only [Act.put, List.setIfInBounds_toArray, List.set_cons_zero, List.set_cons_succ, i64_w, i32_w]
            rfl
          refine pure_ (i := 19) (N := some 77) (v := ?_) (a' := ?_) #[true, true, true, true, true, true, true, true, true, true, true, true, true, true, true, true, false, true, true, true, false, false, false, false, false] rfl rfl (by kernel_rfl) (fun _ _ _ h => h) (Or.inl ⟨by rfl, ?_⟩) ?_ ?_
          rotate_left
          · intro w'
            go_simp
            with_reducible rfl
          rotate_left
          · simp only [Act.put, List.setIfInBounds_toArray, List.set_cons_zero, List.set_cons_succ, i64_w, i32_w]
            rfl
          refine pure_ (i := 20) (N := some 78) (v := ?_) (a' := ?_) #[true, true, true, true, true, true, true, true, true, true, true, true, true, true, true, true, false, true, true, true, true, false, false, false, false] rfl rfl (by kernel_rfl) (fun _ _ _ h => h) (Or.inl ⟨by rfl, ?_⟩) ?_ ?_
          rotate_left
          · intro w'
            go_simp
            with_reducible rfl
          rotate_left
          · simp only [Act.put, List.setIfInBounds_toArray, List.set_cons_zero, List.set_cons_succ, i64_w, i32_w]
            rfl
          refine take_ (i := 16) (N := some 74) (v := ?_) (a' := ?_) #[true, true, true, true, true, true, true, true, true, true, true, true, true, true, true, true, true, true, true, true, true, false, false, false, false] rfl rfl (by kernel_rfl) (fun _ _ _ h => h) (Or.inl ⟨by rfl, ?_⟩) hHeld ?_ ?_
          rotate_left
          · rintro w' ⟨s0, s1, s2, s3, s4, s5, s6, s7, s8, s9⟩
            go_simp
            with_reducible rfl
          rotate_left
          · simp only [Act.put, List.setIfInBounds_toArray, List.set_cons_zero, List.set_cons_succ, i64_w, i32_w]
            rfl
          refine take_ (i := 21) (N := some 79) (v := ?_) (a' := ?_) #[true, true, true, true, true, true, true, true, true, true, true, true, true, true, true, true, true, true, true, true, true, true, false, false, false] rfl rfl (by kernel_rfl) (fun _ _ _ h => h) (Or.inl ⟨by rfl, ?_⟩) hHeld ?_ ?_
          rotate_left
          · rintro w' ⟨s0, s1, s2, s3, s4, s5, s6, s7, s8, s9⟩
            go_simp
            with_reducible rfl
          rotate_left
          · simp only [Act.put, List.setIfInBounds_toArray, List.set_cons_zero, List.set_cons_succ, i64_w, i32_w]
            rfl
          refine one_ (i := 22) (N := some 80) #[true, true, true, true, true, true, true, true, true, true, true, true, true, true, true, true, true, true, true, true, true, true, true, false, false] rfl rfl (by kernel_rfl) (by decide) (fun K hK => ?_)
          refine call_ 19 #[.agg #[.int .i64 t.f0, .int .i64 t.f1, .slice D2 t.f2.length d2, .slice D3 t.f3.length d3], .agg #[.int .i64 t.f0, .int .i64 t.f1, .slice A2 t.f2.length c2, .slice A3 t.f3.length c3]] (by rfl) rfl ?_ ?_
          · go_simp
            try rfl
          have rx := ROWX.out.below (below_drew1 (Below.refl _ _))
          have rt := ROWS.out.below (below_drew1 (Below.refl _ _))
          refine (gussetlaw14_same.calls Kt _ _ _ _ _ _ _ _ _ _ _ _ _ _ _ _ _ _ rx.2.1 rx.1 rx.2.2.2 rx.2.2.1 rt.2.1 rt.1 rt.2.2.2 rt.2.2.1 ET.out).mono ?_
          rintro e w9 ⟨rfl, hb⟩
          refine ⟨_, rfl, ?_⟩
          have hb' := below_step (below_drew1 (Below.refl wr.heap.size wr)) hb
          refine hK.out _ _ ⟨pw_cell_below hb' q0, pw_cell_below hb' q1, pw_cell_below hb' q2, pw_cell_below hb' q3, pw_cell_below hb' q4, pw_cell_below hb' p0, pw_cell_below hb' p1, pw_cell_below hb' p2, pw_cell_below hb' p3, pw_cell_below hb' p4⟩ (fun hHeld => ?_)
          clear hK K
          refine norm_ (a' := ?_) ?_ ?_
          rotate_left
          · show Act.put _ (some 80) _ = _
            simp only [Act.put, List.setIfInBounds_toArray, List.set_cons_zero, List.set_cons_succ, i64_w, i32_w]
            rfl
          refine pure_ (i := 23) (N := some 81) (v := ?_) (a' := ?_) #[true, true, true, true, true, true, true, true, true, true, true, true, true, true, true, true, true, true, true, true, true, true, true, true, false] rfl rfl (by kernel_rfl) (fun _ _ _ h => h) (Or.inl ⟨by rfl, ?_⟩) ?_ ?_
          rotate_left
          · intro w'
            go_simp
            with_reducible rfl
          rotate_left
          · simp only [Act.put, List.setIfInBounds_toArray, List.set_cons_zero, List.set_cons_succ, i64_w, i32_w]
            rfl
          refine pure_ (i := 24) (N := some 82) (v := ?_) (a' := ?_) #[true, true, true, true, true, true, true, true, true, true, true, true, true, true, true, true, true, true, true, true, true, true, true, true, true] rfl rfl (by kernel_rfl) (fun _ _ _ h => h) (Or.inl ⟨by rfl, ?_⟩) ?_ ?_
          rotate_left
          · intro w'
            go_simp
            with_reducible rfl
          rotate_left
          · simp only [Act.put, List.setIfInBounds_toArray, List.set_cons_zero, List.set_cons_succ, i64_w, i32_w]
            rfl
          refine done_ (by kernel_rfl) ?_
          go_wp2
          go_roundw
          case measure => simp [RowKit.intOf]; omega
          case rel => exact ⟨j + 1, by go_num, hj, ⟨below_step HCm.out hb'⟩, ⟨below_step HB.out hb'⟩⟩
        · have hlt : ((j : Int) < (l.length : Int)) = False := eq_false (by omega)
          haveI := GW.of HB.out
          go_wp2_with (go_at_call 20; refine holdT_ ?_)
          unfold HeldT
          refine (sure_calls _).mono ?_
          rintro e w13 ⟨rfl, hb⟩
          go_wp2
          go_ret
          exact ⟨rfl, below_step HB.out hb⟩
end Go.Proofs.YtjcajpkgamolkaaDoor.Ty
