/- HJ, as this claim needs it. -/
import Derived.Test.YtjcajpkgamolkaaDoorHFq
import Derived.Test.YtjcajpkgamolkaaDoorHAq
import Derived.Test.YtjcajpkgamolkaaDoorHCq
import Derived.Test.YtjcajpkgamolkaaDoorHKq
import Derived.Test.YtjcajpkgamolkaaDoorHGq
import Derived.Test.YtjcajpkgamolkaaDoorHVq
import Derived.Test.YtjcajpkgamolkaaDoorHMq
namespace Go.Proofs.YtjcajpkgamolkaaDoor.Ty
open Go.RowKit Go.Proofs.YtjcajpkgamolkaaDoor.PTyp Go.Proofs.YtjcajpkgamolkaaDoorW.PrintWords Go.Proofs.YtjcajpkgamolkaaDoorW.PrintLast Go.Proofs.YtjcajpkgamolkaaDoorW.PrintMore
set_option linter.unusedVariables false
set_option linter.unusedSimpArgs false
theorem at_kW {w0 W : World} {A : Option Addr} {l : List Ty} (h : (kW w0).C W A l.length l) {i : Nat} (hi : i < l.length) : ∃ ad A2 c2 A3 c3, A = some ad ∧ W.cell? (ad.add (i * 4)) = some (.int .i64 l[i].f0) ∧ W.cell? ⟨(ad.add (i * 4)).block, (ad.add (i * 4)).off + 1, none⟩ = some (.int .i64 l[i].f1) ∧ W.cell? ⟨(ad.add (i * 4)).block, (ad.add (i * 4)).off + 2, none⟩ = some (.slice A2 l[i].f2.length c2) ∧ W.cell? ⟨(ad.add (i * 4)).block, (ad.add (i * 4)).off + 3, none⟩ = some (.slice A3 l[i].f3.length c3) ∧ RowsT w0 l[i] A2 c2 A3 c3 := by
  obtain ⟨ad, e, hx⟩ := h.2.2 (by omega)
  obtain ⟨c, h3, h4, h5⟩ := hx i l[i] (List.getElem?_eq_getElem hi)
  have hc : ∀ j u, c[j]? = some u → W.cell? (ad.add (i * 4 + j)) = some u := h5
  obtain ⟨A2, c2, A3, c3, rfl, l2, g2, l3, g3⟩ := k25_open h4
  exact ⟨ad, A2, c2, A3, c3, e, hc 0 _ rfl, by rw [← add_field _ _ 1 (by omega)]; exact hc 1 _ rfl, by rw [← add_field _ _ 2 (by omega)]; exact hc 2 _ rfl, by rw [← add_field _ _ 3 (by omega)]; exact hc 3 _ rfl, l2, g2, l3, g3⟩
def belowTo (l : List Ty) (t : Ty) (i : Nat) : Prop := ∀ j (h : j < l.length), j < i → cmpT l[j] t < 0
theorem insT_at : ∀ (l : List Ty) (t : Ty) (i : Nat), i ≤ l.length → belowTo l t i → (∀ h : i < l.length, 0 < cmpT l[i] t) → insT l t = l.take i ++ [t] ++ l.drop i
  | [], t, i, hi, _, _ => by simp [insT]
  | a :: r, t, 0, _, _, h => by
    have := h (by simp)
    rw [List.getElem_cons_zero] at this
    rw [insT, if_neg (by omega), if_neg (by omega)]; simp
  | a :: r, t, i + 1, hi, hb, h => by
    have h0 := hb 0 (by simp) (by omega)
    rw [List.getElem_cons_zero] at h0
    rw [insT, if_pos h0, insT_at r t i (by simpa using hi) (fun j hj hj2 => hb (j + 1) (by simpa using hj) (by omega)) (fun hj => h (by simpa using hj))]
    simp
theorem insT_in : ∀ (l : List Ty) (t : Ty) (i : Nat) (hi : i < l.length), belowTo l t i → cmpT l[i] t = 0 → insT l t = l
  | [], t, i, hi, _, _ => by simp at hi
  | a :: r, t, 0, _, _, h => by
    rw [List.getElem_cons_zero] at h
    rw [insT, if_neg (by omega), if_pos h]
  | a :: r, t, i + 1, hi, hb, h => by
    have h0 := hb 0 (by simp) (by omega)
    rw [List.getElem_cons_zero] at h0
    rw [insT, if_pos h0, insT_in r t i (by simpa using hi) (fun j hj hj2 => hb (j + 1) (by simpa using hj) (by omega)) h]
set_option maxHeartbeats 4000000 in
set_option maxRecDepth 100000 in
theorem insert_calls (w0 : World) (l : List Ty) (A : Option Addr) (c : Nat) (t : Ty) (A2 : Option Addr) (c2 : Nat) (A3 : Option Addr) (c3 : Nat) (w : World) (h0 : Below w0.heap.size w0 w) (hl : (kW w0).C w A l.length l) (hlc : l.length ≤ c) (ht : RowsT w0 t A2 c2 A3 c3) (hwl : wTs l ≤ 1000000000000) (hwt : wT t ≤ 1000000000000) :
    Calls Tryd.prog 46 #[.slice A l.length c, .agg #[.int .i64 t.f0, .int .i64 t.f1, .slice A2 t.f2.length c2, .slice A3 t.f3.length c3]] w fun e w' => ∃ A' c', e = .returned (.slice A' (insT l t).length c') ∧ (insT l t).length ≤ c' ∧ (kW w0).C w' A' (insT l t).length (insT l t) ∧ (∀ ad, A' = some ad → A = some ad ∨ w.heap.size ≤ ad.block) ∧ Below w.heap.size w w' := by
  have hll : l.length ≤ 1000000000000 := Nat.le_trans (wTs_len l) hwl
  have hu25 := Tryd.underlying25
  have HB0 := Aside0.mk (below_alloc (Below.refl w.heap.size w) (.cells #[.int .i64 t.f0, .int .i64 t.f1, .slice A2 t.f2.length c2, .slice A3 t.f3.length c3] 25))
  have BX := Aside0.mk (heap_alloc_new w (.cells #[.int .i64 t.f0, .int .i64 t.f1, .slice A2 t.f2.length c2, .slice A3 t.f3.length c3] 25))
  have HW := Aside0.mk (below_step h0 HB0.out)
  have HL := Aside0.mk (Kd.C_below hl HB0.out)
  have HT := Aside0.mk ht
  have HWL := Aside0.mk hwl
  have HWT := Aside0.mk hwt
  clear h0 hl ht hwl hwt
  go_enter Tryd.func46, Tryd.ntmps46
  obtain ⟨⟨t0, t1, t2, t3⟩, _⟩ := box4T BX.out
  go_upto_region 1 with (fail)
  generalize w.alloc (.cells #[.int .i64 t.f0, .int .i64 t.f1, .slice A2 t.f2.length c2, .slice A3 t.f3.length c3] 25) = w1 at *
  have HB : Aside0 (Below w1.heap.size w1 w1) := ⟨Below.refl _ _⟩
  go_wp2
  go_loopw [5] (fun v5 W => ∃ i : Nat, v5 = .int .i64 i ∧ i ≤ l.length ∧ Aside0 (belowTo l t i) ∧ Aside0 (Below w1.heap.size w1 W)) (fun v5 _ => l.length + 1 - (RowKit.intOf v5).toNat)
  case atStart => exact ⟨0, rfl, Nat.zero_le _, ⟨fun j h h2 => absurd h2 (by omega)⟩, HB⟩
  case round =>
    clear HB t0 t1 t2 t3
    obtain ⟨i, rfl, hin, HBT, HB⟩ := hrel
    obtain ⟨⟨t0, t1, t2, t3⟩, _⟩ := box4T (blk_below BX.out HB.out)
    have hge : ((0 : Int) ≤ (i : Int)) = True := by simp
    by_cases hi : i < l.length
    · have hlt2 : ((i : Int) < (l.length : Int)) = True := by simp [hi]
      have hlt3 : decide ((i : Int) < (l.length : Int)) = true := by simp [hi]
      obtain ⟨ad, B2, b2, B3, b3, e, q0, q1, q2, q3, rows⟩ := at_kW (Kd.C_below HL.out HB.out) hi
      have ROWS := Aside0.mk rows
      obtain ⟨x, hx⟩ : ∃ x, x = l[i] := ⟨_, rfl⟩
      rw [← hx] at q0 q1 q2 q3 ROWS
      have HX := Aside0.mk hx
      clear hx rows
      subst e
      obtain ⟨K0, hK0⟩ := rcmp_ev x t (by have := wTs_mem (List.getElem_mem hi); have := HWL.out; rw [HX.out]; omega) (by have := HWT.out; omega)
      have EC := Aside0.mk (hK0 K0 (Nat.le_refl _))
      clear hK0
      by_cases hc : cmpT x t < 0
      · have HN : Aside0 (belowTo l t (i + 1)) := ⟨fun j hj hj2 => by
          rcases Nat.lt_or_ge j i with q | q
          · exact HBT.out j hj q
          · obtain rfl : j = i := by omega
            rw [← HX.out]; exact hc⟩
        have gc : decide (cmpT x t < 0) = true := decide_eq_true hc
        have gc2 : (cmpT x t < 0) = True := eq_true hc
        clear hc HX
        go_upto_region 2 with (fail)
        refine start_ (n := 13) (S := fun w' => w'.cell? ⟨w.heap.size, 0, none⟩ = some (.int .i64 t.f0) ∧ w'.cell? ⟨w.heap.size, 1, none⟩ = some (.int .i64 t.f1) ∧ w'.cell? ⟨w.heap.size, 2, none⟩ = some (.slice A2 t.f2.length c2) ∧ w'.cell? ⟨w.heap.size, 3, none⟩ = some (.slice A3 t.f3.length c3) ∧ w'.cell? (ad.add (i * 4)) = some (.int .i64 x.f0) ∧ w'.cell? ⟨(ad.add (i * 4)).block, (ad.add (i * 4)).off + 1, none⟩ = some (.int .i64 x.f1) ∧ w'.cell? ⟨(ad.add (i * 4)).block, (ad.add (i * 4)).off + 2, none⟩ = some (.slice B2 x.f2.length b2) ∧ w'.cell? ⟨(ad.add (i * 4)).block, (ad.add (i * 4)).off + 3, none⟩ = some (.slice B3 x.f3.length b3)) (ds := []) #[false, false, false, false, false, false, false, false, false, false, false, false, false] (by kernel_rfl) rfl rfl ⟨t0, t1, t2, t3, q0, q1, q2, q3⟩ (fun hHeld => ?_)
        refine pure_ (i := 0) (N := some 7) (v := ?_) (a' := ?_) #[true, false, false, false, false, false, false, false, false, false, false, false, false] rfl rfl (by kernel_rfl) (fun _ _ _ h => h) (Or.inl ⟨by rfl, ?_⟩) ?_ ?_
        rotate_left
        · intro w'
          go_simp
          with_reducible rfl
        rotate_left
        · simp only [Act.put, List.setIfInBounds_toArray, List.set_cons_zero, List.set_cons_succ, i64_w, i32_w]
          rfl
        refine pure_ (i := 1) (N := some 8) (v := ?_) (a' := ?_) #[true, true, false, false, false, false, false, false, false, false, false, false, false] rfl rfl (by kernel_rfl) (fun _ _ _ h => h) (Or.inl ⟨by rfl, ?_⟩) ?_ ?_
        rotate_left
        · intro w'
          go_simp
          with_reducible rfl
        rotate_left
        · simp only [Act.put, List.setIfInBounds_toArray, List.set_cons_zero, List.set_cons_succ, i64_w, i32_w]
          rfl
        refine pure_ (i := 2) (N := some 9) (v := ?_) (a' := ?_) #[true, true, true, false, false, false, false, false, false, false, false, false, false] rfl rfl (by kernel_rfl) (fun _ _ _ h => h) (Or.inl ⟨by rfl, ?_⟩) ?_ ?_
        rotate_left
        · intro w'
          go_simp
          with_reducible rfl
        rotate_left
        · simp only [Act.put, List.setIfInBounds_toArray, List.set_cons_zero, List.set_cons_succ, i64_w, i32_w]
          rfl
        refine pure_ (i := 3) (N := some 10) (v := ?_) (a' := ?_) #[true, true, true, true, false, false, false, false, false, false, false, false, false] rfl rfl (by kernel_rfl) (fun _ _ _ h => h) (Or.inl ⟨by rfl, ?_⟩) ?_ ?_
        rotate_left
        · intro w'
          go_simp
          with_reducible rfl
        rotate_left
        · simp only [Act.put, List.setIfInBounds_toArray, List.set_cons_zero, List.set_cons_succ, i64_w, i32_w]
          rfl
        refine pure_ (i := 4) (N := some 11) (v := ?_) (a' := ?_) #[true, true, true, true, true, false, false, false, false, false, false, false, false] rfl rfl (by kernel_rfl) (fun _ _ _ h => h) (Or.inl ⟨by rfl, ?_⟩) ?_ ?_
        rotate_left
        · intro w'
          go_simp
          with_reducible rfl
        rotate_left
        · simp only [Act.put, List.setIfInBounds_toArray, List.set_cons_zero, List.set_cons_succ, i64_w, i32_w]
          rfl
        refine pure_ (i := 5) (N := some 12) (v := ?_) (a' := ?_) #[true, true, true, true, true, true, false, false, false, false, false, false, false] rfl rfl (by kernel_rfl) (fun _ _ _ h => h) (Or.inl ⟨by rfl, ?_⟩) ?_ ?_
        rotate_left
        · intro w'
          go_simp
          with_reducible rfl
        rotate_left
        · simp only [Act.put, List.setIfInBounds_toArray, List.set_cons_zero, List.set_cons_succ, i64_w, i32_w]
          rfl
        refine pure_ (i := 6) (N := some 13) (v := ?_) (a' := ?_) #[true, true, true, true, true, true, true, false, false, false, false, false, false] rfl rfl (by kernel_rfl) (fun _ _ _ h => h) (Or.inl ⟨by rfl, ?_⟩) ?_ ?_
        rotate_left
        · intro w'
          go_simp
          with_reducible rfl
        rotate_left
        · simp only [Act.put, List.setIfInBounds_toArray, List.set_cons_zero, List.set_cons_succ, i64_w, i32_w]
          rfl
        refine pure_ (i := 7) (N := some 14) (v := ?_) (a' := ?_) #[true, true, true, true, true, true, true, true, false, false, false, false, false] rfl rfl (by kernel_rfl) (fun _ _ _ h => h) (Or.inl ⟨by rfl, ?_⟩) ?_ ?_
        rotate_left
        · intro w'
          go_simp
          with_reducible rfl
        rotate_left
        · simp only [Act.put, List.setIfInBounds_toArray, List.set_cons_zero, List.set_cons_succ, i64_w, i32_w]
          rfl
        refine take_ (i := 8) (N := some 15) (v := ?_) (a' := ?_) #[true, true, true, true, true, true, true, true, true, false, false, false, false] rfl rfl (by kernel_rfl) (fun _ _ _ h => h) (Or.inl ⟨by rfl, ?_⟩) hHeld ?_ ?_
        rotate_left
        · rintro w' ⟨s0, s1, s2, s3, s4, s5, s6, s7⟩
          go_simp
          with_reducible rfl
        rotate_left
        · simp only [Act.put, List.setIfInBounds_toArray, List.set_cons_zero, List.set_cons_succ, i64_w, i32_w]
          rfl
        refine take_ (i := 9) (N := some 16) (v := ?_) (a' := ?_) #[true, true, true, true, true, true, true, true, true, true, false, false, false] rfl rfl (by kernel_rfl) (fun _ _ _ h => h) (Or.inl ⟨by rfl, ?_⟩) hHeld ?_ ?_
        rotate_left
        · rintro w' ⟨s0, s1, s2, s3, s4, s5, s6, s7⟩
          go_simp
          with_reducible rfl
        rotate_left
        · simp only [Act.put, List.setIfInBounds_toArray, List.set_cons_zero, List.set_cons_succ, i64_w, i32_w]
          rfl
        refine one_ (i := 10) (N := some 17) #[true, true, true, true, true, true, true, true, true, true, true, false, false] rfl rfl (by kernel_rfl) (by decide) (fun K hK => ?_)
        refine call_ 22 #[.agg #[.int .i64 x.f0, .int .i64 x.f1, .slice B2 x.f2.length b2, .slice B3 x.f3.length b3], .agg #[.int .i64 t.f0, .int .i64 t.f1, .slice A2 t.f2.length c2, .slice A3 t.f3.length c3]] (by rfl) rfl ?_ ?_
        · go_simp
          try rfl
        have rx := ROWS.out.below (below_step HW.out (below_drew1 HB.out))
        have rt := HT.out.below (below_step HW.out (below_drew1 HB.out))
        refine (gussetref14_Compare.calls K0 _ _ _ _ _ _ _ _ _ _ _ _ _ _ _ _ _ _ rx.2.1 rx.1 rx.2.2.2 rx.2.2.1 rt.2.1 rt.1 rt.2.2.2 rt.2.2.1 EC.out).mono ?_
        rintro e w4 ⟨rfl, hb⟩
        refine ⟨_, rfl, ?_⟩
        have nHB := Aside0.mk (below_step (below_drew1 HB.out) hb)
        clear rx rt
        refine hK.out _ _ ⟨pw_cell_below hb hHeld.1, pw_cell_below hb hHeld.2.1, pw_cell_below hb hHeld.2.2.1, pw_cell_below hb hHeld.2.2.2.1, pw_cell_below hb hHeld.2.2.2.2.1, pw_cell_below hb hHeld.2.2.2.2.2.1, pw_cell_below hb hHeld.2.2.2.2.2.2.1, pw_cell_below hb hHeld.2.2.2.2.2.2.2⟩ (fun hHeld => ?_)
        clear hK K
        refine norm_ (a' := ?_) ?_ ?_
        rotate_left
        · show Act.put _ (some 17) _ = _
          simp only [Act.put, List.setIfInBounds_toArray, List.set_cons_zero, List.set_cons_succ, i64_w, i32_w]
          rfl
        clear HB hb
        have HB := nHB
        clear nHB
        refine pure_ (i := 11) (N := some 18) (v := ?_) (a' := ?_) #[true, true, true, true, true, true, true, true, true, true, true, true, false] rfl rfl (by kernel_rfl) (fun _ _ _ h => h) (Or.inl ⟨by rfl, ?_⟩) ?_ ?_
        rotate_left
        · intro w'
          go_simp
          with_reducible rfl
        rotate_left
        · simp only [Act.put, List.setIfInBounds_toArray, List.set_cons_zero, List.set_cons_succ, i64_w, i32_w]
          rfl
        refine pure_ (i := 12) (N := some 19) (v := ?_) (a' := ?_) #[true, true, true, true, true, true, true, true, true, true, true, true, true] rfl rfl (by kernel_rfl) (fun _ _ _ h => h) (Or.inl ⟨by rfl, ?_⟩) ?_ ?_
        rotate_left
        · intro w'
          go_simp
          with_reducible rfl
        rotate_left
        · simp only [Act.put, List.setIfInBounds_toArray, List.set_cons_zero, List.set_cons_succ, i64_w, i32_w]
          rfl
        refine done_ (by kernel_rfl) ?_
        go_wp2
        go_roundw
        case measure => simp [RowKit.intOf]; omega
        case rel => exact ⟨i + 1, by go_num, hi, HN, HB⟩
      have gc : decide (cmpT x t < 0) = false := decide_eq_false hc
      have gc2 : (cmpT x t < 0) = False := eq_false hc
      go_upto_region 2 with (fail)
      refine start_ (n := 13) (S := fun w' => w'.cell? ⟨w.heap.size, 0, none⟩ = some (.int .i64 t.f0) ∧ w'.cell? ⟨w.heap.size, 1, none⟩ = some (.int .i64 t.f1) ∧ w'.cell? ⟨w.heap.size, 2, none⟩ = some (.slice A2 t.f2.length c2) ∧ w'.cell? ⟨w.heap.size, 3, none⟩ = some (.slice A3 t.f3.length c3) ∧ w'.cell? (ad.add (i * 4)) = some (.int .i64 x.f0) ∧ w'.cell? ⟨(ad.add (i * 4)).block, (ad.add (i * 4)).off + 1, none⟩ = some (.int .i64 x.f1) ∧ w'.cell? ⟨(ad.add (i * 4)).block, (ad.add (i * 4)).off + 2, none⟩ = some (.slice B2 x.f2.length b2) ∧ w'.cell? ⟨(ad.add (i * 4)).block, (ad.add (i * 4)).off + 3, none⟩ = some (.slice B3 x.f3.length b3)) (ds := []) #[false, false, false, false, false, false, false, false, false, false, false, false, false] (by kernel_rfl) rfl rfl ⟨t0, t1, t2, t3, q0, q1, q2, q3⟩ (fun hHeld => ?_)
      refine pure_ (i := 0) (N := some 7) (v := ?_) (a' := ?_) #[true, false, false, false, false, false, false, false, false, false, false, false, false] rfl rfl (by kernel_rfl) (fun _ _ _ h => h) (Or.inl ⟨by rfl, ?_⟩) ?_ ?_
      rotate_left
      · intro w'
        go_simp
        with_reducible rfl
      rotate_left
      · simp only [Act.put, List.setIfInBounds_toArray, List.set_cons_zero, List.set_cons_succ, i64_w, i32_w]
        rfl
      refine pure_ (i := 1) (N := some 8) (v := ?_) (a' := ?_) #[true, true, false, false, false, false, false, false, false, false, false, false, false] rfl rfl (by kernel_rfl) (fun _ _ _ h => h) (Or.inl ⟨by rfl, ?_⟩) ?_ ?_
      rotate_left
      · intro w'
        go_simp
        with_reducible rfl
      rotate_left
      · simp only [Act.put, List.setIfInBounds_toArray, List.set_cons_zero, List.set_cons_succ, i64_w, i32_w]
        rfl
      refine pure_ (i := 2) (N := some 9) (v := ?_) (a' := ?_) #[true, true, true, false, false, false, false, false, false, false, false, false, false] rfl rfl (by kernel_rfl) (fun _ _ _ h => h) (Or.inl ⟨by rfl, ?_⟩) ?_ ?_
      rotate_left
      · intro w'
        go_simp
        with_reducible rfl
      rotate_left
      · simp only [Act.put, List.setIfInBounds_toArray, List.set_cons_zero, List.set_cons_succ, i64_w, i32_w]
        rfl
      refine pure_ (i := 3) (N := some 10) (v := ?_) (a' := ?_) #[true, true, true, true, false, false, false, false, false, false, false, false, false] rfl rfl (by kernel_rfl) (fun _ _ _ h => h) (Or.inl ⟨by rfl, ?_⟩) ?_ ?_
      rotate_left
      · intro w'
        go_simp
        with_reducible rfl
      rotate_left
      · simp only [Act.put, List.setIfInBounds_toArray, List.set_cons_zero, List.set_cons_succ, i64_w, i32_w]
        rfl
      refine pure_ (i := 4) (N := some 11) (v := ?_) (a' := ?_) #[true, true, true, true, true, false, false, false, false, false, false, false, false] rfl rfl (by kernel_rfl) (fun _ _ _ h => h) (Or.inl ⟨by rfl, ?_⟩) ?_ ?_
      rotate_left
      · intro w'
        go_simp
        with_reducible rfl
      rotate_left
      · simp only [Act.put, List.setIfInBounds_toArray, List.set_cons_zero, List.set_cons_succ, i64_w, i32_w]
        rfl
      refine pure_ (i := 5) (N := some 12) (v := ?_) (a' := ?_) #[true, true, true, true, true, true, false, false, false, false, false, false, false] rfl rfl (by kernel_rfl) (fun _ _ _ h => h) (Or.inl ⟨by rfl, ?_⟩) ?_ ?_
      rotate_left
      · intro w'
        go_simp
        with_reducible rfl
      rotate_left
      · simp only [Act.put, List.setIfInBounds_toArray, List.set_cons_zero, List.set_cons_succ, i64_w, i32_w]
        rfl
      refine pure_ (i := 6) (N := some 13) (v := ?_) (a' := ?_) #[true, true, true, true, true, true, true, false, false, false, false, false, false] rfl rfl (by kernel_rfl) (fun _ _ _ h => h) (Or.inl ⟨by rfl, ?_⟩) ?_ ?_
      rotate_left
      · intro w'
        go_simp
        with_reducible rfl
      rotate_left
      · simp only [Act.put, List.setIfInBounds_toArray, List.set_cons_zero, List.set_cons_succ, i64_w, i32_w]
        rfl
      refine pure_ (i := 7) (N := some 14) (v := ?_) (a' := ?_) #[true, true, true, true, true, true, true, true, false, false, false, false, false] rfl rfl (by kernel_rfl) (fun _ _ _ h => h) (Or.inl ⟨by rfl, ?_⟩) ?_ ?_
      rotate_left
      · intro w'
        go_simp
        with_reducible rfl
      rotate_left
      · simp only [Act.put, List.setIfInBounds_toArray, List.set_cons_zero, List.set_cons_succ, i64_w, i32_w]
        rfl
      refine take_ (i := 8) (N := some 15) (v := ?_) (a' := ?_) #[true, true, true, true, true, true, true, true, true, false, false, false, false] rfl rfl (by kernel_rfl) (fun _ _ _ h => h) (Or.inl ⟨by rfl, ?_⟩) hHeld ?_ ?_
      rotate_left
      · rintro w' ⟨s0, s1, s2, s3, s4, s5, s6, s7⟩
        go_simp
        with_reducible rfl
      rotate_left
      · simp only [Act.put, List.setIfInBounds_toArray, List.set_cons_zero, List.set_cons_succ, i64_w, i32_w]
        rfl
      refine take_ (i := 9) (N := some 16) (v := ?_) (a' := ?_) #[true, true, true, true, true, true, true, true, true, true, false, false, false] rfl rfl (by kernel_rfl) (fun _ _ _ h => h) (Or.inl ⟨by rfl, ?_⟩) hHeld ?_ ?_
      rotate_left
      · rintro w' ⟨s0, s1, s2, s3, s4, s5, s6, s7⟩
        go_simp
        with_reducible rfl
      rotate_left
      · simp only [Act.put, List.setIfInBounds_toArray, List.set_cons_zero, List.set_cons_succ, i64_w, i32_w]
        rfl
      refine one_ (i := 10) (N := some 17) #[true, true, true, true, true, true, true, true, true, true, true, false, false] rfl rfl (by kernel_rfl) (by decide) (fun K hK => ?_)
      refine call_ 22 #[.agg #[.int .i64 x.f0, .int .i64 x.f1, .slice B2 x.f2.length b2, .slice B3 x.f3.length b3], .agg #[.int .i64 t.f0, .int .i64 t.f1, .slice A2 t.f2.length c2, .slice A3 t.f3.length c3]] (by rfl) rfl ?_ ?_
      · go_simp
        try rfl
      have rx := ROWS.out.below (below_step HW.out (below_drew1 HB.out))
      have rt := HT.out.below (below_step HW.out (below_drew1 HB.out))
      refine (gussetref14_Compare.calls K0 _ _ _ _ _ _ _ _ _ _ _ _ _ _ _ _ _ _ rx.2.1 rx.1 rx.2.2.2 rx.2.2.1 rt.2.1 rt.1 rt.2.2.2 rt.2.2.1 EC.out).mono ?_
      rintro e w4 ⟨rfl, hb⟩
      refine ⟨_, rfl, ?_⟩
      have nHB := Aside0.mk (below_step (below_drew1 HB.out) hb)
      clear rx rt
      refine hK.out _ _ ⟨pw_cell_below hb hHeld.1, pw_cell_below hb hHeld.2.1, pw_cell_below hb hHeld.2.2.1, pw_cell_below hb hHeld.2.2.2.1, pw_cell_below hb hHeld.2.2.2.2.1, pw_cell_below hb hHeld.2.2.2.2.2.1, pw_cell_below hb hHeld.2.2.2.2.2.2.1, pw_cell_below hb hHeld.2.2.2.2.2.2.2⟩ (fun hHeld => ?_)
      clear hK K
      refine norm_ (a' := ?_) ?_ ?_
      rotate_left
      · show Act.put _ (some 17) _ = _
        simp only [Act.put, List.setIfInBounds_toArray, List.set_cons_zero, List.set_cons_succ, i64_w, i32_w]
        rfl
      clear HB hb
      have HB := nHB
      clear nHB
      refine pure_ (i := 11) (N := some 18) (v := ?_) (a' := ?_) #[true, true, true, true, true, true, true, true, true, true, true, true, false] rfl rfl (by kernel_rfl) (fun _ _ _ h => h) (Or.inl ⟨by rfl, ?_⟩) ?_ ?_
      rotate_left
      · intro w'
        go_simp
        with_reducible rfl
      rotate_left
      · simp only [Act.put, List.setIfInBounds_toArray, List.set_cons_zero, List.set_cons_succ, i64_w, i32_w]
        rfl
      refine pure_ (i := 12) (N := some 19) (v := ?_) (a' := ?_) #[true, true, true, true, true, true, true, true, true, true, true, true, true] rfl rfl (by kernel_rfl) (fun _ _ _ h => h) (Or.inl ⟨by rfl, ?_⟩) ?_ ?_
      rotate_left
      · intro w'
        go_simp
        with_reducible rfl
      rotate_left
      · simp only [Act.put, List.setIfInBounds_toArray, List.set_cons_zero, List.set_cons_succ, i64_w, i32_w]
        rfl
      refine done_ (by kernel_rfl) ?_
      clear t0 t1 t2 t3 q0 q1 q2 q3
      obtain ⟨t0, t1, t2, t3, q0, q1, q2, q3⟩ := hHeld
      by_cases hz : cmpT x t = 0
      · have HIN := Aside0.mk (insT_in l t i hi HBT.out (by rw [← HX.out]; exact hz))
        have gz : (cmpT x t == 0) = true := by simp [hz]
        have gz2 : (cmpT x t = 0) = True := eq_true hz
        clear hz hc HX
        go_upto_region 4 with (fail)
        refine start_ (n := 13) (S := fun w' => w'.cell? ⟨w.heap.size, 0, none⟩ = some (.int .i64 t.f0) ∧ w'.cell? ⟨w.heap.size, 1, none⟩ = some (.int .i64 t.f1) ∧ w'.cell? ⟨w.heap.size, 2, none⟩ = some (.slice A2 t.f2.length c2) ∧ w'.cell? ⟨w.heap.size, 3, none⟩ = some (.slice A3 t.f3.length c3) ∧ w'.cell? (ad.add (i * 4)) = some (.int .i64 x.f0) ∧ w'.cell? ⟨(ad.add (i * 4)).block, (ad.add (i * 4)).off + 1, none⟩ = some (.int .i64 x.f1) ∧ w'.cell? ⟨(ad.add (i * 4)).block, (ad.add (i * 4)).off + 2, none⟩ = some (.slice B2 x.f2.length b2) ∧ w'.cell? ⟨(ad.add (i * 4)).block, (ad.add (i * 4)).off + 3, none⟩ = some (.slice B3 x.f3.length b3)) (ds := []) #[false, false, false, false, false, false, false, false, false, false, false, false, false] (by kernel_rfl) rfl rfl ⟨t0, t1, t2, t3, q0, q1, q2, q3⟩ (fun hHeld => ?_)
        refine pure_ (i := 0) (N := some 22) (v := ?_) (a' := ?_) #[true, false, false, false, false, false, false, false, false, false, false, false, false] rfl rfl (by kernel_rfl) (fun _ _ _ h => h) (Or.inl ⟨by rfl, ?_⟩) ?_ ?_
        rotate_left
        · intro w'
          go_simp
          with_reducible rfl
        rotate_left
        · simp only [Act.put, List.setIfInBounds_toArray, List.set_cons_zero, List.set_cons_succ, i64_w, i32_w]
          rfl
        refine pure_ (i := 1) (N := some 23) (v := ?_) (a' := ?_) #[true, true, false, false, false, false, false, false, false, false, false, false, false] rfl rfl (by kernel_rfl) (fun _ _ _ h => h) (Or.inl ⟨by rfl, ?_⟩) ?_ ?_
        rotate_left
        · intro w'
          go_simp
          with_reducible rfl
        rotate_left
        · simp only [Act.put, List.setIfInBounds_toArray, List.set_cons_zero, List.set_cons_succ, i64_w, i32_w]
          rfl
        refine pure_ (i := 2) (N := some 24) (v := ?_) (a' := ?_) #[true, true, true, false, false, false, false, false, false, false, false, false, false] rfl rfl (by kernel_rfl) (fun _ _ _ h => h) (Or.inl ⟨by rfl, ?_⟩) ?_ ?_
        rotate_left
        · intro w'
          go_simp
          with_reducible rfl
        rotate_left
        · simp only [Act.put, List.setIfInBounds_toArray, List.set_cons_zero, List.set_cons_succ, i64_w, i32_w]
          rfl
        refine pure_ (i := 3) (N := some 25) (v := ?_) (a' := ?_) #[true, true, true, true, false, false, false, false, false, false, false, false, false] rfl rfl (by kernel_rfl) (fun _ _ _ h => h) (Or.inl ⟨by rfl, ?_⟩) ?_ ?_
        rotate_left
        · intro w'
          go_simp
          with_reducible rfl
        rotate_left
        · simp only [Act.put, List.setIfInBounds_toArray, List.set_cons_zero, List.set_cons_succ, i64_w, i32_w]
          rfl
        refine pure_ (i := 4) (N := some 26) (v := ?_) (a' := ?_) #[true, true, true, true, true, false, false, false, false, false, false, false, false] rfl rfl (by kernel_rfl) (fun _ _ _ h => h) (Or.inl ⟨by rfl, ?_⟩) ?_ ?_
        rotate_left
        · intro w'
          go_simp
          with_reducible rfl
        rotate_left
        · simp only [Act.put, List.setIfInBounds_toArray, List.set_cons_zero, List.set_cons_succ, i64_w, i32_w]
          rfl
        refine pure_ (i := 5) (N := some 27) (v := ?_) (a' := ?_) #[true, true, true, true, true, true, false, false, false, false, false, false, false] rfl rfl (by kernel_rfl) (fun _ _ _ h => h) (Or.inl ⟨by rfl, ?_⟩) ?_ ?_
        rotate_left
        · intro w'
          go_simp
          with_reducible rfl
        rotate_left
        · simp only [Act.put, List.setIfInBounds_toArray, List.set_cons_zero, List.set_cons_succ, i64_w, i32_w]
          rfl
        refine pure_ (i := 6) (N := some 28) (v := ?_) (a' := ?_) #[true, true, true, true, true, true, true, false, false, false, false, false, false] rfl rfl (by kernel_rfl) (fun _ _ _ h => h) (Or.inl ⟨by rfl, ?_⟩) ?_ ?_
        rotate_left
        · intro w'
          go_simp
          with_reducible rfl
        rotate_left
        · simp only [Act.put, List.setIfInBounds_toArray, List.set_cons_zero, List.set_cons_succ, i64_w, i32_w]
          rfl
        refine pure_ (i := 7) (N := some 29) (v := ?_) (a' := ?_) #[true, true, true, true, true, true, true, true, false, false, false, false, false] rfl rfl (by kernel_rfl) (fun _ _ _ h => h) (Or.inl ⟨by rfl, ?_⟩) ?_ ?_
        rotate_left
        · intro w'
          go_simp
          with_reducible rfl
        rotate_left
        · simp only [Act.put, List.setIfInBounds_toArray, List.set_cons_zero, List.set_cons_succ, i64_w, i32_w]
          rfl
        refine take_ (i := 8) (N := some 30) (v := ?_) (a' := ?_) #[true, true, true, true, true, true, true, true, true, false, false, false, false] rfl rfl (by kernel_rfl) (fun _ _ _ h => h) (Or.inl ⟨by rfl, ?_⟩) hHeld ?_ ?_
        rotate_left
        · rintro w' ⟨s0, s1, s2, s3, s4, s5, s6, s7⟩
          go_simp
          with_reducible rfl
        rotate_left
        · simp only [Act.put, List.setIfInBounds_toArray, List.set_cons_zero, List.set_cons_succ, i64_w, i32_w]
          rfl
        refine take_ (i := 9) (N := some 31) (v := ?_) (a' := ?_) #[true, true, true, true, true, true, true, true, true, true, false, false, false] rfl rfl (by kernel_rfl) (fun _ _ _ h => h) (Or.inl ⟨by rfl, ?_⟩) hHeld ?_ ?_
        rotate_left
        · rintro w' ⟨s0, s1, s2, s3, s4, s5, s6, s7⟩
          go_simp
          with_reducible rfl
        rotate_left
        · simp only [Act.put, List.setIfInBounds_toArray, List.set_cons_zero, List.set_cons_succ, i64_w, i32_w]
          rfl
        refine one_ (i := 10) (N := some 32) #[true, true, true, true, true, true, true, true, true, true, true, false, false] rfl rfl (by kernel_rfl) (by decide) (fun K hK => ?_)
        refine call_ 22 #[.agg #[.int .i64 x.f0, .int .i64 x.f1, .slice B2 x.f2.length b2, .slice B3 x.f3.length b3], .agg #[.int .i64 t.f0, .int .i64 t.f1, .slice A2 t.f2.length c2, .slice A3 t.f3.length c3]] (by rfl) rfl ?_ ?_
        · go_simp
          try rfl
        have rx := ROWS.out.below (below_step HW.out (below_drew1 HB.out))
        have rt := HT.out.below (below_step HW.out (below_drew1 HB.out))
        refine (gussetref14_Compare.calls K0 _ _ _ _ _ _ _ _ _ _ _ _ _ _ _ _ _ _ rx.2.1 rx.1 rx.2.2.2 rx.2.2.1 rt.2.1 rt.1 rt.2.2.2 rt.2.2.1 EC.out).mono ?_
        rintro e w5 ⟨rfl, hb⟩
        refine ⟨_, rfl, ?_⟩
        have nHB := Aside0.mk (below_step (below_drew1 HB.out) hb)
        clear rx rt
        refine hK.out _ _ ⟨pw_cell_below hb hHeld.1, pw_cell_below hb hHeld.2.1, pw_cell_below hb hHeld.2.2.1, pw_cell_below hb hHeld.2.2.2.1, pw_cell_below hb hHeld.2.2.2.2.1, pw_cell_below hb hHeld.2.2.2.2.2.1, pw_cell_below hb hHeld.2.2.2.2.2.2.1, pw_cell_below hb hHeld.2.2.2.2.2.2.2⟩ (fun hHeld => ?_)
        clear hK K
        refine norm_ (a' := ?_) ?_ ?_
        rotate_left
        · show Act.put _ (some 32) _ = _
          simp only [Act.put, List.setIfInBounds_toArray, List.set_cons_zero, List.set_cons_succ, i64_w, i32_w]
          rfl
        clear HB hb
        have HB := nHB
        clear nHB
        refine pure_ (i := 11) (N := some 33) (v := ?_) (a' := ?_) #[true, true, true, true, true, true, true, true, true, true, true, true, false] rfl rfl (by kernel_rfl) (fun _ _ _ h => h) (Or.inl ⟨by rfl, ?_⟩) ?_ ?_
        rotate_left
        · intro w'
          go_simp
          with_reducible rfl
        rotate_left
        · simp only [Act.put, List.setIfInBounds_toArray, List.set_cons_zero, List.set_cons_succ, i64_w, i32_w]
          rfl
        refine pure_ (i := 12) (N := some 34) (v := ?_) (a' := ?_) #[true, true, true, true, true, true, true, true, true, true, true, true, true] rfl rfl (by kernel_rfl) (fun _ _ _ h => h) (Or.inl ⟨by rfl, ?_⟩) ?_ ?_
        rotate_left
        · intro w'
          go_simp
          with_reducible rfl
        rotate_left
        · simp only [Act.put, List.setIfInBounds_toArray, List.set_cons_zero, List.set_cons_succ, i64_w, i32_w]
          rfl
        refine done_ (by kernel_rfl) ?_
        go_wp2
        go_ret
        exact ⟨some ad, c, by rw [HIN.out]; rfl, by rw [HIN.out]; exact hlc, by rw [HIN.out]; exact Kd.C_below HL.out HB.out, fun ad2 h => Or.inl (by first | exact h | injection h), below_step HB0.out HB.out⟩
      have HINS := Aside0.mk (insT_at l t i hin HBT.out (fun h => by rw [← HX.out]; omega))
      have gz : (cmpT x t == 0) = false := by simp [hz]
      have gz2 : (cmpT x t = 0) = False := eq_false hz
      clear hz hc HX
      go_upto_region 4 with (fail)
      refine start_ (n := 13) (S := fun w' => w'.cell? ⟨w.heap.size, 0, none⟩ = some (.int .i64 t.f0) ∧ w'.cell? ⟨w.heap.size, 1, none⟩ = some (.int .i64 t.f1) ∧ w'.cell? ⟨w.heap.size, 2, none⟩ = some (.slice A2 t.f2.length c2) ∧ w'.cell? ⟨w.heap.size, 3, none⟩ = some (.slice A3 t.f3.length c3) ∧ w'.cell? (ad.add (i * 4)) = some (.int .i64 x.f0) ∧ w'.cell? ⟨(ad.add (i * 4)).block, (ad.add (i * 4)).off + 1, none⟩ = some (.int .i64 x.f1) ∧ w'.cell? ⟨(ad.add (i * 4)).block, (ad.add (i * 4)).off + 2, none⟩ = some (.slice B2 x.f2.length b2) ∧ w'.cell? ⟨(ad.add (i * 4)).block, (ad.add (i * 4)).off + 3, none⟩ = some (.slice B3 x.f3.length b3)) (ds := []) #[false, false, false, false, false, false, false, false, false, false, false, false, false] (by kernel_rfl) rfl rfl ⟨t0, t1, t2, t3, q0, q1, q2, q3⟩ (fun hHeld => ?_)
      refine pure_ (i := 0) (N := some 22) (v := ?_) (a' := ?_) #[true, false, false, false, false, false, false, false, false, false, false, false, false] rfl rfl (by kernel_rfl) (fun _ _ _ h => h) (Or.inl ⟨by rfl, ?_⟩) ?_ ?_
      rotate_left
      · intro w'
        go_simp
        with_reducible rfl
      rotate_left
      · simp only [Act.put, List.setIfInBounds_toArray, List.set_cons_zero, List.set_cons_succ, i64_w, i32_w]
        rfl
      refine pure_ (i := 1) (N := some 23) (v := ?_) (a' := ?_) #[true, true, false, false, false, false, false, false, false, false, false, false, false] rfl rfl (by kernel_rfl) (fun _ _ _ h => h) (Or.inl ⟨by rfl, ?_⟩) ?_ ?_
      rotate_left
      · intro w'
        go_simp
        with_reducible rfl
      rotate_left
      · simp only [Act.put, List.setIfInBounds_toArray, List.set_cons_zero, List.set_cons_succ, i64_w, i32_w]
        rfl
      refine pure_ (i := 2) (N := some 24) (v := ?_) (a' := ?_) #[true, true, true, false, false, false, false, false, false, false, false, false, false] rfl rfl (by kernel_rfl) (fun _ _ _ h => h) (Or.inl ⟨by rfl, ?_⟩) ?_ ?_
      rotate_left
      · intro w'
        go_simp
        with_reducible rfl
      rotate_left
      · simp only [Act.put, List.setIfInBounds_toArray, List.set_cons_zero, List.set_cons_succ, i64_w, i32_w]
        rfl
      refine pure_ (i := 3) (N := some 25) (v := ?_) (a' := ?_) #[true, true, true, true, false, false, false, false, false, false, false, false, false] rfl rfl (by kernel_rfl) (fun _ _ _ h => h) (Or.inl ⟨by rfl, ?_⟩) ?_ ?_
      rotate_left
      · intro w'
        go_simp
        with_reducible rfl
      rotate_left
      · simp only [Act.put, List.setIfInBounds_toArray, List.set_cons_zero, List.set_cons_succ, i64_w, i32_w]
        rfl
      refine pure_ (i := 4) (N := some 26) (v := ?_) (a' := ?_) #[true, true, true, true, true, false, false, false, false, false, false, false, false] rfl rfl (by kernel_rfl) (fun _ _ _ h => h) (Or.inl ⟨by rfl, ?_⟩) ?_ ?_
      rotate_left
      · intro w'
        go_simp
        with_reducible rfl
      rotate_left
      · simp only [Act.put, List.setIfInBounds_toArray, List.set_cons_zero, List.set_cons_succ, i64_w, i32_w]
        rfl
      refine pure_ (i := 5) (N := some 27) (v := ?_) (a' := ?_) #[true, true, true, true, true, true, false, false, false, false, false, false, false] rfl rfl (by kernel_rfl) (fun _ _ _ h => h) (Or.inl ⟨by rfl, ?_⟩) ?_ ?_
      rotate_left
      · intro w'
        go_simp
        with_reducible rfl
      rotate_left
      · simp only [Act.put, List.setIfInBounds_toArray, List.set_cons_zero, List.set_cons_succ, i64_w, i32_w]
        rfl
      refine pure_ (i := 6) (N := some 28) (v := ?_) (a' := ?_) #[true, true, true, true, true, true, true, false, false, false, false, false, false] rfl rfl (by kernel_rfl) (fun _ _ _ h => h) (Or.inl ⟨by rfl, ?_⟩) ?_ ?_
      rotate_left
      · intro w'
        go_simp
        with_reducible rfl
      rotate_left
      · simp only [Act.put, List.setIfInBounds_toArray, List.set_cons_zero, List.set_cons_succ, i64_w, i32_w]
        rfl
      refine pure_ (i := 7) (N := some 29) (v := ?_) (a' := ?_) #[true, true, true, true, true, true, true, true, false, false, false, false, false] rfl rfl (by kernel_rfl) (fun _ _ _ h => h) (Or.inl ⟨by rfl, ?_⟩) ?_ ?_
      rotate_left
      · intro w'
        go_simp
        with_reducible rfl
      rotate_left
      · simp only [Act.put, List.setIfInBounds_toArray, List.set_cons_zero, List.set_cons_succ, i64_w, i32_w]
        rfl
      refine take_ (i := 8) (N := some 30) (v := ?_) (a' := ?_) #[true, true, true, true, true, true, true, true, true, false, false, false, false] rfl rfl (by kernel_rfl) (fun _ _ _ h => h) (Or.inl ⟨by rfl, ?_⟩) hHeld ?_ ?_
      rotate_left
      · rintro w' ⟨s0, s1, s2, s3, s4, s5, s6, s7⟩
        go_simp
        with_reducible rfl
      rotate_left
      · simp only [Act.put, List.setIfInBounds_toArray, List.set_cons_zero, List.set_cons_succ, i64_w, i32_w]
        rfl
      refine take_ (i := 9) (N := some 31) (v := ?_) (a' := ?_) #[true, true, true, true, true, true, true, true, true, true, false, false, false] rfl rfl (by kernel_rfl) (fun _ _ _ h => h) (Or.inl ⟨by rfl, ?_⟩) hHeld ?_ ?_
      rotate_left
      · rintro w' ⟨s0, s1, s2, s3, s4, s5, s6, s7⟩
        go_simp
        with_reducible rfl
      rotate_left
      · simp only [Act.put, List.setIfInBounds_toArray, List.set_cons_zero, List.set_cons_succ, i64_w, i32_w]
        rfl
      refine one_ (i := 10) (N := some 32) #[true, true, true, true, true, true, true, true, true, true, true, false, false] rfl rfl (by kernel_rfl) (by decide) (fun K hK => ?_)
      refine call_ 22 #[.agg #[.int .i64 x.f0, .int .i64 x.f1, .slice B2 x.f2.length b2, .slice B3 x.f3.length b3], .agg #[.int .i64 t.f0, .int .i64 t.f1, .slice A2 t.f2.length c2, .slice A3 t.f3.length c3]] (by rfl) rfl ?_ ?_
      · go_simp
        try rfl
      have rx := ROWS.out.below (below_step HW.out (below_drew1 HB.out))
      have rt := HT.out.below (below_step HW.out (below_drew1 HB.out))
      refine (gussetref14_Compare.calls K0 _ _ _ _ _ _ _ _ _ _ _ _ _ _ _ _ _ _ rx.2.1 rx.1 rx.2.2.2 rx.2.2.1 rt.2.1 rt.1 rt.2.2.2 rt.2.2.1 EC.out).mono ?_
      rintro e w5 ⟨rfl, hb⟩
      refine ⟨_, rfl, ?_⟩
      have nHB := Aside0.mk (below_step (below_drew1 HB.out) hb)
      clear rx rt
      refine hK.out _ _ ⟨pw_cell_below hb hHeld.1, pw_cell_below hb hHeld.2.1, pw_cell_below hb hHeld.2.2.1, pw_cell_below hb hHeld.2.2.2.1, pw_cell_below hb hHeld.2.2.2.2.1, pw_cell_below hb hHeld.2.2.2.2.2.1, pw_cell_below hb hHeld.2.2.2.2.2.2.1, pw_cell_below hb hHeld.2.2.2.2.2.2.2⟩ (fun hHeld => ?_)
      clear hK K
      refine norm_ (a' := ?_) ?_ ?_
      rotate_left
      · show Act.put _ (some 32) _ = _
        simp only [Act.put, List.setIfInBounds_toArray, List.set_cons_zero, List.set_cons_succ, i64_w, i32_w]
        rfl
      clear HB hb
      have HB := nHB
      clear nHB
      refine pure_ (i := 11) (N := some 33) (v := ?_) (a' := ?_) #[true, true, true, true, true, true, true, true, true, true, true, true, false] rfl rfl (by kernel_rfl) (fun _ _ _ h => h) (Or.inl ⟨by rfl, ?_⟩) ?_ ?_
      rotate_left
      · intro w'
        go_simp
        with_reducible rfl
      rotate_left
      · simp only [Act.put, List.setIfInBounds_toArray, List.set_cons_zero, List.set_cons_succ, i64_w, i32_w]
        rfl
      refine pure_ (i := 12) (N := some 34) (v := ?_) (a' := ?_) #[true, true, true, true, true, true, true, true, true, true, true, true, true] rfl rfl (by kernel_rfl) (fun _ _ _ h => h) (Or.inl ⟨by rfl, ?_⟩) ?_ ?_
      rotate_left
      · intro w'
        go_simp
        with_reducible rfl
      rotate_left
      · simp only [Act.put, List.setIfInBounds_toArray, List.set_cons_zero, List.set_cons_succ, i64_w, i32_w]
        rfl
      refine done_ (by kernel_rfl) ?_
      generalize hA : some ad = A at *
      clear hA
      obtain ⟨i25, hi25, _, hsz25, _⟩ := info_parts info25
      have hcut := cut_to (P := Tryd.prog) 23 25 .i64 Tryd.underlying23 hi25 A l.length c (i : Int) (by omega) (by omega) hlc
      have hfrom := cut_from (P := Tryd.prog) 23 25 .i64 Tryd.underlying23 hi25 4 hsz25 A l.length c (i : Int) (by omega) (by omega)
      rw [Int.toNat_natCast] at hcut hfrom
      have HD := Aside0.mk (Kd.C_drop (k := kW w0) (m := i) HL.out (by omega) hlc)
      have hds : (l.drop i).length = l.length - i := by rw [List.length_drop]
      have hts : (l.take i).length = i := by rw [List.length_take]; omega
      have HTK := Aside0.mk (Kd.C_take (k := kW w0) (m := i) HL.out (by omega))
      replace HD : Aside0 (ReadsRow (k25.K w0) 4 w1 (if c = i then A else A.map (·.add (i * 4))) (l.length - i) (l.drop i)) := ⟨by have := HD.out; rw [hds] at this; exact this⟩
      replace HTK : Aside0 (ReadsRow (k25.K w0) 4 w1 A i (l.take i)) := ⟨by have := HTK.out; rw [hts] at this; exact this⟩
      generalize (if c = i then A else A.map (·.add (i * 4))) = AD at *
      have HLT : Aside0 ((l.take i).length = i) := ⟨hts⟩
      have HLD : Aside0 ((l.drop i).length = l.length - i) := ⟨hds⟩
      generalize l.take i = P at *
      generalize l.drop i = D at *
      clear hds hts
      have hle1 : ((i : Int) ≤ (l.length : Int)) = True := eq_true (by omega)
      have hle2 : decide ((i : Int) ≤ (l.length : Int)) = true := decide_eq_true (by omega)
      have hcc : ((i : Int) ≤ (c : Int)) = True := eq_true (by omega)
      go_wp2_with (first | ((with_reducible refine gate_builtin (b := .append) (xs := #[.tmp 36, .tmp 39]) rfl ?_); at_builtin; refine Kd.R_append_rows (kW w0) (w0 := w1) w1.heap.size rfl (.tmp 36) (.tmp 39) 23 25 (.agg #[.int .i64 0, .int .i64 0, .slice none 0 0, .slice none 0 0]) 64 rfl Tryd.underlying23 info25 rfl (Nat.zero_lt_succ 3) (by decide) (.slice none 0 0) ([] : List Ty) P A i c (fun _ => True) (fun _ => False) rfl rfl (Kd.R_nil _ _ _ _ _) (ReadsRow.imp_ HTK.out (by repeat (first | (with_reducible first | exact HB.out | apply below_alloc | apply pw_below_drewN | apply below_drew1) | exact HB.out)) (fun _ _ h => h)) (fun _ _ h => h) (fun _ h => h.elim) (fun _ _ => trivial) (by repeat (first | (with_reducible first | exact HB.out | apply below_alloc | apply pw_below_drewN | apply below_drew1) | exact HB.out)) (below_size (by repeat (first | (with_reducible first | exact HB.out | apply below_alloc | apply pw_below_drewN | apply below_drew1) | exact HB.out))) (by simp only [List.length_nil]; omega) ?_; intro v7 w7 ho hb hg hat; have HB_ := Aside0.mk hb; have HR7 := Aside0.mk ho; clear ho hg hat HB hb; have HB := HB_; clear HB_; obtain ⟨⟨z0, z1, z2, z3⟩, _⟩ := box4T (blk_below BX.out HB.out); rw [List.nil_append] at HR7; obtain ⟨A7, c7, e7⟩ := Kd.R_slice HR7.out; subst e7) | ((with_reducible refine gate_builtin (b := .append) (xs := #[.tmp 41, .tmp 43]) rfl ?_); at_builtin; refine Kd.R_append (kW w0) (w0 := w1) w1.heap.size rfl (.tmp 41) (.tmp 43) 23 25 (.agg #[.int .i64 0, .int .i64 0, .slice none 0 0, .slice none 0 0]) 64 rfl Tryd.underlying23 info25 rfl (Nat.zero_lt_succ 3) (by decide) (.slice A7 P.length c7) P t [.int .i64 t.f0, .int .i64 t.f1, .slice A2 t.f2.length c2, .slice A3 t.f3.length c3] (fun _ => True) (fun _ => False) rfl rfl (k25_mk w0 t HT.out.1 HT.out.2.1 HT.out.2.2.1 HT.out.2.2.2) (fun _ h => h.elim) (fun _ _ => trivial) HR7.out (by repeat (first | (with_reducible first | exact HB.out | apply below_alloc | apply pw_below_drewN | apply below_drew1) | exact HB.out)) (below_size (by repeat (first | (with_reducible first | exact HB.out | apply below_alloc | apply pw_below_drewN | apply below_drew1) | exact HB.out))) (by have := HLT.out; omega) ?_; intro v8 w8 ho hb hg hat; have HB_ := Aside0.mk hb; obtain ⟨Q, hQ⟩ : ∃ Q, Q = P ++ [t] := ⟨_, rfl⟩; rw [← hQ] at ho; have HQ := Aside0.mk hQ; have HR8 := Aside0.mk ho; clear ho hg hat HB hb HR7 hQ; have HB := HB_; clear HB_; obtain ⟨A8, c8, e8⟩ := Kd.R_slice HR8.out; subst e8) | ((with_reducible refine gate_builtin (b := .append) (xs := #[.tmp 45, .tmp 48]) rfl ?_); at_builtin; refine Kd.R_append_rows (kW w0) (w0 := w1) w1.heap.size rfl (.tmp 45) (.tmp 48) 23 25 (.agg #[.int .i64 0, .int .i64 0, .slice none 0 0, .slice none 0 0]) 64 rfl Tryd.underlying23 info25 rfl (Nat.zero_lt_succ 3) (by decide) (.slice A8 Q.length c8) Q D AD (l.length - i) (c - i) (fun _ => True) (fun _ => False) rfl rfl (HR8.out) (ReadsRow.imp_ HD.out (by repeat (first | (with_reducible first | exact HB.out | apply below_alloc | apply pw_below_drewN | apply below_drew1) | exact HB.out)) (fun _ _ h => h)) (fun _ _ h => h) (fun _ h => h.elim) (fun _ _ => trivial) (by repeat (first | (with_reducible first | exact HB.out | apply below_alloc | apply pw_below_drewN | apply below_drew1) | exact HB.out)) (below_size (by repeat (first | (with_reducible first | exact HB.out | apply below_alloc | apply pw_below_drewN | apply below_drew1) | exact HB.out))) (by have := HLT.out; have h2 := congrArg List.length HQ.out; simp only [List.length_append, List.length_cons, List.length_nil] at h2; omega) ?_; intro v9 w9 ho hb hg hat; have HB_ := Aside0.mk hb; have HR9 := Aside0.mk ho; clear ho hg hat HB hb; have HB := HB_; clear HB_; clear HR8))
      go_ret
      obtain ⟨A9, c9, e9, l9, g9⟩ := Kd.R_reads HR9.out
      subst e9
      have e9 : Q ++ D = insT l t := by rw [HINS.out, HQ.out]
      rw [e9] at l9 g9 ⊢
      exact ⟨A9, c9, rfl, l9, g9, fun ad h => Or.inr (by subst h; have := Kd.R_base HR9.out ad.block (by simp [Value.ownBlock]); have := HB0.out.size; omega), below_step HB0.out (by repeat (first | (with_reducible first | exact HB.out | apply below_alloc | apply pw_below_drewN | apply below_drew1) | exact HB.out))⟩
    · have hlt2 : ((i : Int) < (l.length : Int)) = False := eq_false (by omega)
      have hlt3 : decide ((i : Int) < (l.length : Int)) = false := decide_eq_false (by omega)
      have HINS := Aside0.mk (insT_at l t i hin HBT.out (fun h => absurd h hi))
      go_wp2
      go_quiet (fail)
      go_wp2
      go_quiet (fail)
      obtain ⟨i25, hi25, _, hsz25, _⟩ := info_parts info25
      have hcut := cut_to (P := Tryd.prog) 23 25 .i64 Tryd.underlying23 hi25 A l.length c (i : Int) (by omega) (by omega) hlc
      have hfrom := cut_from (P := Tryd.prog) 23 25 .i64 Tryd.underlying23 hi25 4 hsz25 A l.length c (i : Int) (by omega) (by omega)
      rw [Int.toNat_natCast] at hcut hfrom
      have HD := Aside0.mk (Kd.C_drop (k := kW w0) (m := i) HL.out (by omega) hlc)
      have hds : (l.drop i).length = l.length - i := by rw [List.length_drop]
      have hts : (l.take i).length = i := by rw [List.length_take]; omega
      have HTK := Aside0.mk (Kd.C_take (k := kW w0) (m := i) HL.out (by omega))
      replace HD : Aside0 (ReadsRow (k25.K w0) 4 w1 (if c = i then A else A.map (·.add (i * 4))) (l.length - i) (l.drop i)) := ⟨by have := HD.out; rw [hds] at this; exact this⟩
      replace HTK : Aside0 (ReadsRow (k25.K w0) 4 w1 A i (l.take i)) := ⟨by have := HTK.out; rw [hts] at this; exact this⟩
      generalize (if c = i then A else A.map (·.add (i * 4))) = AD at *
      have HLT : Aside0 ((l.take i).length = i) := ⟨hts⟩
      have HLD : Aside0 ((l.drop i).length = l.length - i) := ⟨hds⟩
      generalize l.take i = P at *
      generalize l.drop i = D at *
      clear hds hts
      have hle1 : ((i : Int) ≤ (l.length : Int)) = True := eq_true (by omega)
      have hle2 : decide ((i : Int) ≤ (l.length : Int)) = true := decide_eq_true (by omega)
      have hcc : ((i : Int) ≤ (c : Int)) = True := eq_true (by omega)
      go_wp2_with (first | ((with_reducible refine gate_builtin (b := .append) (xs := #[.tmp 36, .tmp 39]) rfl ?_); at_builtin; refine Kd.R_append_rows (kW w0) (w0 := w1) w1.heap.size rfl (.tmp 36) (.tmp 39) 23 25 (.agg #[.int .i64 0, .int .i64 0, .slice none 0 0, .slice none 0 0]) 64 rfl Tryd.underlying23 info25 rfl (Nat.zero_lt_succ 3) (by decide) (.slice none 0 0) ([] : List Ty) P A i c (fun _ => True) (fun _ => False) rfl rfl (Kd.R_nil _ _ _ _ _) (ReadsRow.imp_ HTK.out (by repeat (first | (with_reducible first | exact HB.out | apply below_alloc | apply pw_below_drewN | apply below_drew1) | exact HB.out)) (fun _ _ h => h)) (fun _ _ h => h) (fun _ h => h.elim) (fun _ _ => trivial) (by repeat (first | (with_reducible first | exact HB.out | apply below_alloc | apply pw_below_drewN | apply below_drew1) | exact HB.out)) (below_size (by repeat (first | (with_reducible first | exact HB.out | apply below_alloc | apply pw_below_drewN | apply below_drew1) | exact HB.out))) (by simp only [List.length_nil]; omega) ?_; intro v7 w7 ho hb hg hat; have HB_ := Aside0.mk hb; have HR7 := Aside0.mk ho; clear ho hg hat HB hb; have HB := HB_; clear HB_; obtain ⟨⟨z0, z1, z2, z3⟩, _⟩ := box4T (blk_below BX.out HB.out); rw [List.nil_append] at HR7; obtain ⟨A7, c7, e7⟩ := Kd.R_slice HR7.out; subst e7) | ((with_reducible refine gate_builtin (b := .append) (xs := #[.tmp 41, .tmp 43]) rfl ?_); at_builtin; refine Kd.R_append (kW w0) (w0 := w1) w1.heap.size rfl (.tmp 41) (.tmp 43) 23 25 (.agg #[.int .i64 0, .int .i64 0, .slice none 0 0, .slice none 0 0]) 64 rfl Tryd.underlying23 info25 rfl (Nat.zero_lt_succ 3) (by decide) (.slice A7 P.length c7) P t [.int .i64 t.f0, .int .i64 t.f1, .slice A2 t.f2.length c2, .slice A3 t.f3.length c3] (fun _ => True) (fun _ => False) rfl rfl (k25_mk w0 t HT.out.1 HT.out.2.1 HT.out.2.2.1 HT.out.2.2.2) (fun _ h => h.elim) (fun _ _ => trivial) HR7.out (by repeat (first | (with_reducible first | exact HB.out | apply below_alloc | apply pw_below_drewN | apply below_drew1) | exact HB.out)) (below_size (by repeat (first | (with_reducible first | exact HB.out | apply below_alloc | apply pw_below_drewN | apply below_drew1) | exact HB.out))) (by have := HLT.out; omega) ?_; intro v8 w8 ho hb hg hat; have HB_ := Aside0.mk hb; obtain ⟨Q, hQ⟩ : ∃ Q, Q = P ++ [t] := ⟨_, rfl⟩; rw [← hQ] at ho; have HQ := Aside0.mk hQ; have HR8 := Aside0.mk ho; clear ho hg hat HB hb HR7 hQ; have HB := HB_; clear HB_; obtain ⟨A8, c8, e8⟩ := Kd.R_slice HR8.out; subst e8) | ((with_reducible refine gate_builtin (b := .append) (xs := #[.tmp 45, .tmp 48]) rfl ?_); at_builtin; refine Kd.R_append_rows (kW w0) (w0 := w1) w1.heap.size rfl (.tmp 45) (.tmp 48) 23 25 (.agg #[.int .i64 0, .int .i64 0, .slice none 0 0, .slice none 0 0]) 64 rfl Tryd.underlying23 info25 rfl (Nat.zero_lt_succ 3) (by decide) (.slice A8 Q.length c8) Q D AD (l.length - i) (c - i) (fun _ => True) (fun _ => False) rfl rfl (HR8.out) (ReadsRow.imp_ HD.out (by repeat (first | (with_reducible first | exact HB.out | apply below_alloc | apply pw_below_drewN | apply below_drew1) | exact HB.out)) (fun _ _ h => h)) (fun _ _ h => h) (fun _ h => h.elim) (fun _ _ => trivial) (by repeat (first | (with_reducible first | exact HB.out | apply below_alloc | apply pw_below_drewN | apply below_drew1) | exact HB.out)) (below_size (by repeat (first | (with_reducible first | exact HB.out | apply below_alloc | apply pw_below_drewN | apply below_drew1) | exact HB.out))) (by have := HLT.out; have h2 := congrArg List.length HQ.out; simp only [List.length_append, List.length_cons, List.length_nil] at h2; omega) ?_; intro v9 w9 ho hb hg hat; have HB_ := Aside0.mk hb; have HR9 := Aside0.mk ho; clear ho hg hat HB hb; have HB := HB_; clear HB_; clear HR8))
      go_ret
      obtain ⟨A9, c9, e9, l9, g9⟩ := Kd.R_reads HR9.out
      subst e9
      have e9 : Q ++ D = insT l t := by rw [HINS.out, HQ.out]
      rw [e9] at l9 g9 ⊢
      exact ⟨A9, c9, rfl, l9, g9, fun ad h => Or.inr (by subst h; have := Kd.R_base HR9.out ad.block (by simp [Value.ownBlock]); have := HB0.out.size; omega), below_step HB0.out (by repeat (first | (with_reducible first | exact HB.out | apply below_alloc | apply pw_below_drewN | apply below_drew1) | exact HB.out))⟩
end Go.Proofs.YtjcajpkgamolkaaDoor.Ty
namespace Go.Proofs.YtjcajpkgamolkaaDoor.Ty
open Go.RowKit Go.Proofs.YtjcajpkgamolkaaDoor.PTyp Go.Proofs.YtjcajpkgamolkaaDoorW.PrintWords Go.Proofs.YtjcajpkgamolkaaDoorW.PrintLast Go.Proofs.YtjcajpkgamolkaaDoorW.PrintMore
set_option linter.unusedVariables false
set_option linter.unusedSimpArgs false
def FitU (u : List Ty) : Prop := ¬ (1 < u.length ∧ 300 < 1 + sizeTs u)
theorem size_part {t x : Ty} (h : x ∈ partsOf t) : sizeT x ≤ sizeT t := by
  unfold partsOf at h
  split at h
  · have h1 := sizeTs_mem h
    have : sizeT t = 1 + sizeTs t.l := by cases t; rw [sizeT_mk]; rfl
    omega
  · rw [List.mem_singleton.1 h]; exact Nat.le_refl _
theorem fit_le {u : List Ty} (h : FitU u) (hs : ∀ x ∈ u, sizeT x ≤ 300) : 1 + sizeTs u ≤ 301 := by
  unfold FitU at h
  match u, h, hs with
  | [], _, _ => rw [sizeTs_nil]; omega
  | [a], _, hs => rw [sizeTs_cons, sizeTs_nil]; have := hs a (by simp); omega
  | a :: b :: r, h, _ =>
    simp only [List.length_cons] at h
    omega
theorem join_fit {u : List Ty} (h : FitU u) (hs : ∀ x ∈ u, sizeT x ≤ 300) : sizeT (joinT u) ≤ 300 := by
  unfold FitU at h
  unfold joinT
  split
  · rename_i h1
    obtain ⟨x, rfl⟩ := List.length_eq_one_iff.1 h1
    exact hs x (by simp)
  · rename_i h1
    rw [sizeT_mk]
    match u, h, h1 with
    | [], _, _ => rw [sizeTs_nil]; omega
    | [a], _, h1 => exact absurd rfl h1
    | a :: b :: r, h, _ =>
      simp only [List.length_cons] at h
      omega
theorem norm_snoc (m : List Ty) (x : Ty) : normT (m ++ [x]) = insT (normT m) x := by
  unfold normT; rw [insAll_append]; rfl
theorem norm_sizes {l m : List Ty} (hg : l.any isGreat = false) (hm : ∀ x ∈ m, x ∈ l.flatMap partsOf) : ∀ x ∈ normT m, sizeT x ≤ 300 := by
  intro x hx
  obtain ⟨t, ht, hxt⟩ := List.mem_flatMap.1 (hm x (normT_mem.1 hx))
  have h1 := size_part hxt
  have h2 := List.any_eq_false.1 hg t ht
  unfold isGreat at h2
  have h3 : ¬ 300 < sizeT t := fun h => h2 (decide_eq_true h)
  omega
theorem flat_at {l : List Ty} {i : Nat} (hi : i < l.length) {t : Ty} (ht : l[i] = t) : l.flatMap partsOf = (l.take i).flatMap partsOf ++ partsOf t ++ (l.drop (i + 1)).flatMap partsOf := by
  have e : l = l.take i ++ t :: l.drop (i + 1) := by
    rw [← ht]
    exact (List.take_append_drop i l).symm.trans (by rw [drop_at hi])
  conv => lhs; rw [e]
  rw [List.flatMap_append, List.flatMap_cons, List.append_assoc]
theorem ref_great {l : List Ty} {i : Nat} (hi : i < l.length) {t : Ty} (ht : l[i] = t) (k : Nat) (h : ¬ FitU (normT ((l.take i).flatMap partsOf ++ (partsOf t).take k))) (hz : l.length ≠ 0) (hm : mayTs l = true) (ha : l.any isAny = false) : unionT l = (zeroT, 3) := by
  obtain ⟨h1, h2⟩ : 1 < (normT ((l.take i).flatMap partsOf ++ (partsOf t).take k)).length ∧ 300 < 1 + sizeTs (normT ((l.take i).flatMap partsOf ++ (partsOf t).take k)) := Decidable.not_not.1 h
  have e : normT (l.flatMap partsOf) = insAll (normT ((l.take i).flatMap partsOf ++ (partsOf t).take k)) ((partsOf t).drop k ++ (l.drop (i + 1)).flatMap partsOf) := by
    unfold normT
    rw [← insAll_append, flat_at hi ht, List.append_assoc, List.append_assoc, ← List.append_assoc (List.take k _), List.take_append_drop]
  have hg := (great_stays (m := (partsOf t).drop k ++ (l.drop (i + 1)).flatMap partsOf) h1 h2).2
  rw [← e] at hg
  unfold unionT
  rw [if_neg hz, if_neg (by rw [hm]; simp), if_neg (by rw [show (l.any fun t => t.k == 1) = false from ha]; simp), if_pos (by rw [decide_eq_true hg, Bool.or_true])]
theorem ref_union {l : List Ty} (hz : l.length ≠ 0) (hm : mayTs l = true) (ha : l.any isAny = false) (hg : l.any isGreat = false) (hf : FitU (normT (l.flatMap partsOf))) : unionT l = (joinT (normT (l.flatMap partsOf)), 0) := by
  have h := join_fit hf (norm_sizes hg (fun x hx => hx))
  unfold unionT
  rw [if_neg hz, if_neg (by rw [hm]; simp), if_neg (by rw [show (l.any fun t => t.k == 1) = false from ha]; simp), if_neg (by rw [show (l.any fun t => decide (300 < sizeT t)) = false from hg, decide_eq_false (by omega)]; simp)]
theorem ref_great1 {l : List Ty} (hz : l.length ≠ 0) (hm : mayTs l = true) (ha : l.any isAny = false) (hg : l.any isGreat = true) : unionT l = (zeroT, 3) := by
  unfold unionT
  rw [if_neg hz, if_neg (by rw [hm]; simp), if_neg (by rw [show (l.any fun t => t.k == 1) = false from ha]; simp), if_pos (by rw [show (l.any fun t => decide (300 < sizeT t)) = true from hg]; rfl)]
theorem sum_small {a b s : Nat} (h : s = a + b) (ha : a ≤ 301) (hb : b ≤ 300) : s ≤ 601 ∧ (a : Int) + (b : Int) = (s : Int) ∧ wrap64 (s : Int) = (s : Int) := by
  subst h
  refine ⟨by omega, by omega, ?_⟩
  rw [wrap_id _ (by omega)]
theorem fit_nil : FitU (normT []) := by unfold FitU normT insAll; simp
theorem kW_far {w W : World} {A : Option Addr} {n : Nat} {xs : List Ty} (h : (kW w).C W A n xs) {b : Nat} (hne : ∀ ad, A = some ad → ad.block ≠ b) (o : Nat) (u : Value) : (kW w).C (W.setCell ⟨b, o, none⟩ u) A n xs := by
  refine ⟨h.1, h.2.1, fun hp => ?_⟩
  obtain ⟨ad, e, hc⟩ := h.2.2 hp
  refine ⟨ad, e, fun j p hj => ?_⟩
  obtain ⟨c, h1, h2, h3⟩ := hc j p hj
  exact ⟨c, h1, h2, fun i v hv => (cell_far (p := ⟨b, o, none⟩) (a := ad.add (j * (kW w).sz + i)) (by have := hne ad e; unfold Addr.add; split <;> exact this) u).trans (h3 i v hv)⟩
theorem kW_far4 {w W : World} {A : Option Addr} {n : Nat} {xs : List Ty} (h : (kW w).C W A n xs) {b : Nat} (hne : ∀ ad, A = some ad → ad.block ≠ b) (u0 u1 u2 u3 : Value) : (kW w).C ((((W.setCell ⟨b, 0, none⟩ u0).setCell ⟨b, 1, none⟩ u1).setCell ⟨b, 2, none⟩ u2).setCell ⟨b, 3, none⟩ u3) A n xs := kW_far (kW_far (kW_far (kW_far h hne _ _) hne _ _) hne _ _) hne _ _
theorem kW_one {w W : World} {g : Nat} {t : Ty} {A2 A3 : Option Addr} {c2 c3 : Nat} (hr : RowsT w t A2 c2 A3 c3) (hb : W.heap[g]? = some (.cells #[.int .i64 t.f0, .int .i64 t.f1, .slice A2 t.f2.length c2, .slice A3 t.f3.length c3] 25 (0, 0))) : (kW w).C W (some ⟨g, 0, none⟩) [t].length [t] := by
  refine ⟨rfl, by simp, fun _ => ⟨_, rfl, fun j p hj => ?_⟩⟩
  match j, hj with
  | 0, hj =>
    obtain rfl : t = p := by simpa using hj
    refine ⟨_, rfl, k25_mk w t hr.1 hr.2.1 hr.2.2.1 hr.2.2.2, fun i v hv => ?_⟩
    have := blk_cell hb i
    rw [add_plain, show 0 * (kW w).sz + i = i by rw [Nat.zero_mul, Nat.zero_add]]
    rw [this]
    match i, hv with
    | 0, hv => exact hv
    | 1, hv => exact hv
    | 2, hv => exact hv
    | 3, hv => exact hv
    | i + 4, hv => simp at hv
  | j + 1, hj => simp at hj
end Go.Proofs.YtjcajpkgamolkaaDoor.Ty
namespace Go.Proofs.YtjcajpkgamolkaaDoor.Ty
open Go.RowKit Go.Proofs.YtjcajpkgamolkaaDoor.PTyp Go.Proofs.YtjcajpkgamolkaaDoorW.PrintWords Go.Proofs.YtjcajpkgamolkaaDoorW.PrintLast Go.Proofs.YtjcajpkgamolkaaDoorW.PrintMore
set_option linter.unusedVariables false
set_option linter.unusedSimpArgs false
def RowsK (w0 W : World) (g : Nat) (t : Ty) (A2 : Option Addr) (c2 : Nat) (A3 : Option Addr) (c3 : Nat) : Prop := t.f2.length ≤ c2 ∧ Kd.string.C w0 A2 t.f2.length t.f2 ∧ t.f3.length ≤ c3 ∧ (kW w0).C W A3 t.f3.length t.f3 ∧ (0 < t.f3.length → ∀ ad, A3 = some ad → ad.block < w0.heap.size ∨ g ≤ ad.block)
theorem rowsK_zero (w0 W : World) (g : Nat) : RowsK w0 W g zeroT none 0 none 0 := ⟨Nat.le_refl _, ⟨rfl, by decide, fun h => absurd h (by decide)⟩, Nat.le_refl _, ⟨rfl, by decide, fun h => absurd h (by decide)⟩, fun _ _ h => by cases h⟩
theorem rowsK_any (w0 W : World) (g : Nat) : RowsK w0 W g anyT none 0 none 0 := ⟨Nat.le_refl _, ⟨rfl, by decide, fun h => absurd h (by decide)⟩, Nat.le_refl _, ⟨rfl, by decide, fun h => absurd h (by decide)⟩, fun _ _ h => by cases h⟩
theorem cell_lt {W : World} {a : Addr} {v : Value} (h : W.cell? a = some v) : a.block < W.heap.size := World.block_lt_of_cell? W a h
theorem rowsK_of {w0 W : World} {g : Nat} {t : Ty} {A2 A3 : Option Addr} {c2 c3 : Nat} (h : RowsT w0 t A2 c2 A3 c3) (hB : Below w0.heap.size w0 W) : RowsK w0 W g t A2 c2 A3 c3 := by
  refine ⟨h.1, h.2.1, h.2.2.1, kW_of h.2.2.2 hB, fun hp ad e => Or.inl ?_⟩
  obtain ⟨ad', B2, d2, B3, d3, e', q0, _⟩ := at_ty h.2.2.2 (Below.refl _ _) hp
  rw [e] at e'; injection e' with e'; subst e'
  have := cell_lt q0
  unfold Addr.add at this
  split at this <;> exact this
theorem RowsK.stay {w0 W X : World} {g : Nat} {t : Ty} {A2 A3 : Option Addr} {c2 c3 : Nat} (h : RowsK w0 W g t A2 c2 A3 c3) (hW : Below w0.heap.size w0 W) (hB : Below w0.heap.size w0 X) (hn : ∀ j, g ≤ j → j < W.heap.size → X.heap[j]? = W.heap[j]?) : RowsT X t A2 c2 A3 c3 := by
  refine ⟨h.1, Kd.C_below h.2.1 hB, h.2.2.1, ?_⟩
  obtain ⟨h1, h2, hc⟩ := h.2.2.2.1
  refine ⟨h1, h2, fun hp => ?_⟩
  obtain ⟨ad, e, hr⟩ := hc hp
  refine ⟨ad, e, fun j p hj => ?_⟩
  obtain ⟨c, k1, k2, k3⟩ := hr j p hj
  refine ⟨c, k1, k25.K_below hB k2, fun i v hv => ?_⟩
  have q := k3 i v hv
  have hx : (ad.add (j * (kW w0).sz + i)).block = ad.block := by unfold Addr.add; split <;> rfl
  have hl := cell_lt q
  have hh : X.heap[(ad.add (j * (kW w0).sz + i)).block]? = W.heap[(ad.add (j * (kW w0).sz + i)).block]? := by
    rcases h.2.2.2.2 hp ad e with h5 | h5
    · rw [hx]; exact (hB.block _ h5).trans (hW.block _ h5).symm
    · exact hn _ (by rw [hx]; exact h5) hl
  have : X.cell? (ad.add (j * (kW w0).sz + i)) = W.cell? (ad.add (j * (kW w0).sz + i)) := World.cell?_of_block hh
  exact this.trans q
set_option maxHeartbeats 4000000 in
set_option maxRecDepth 100000 in
theorem refunion_calls (w0 : World) (A0 : Option Addr) (c0 : Nat) (l0 : List Ty) (w : World) (h0 : Below w0.heap.size w0 w) (hr0 : Kd.C k25 w0 A0 l0.length l0) (hc0 : l0.length ≤ c0) (hw : wTs l0 ≤ 1000000000000) :
    Calls Tryd.prog 25 #[.slice A0 l0.length c0] w fun e w' => ∃ A2 c2 A3 c3, e = .returned (.tuple #[.agg #[.int .i64 (unionT l0).1.f0, .int .i64 (unionT l0).1.f1, .slice A2 (unionT l0).1.f2.length c2, .slice A3 (unionT l0).1.f3.length c3], .int .i64 (unionT l0).2]) ∧ RowsK w0 w' w.heap.size (unionT l0).1 A2 c2 A3 c3 ∧ Below w.heap.size w w' := by
  have hu25 := Tryd.underlying25
  have hn := wTs_len l0
  have HR := Aside0.mk hr0
  have H0 := Aside0.mk h0
  have HW := Aside0.mk hw
  have HC0 := Aside0.mk hc0
  have hn1 : l0.length ≤ 1000000000000 := by omega
  clear hr0 hw hc0 hn h0
  have BZ0 := heap_alloc_new w (.cells #[.int .i64 0, .int .i64 0, .slice none 0 0, .slice none 0 0] 25)
  by_cases hz : l0.length = 0
  · have hu : unionT l0 = (zeroT, 1) := by unfold unionT; rw [if_pos hz]
    rw [hu]
    have hz' : ((l0.length : Int) == 0) = true := by simp [hz]
    have P := Aside0.mk BZ0
    have HBz := Aside0.mk (below_alloc (Below.refl w.heap.size w) (.cells #[.int .i64 0, .int .i64 0, .slice none 0 0, .slice none 0 0] 25))
    obtain ⟨⟨z0, z1, z2, z3⟩, y0, y1, y2, y3⟩ := box4 BZ0
    go_enter Tryd.func25, Tryd.ntmps25
    go_wp2
    refine bodyPost_ret (results_ct rfl _ _ w.heap.size 25 #[.int .i64 0, .int .i64 0, .slice none 0 0, .slice none 0 0] (0, 0) _ rfl P.out Tryd.underlying25 rfl (by kernel_rfl)) rfl ?_
    exact ⟨none, 0, none, 0, rfl, rowsK_zero _ _ _, HBz.out⟩
  · have hz' : ((l0.length : Int) == 0) = false := by simp [hz]
    have B0 := Aside0.mk BZ0
    clear BZ0
    go_enter Tryd.func25, Tryd.ntmps25
    go_wp2
    go_loopw [4, 5, 6] (fun v4 v5 v6 W => ∃ i : Nat, v6 = .int .i64 i ∧ i ≤ l0.length ∧ v4 = .bool ((l0.take i).any isAny) ∧ v5 = .bool ((l0.take i).any isGreat) ∧ Aside0 (mayTs (l0.take i) = true) ∧ Aside0 (Below w.heap.size w W) ∧ Aside0 (W.heap[w.heap.size]? = some (.cells #[.int .i64 0, .int .i64 0, .slice none 0 0, .slice none 0 0] 25))) (fun v4 v5 v6 _ => l0.length + 1 - (RowKit.intOf v6).toNat)
    case atStart => exact ⟨0, rfl, Nat.zero_le _, by simp, by simp, ⟨mayTs_nil⟩, ⟨below_alloc (Below.refl _ _) _⟩, B0⟩
    case round =>
      clear B0
      obtain ⟨i, rfl, hin, rfl, rfl, HM, HB, B2⟩ := hrel
      by_cases hi : i < l0.length
      · obtain ⟨ad, A2, c2, A3, c3, e, q0, q1, q2, q3, rows⟩ := at_ty HR.out (below_step H0.out HB.out) hi
        have ROWS := Aside0.mk rows
        have HWi : Aside0 (wT l0[i] ≤ 1000000000000) := ⟨by have := wTs_mem (List.getElem_mem hi); have := HW.out; omega⟩
        clear rows
        generalize ht : l0[i] = t at *
        have HTI := Aside0.mk ht
        clear ht
        subst e
        have hlt : ((i : Int) < (l0.length : Int)) = True := by simp [hi]
        have hge : ((0 : Int) ≤ (i : Int)) = True := by simp
        go_wp2_with (go_at_call 37; refine holdT_ ?_)
        unfold HeldT
        refine (rmay_calls t (by have := HWi.out; omega) A2 c2 A3 c3 _ (ROWS.out.below (below_step H0.out HB.out))).mono ?_
        rintro e w1 ⟨rfl, hb⟩
        replace q0 := pw_cell_below hb q0
        replace q1 := pw_cell_below hb q1
        replace q2 := pw_cell_below hb q2
        replace q3 := pw_cell_below hb q3
        have nHB := Aside0.mk (below_step HB.out hb)
        have nB2 := Aside0.mk (blk_below B2.out hb)
        clear HB B2 hb
        have HB := nHB
        have B2 := nB2
        clear nHB nB2
        cases hm : mayT t with
        | false =>
          have hu : unionT l0 = (zeroT, 1) := by
            have h1 : mayTs l0 = false := by
              rw [Bool.eq_false_iff]; intro h2
              have := (mayTs_iff l0).1 h2 l0[i] (List.getElem_mem hi)
              rw [HTI.out, hm] at this; cases this
            unfold unionT; rw [if_neg hz, if_pos h1]
          have HU := Aside0.mk hu
          clear hu
          obtain ⟨⟨z0, z1, z2, z3⟩, y0, y1, y2, y3⟩ := box4 B2.out
          go_wp2
          refine bodyPost_ret (results_ct rfl _ _ w.heap.size 25 #[.int .i64 0, .int .i64 0, .slice none 0 0, .slice none 0 0] (0, 0) _ rfl (put4 B2.out) Tryd.underlying25 rfl (by kernel_rfl)) rfl ?_
          rw [HU.out]
          exact ⟨none, 0, none, 0, rfl, rowsK_zero _ _ _, below_put4 HB.out (Nat.le_refl _)⟩
        | true =>
          go_upto_region 9 with (fail)
          go_cut [4] (fun v4 wc => v4 = .bool ((l0.take (i + 1)).any isAny) ∧ wc = w1)
          case first =>
            have hA := any_next isAny hi HTI.out
            cases hwd : (l0.take i).any isAny with
            | true =>
              rw [hwd] at hA
              go_wp2
              go_meet
              case rel => exact ⟨by rw [hA]; first | rfl | simp [isAny], rfl⟩
            | false =>
              rw [hwd] at hA
              go_wp2
              go_meet
              case rel => exact ⟨by rw [hA]; first | rfl | simp [isAny], rfl⟩
          obtain ⟨rfl, rfl⟩ := hcut
          have hA := any_next isGreat hi HTI.out
          cases hwd : (l0.take i).any isGreat with
          | true =>
            rw [hwd] at hA
            go_wp2
            go_roundw
            case measure => simp [RowKit.intOf]; omega
            case rel => exact ⟨i + 1, by go_num, hi, rfl, by rw [hA]; rfl, ⟨may_next hi HTI.out HM.out hm⟩, HB, B2⟩
          | false =>
            rw [hwd] at hA
            obtain ⟨K1, hK1⟩ := rsize_ev t (by have := HWi.out; omega)
            have ES := Aside0.mk (hK1 K1 (Nat.le_refl _))
            have hr2 := ROWS.out.below (below_step H0.out HB.out)
            clear hK1
            go_wp2_with (go_at_call 16; refine holdT_ ?_)
            unfold HeldT
            refine (gussetref14_Size.calls K1 _ _ _ _ _ _ _ _ _ _ hr2.2.1 hr2.1 hr2.2.2.2 hr2.2.2.1 ES.out).mono ?_
            rintro e w2 ⟨rfl, hb⟩
            clear hr2
            have nHB := Aside0.mk (below_step HB.out hb)
            have nB2 := Aside0.mk (blk_below B2.out hb)
            clear HB B2 hb
            go_wp2
            go_roundw
            case measure => simp [RowKit.intOf]; omega
            case rel => exact ⟨i + 1, by go_num, hi, rfl, by rw [hA]; simp [isGreat]; omega, ⟨may_next hi HTI.out HM.out hm⟩, nHB, nB2⟩
      · obtain rfl : i = l0.length := by omega
        have hlt : ((l0.length : Int) < (l0.length : Int)) = False := by simp
        have hM : Aside0 (mayTs l0 = true) := ⟨by have := HM.out; rwa [List.take_length] at this⟩
        clear HM
        simp only [List.take_length]
        cases ha : l0.any isAny with
        | true =>
          have HU : Aside0 (unionT l0 = (anyT, 0)) := ⟨union_any (by rintro rfl; exact hz rfl) hM.out ha⟩
          obtain ⟨⟨z0, z1, z2, z3⟩, y0, y1, y2, y3⟩ := box4 B2.out
          go_wp2
          refine bodyPost_ret (results_ct rfl _ _ w.heap.size 25 #[.int .i64 1, .int .i64 0, .slice none 0 0, .slice none 0 0] (0, 0) _ rfl (put4 B2.out) Tryd.underlying25 rfl (by kernel_rfl)) rfl ?_
          rw [HU.out]
          exact ⟨none, 0, none, 0, rfl, rowsK_any _ _ _, below_put4 HB.out (Nat.le_refl _)⟩
        | false =>
          cases hg : l0.any isGreat with
          | true =>
            have HU : Aside0 (unionT l0 = (zeroT, 3)) := ⟨ref_great1 hz hM.out ha hg⟩
            obtain ⟨⟨z0, z1, z2, z3⟩, y0, y1, y2, y3⟩ := box4 B2.out
            go_wp2
            refine bodyPost_ret (results_ct rfl _ _ w.heap.size 25 #[.int .i64 0, .int .i64 0, .slice none 0 0, .slice none 0 0] (0, 0) _ rfl (put4 B2.out) Tryd.underlying25 rfl (by kernel_rfl)) rfl ?_
            rw [HU.out]
            exact ⟨none, 0, none, 0, rfl, rowsK_zero _ _ _, below_put4 HB.out (Nat.le_refl _)⟩
          | false =>
            have HA := Aside0.mk ha
            have HG := Aside0.mk hg
            clear ha hg
            go_wp2
            go_loopw [7, 8, 9] (fun v7 v8 v9 W => ∃ (i : Nat) (Ao : Option Addr) (co sz : Nat) (U : List Ty), v9 = .int .i64 i ∧ i ≤ l0.length ∧ v7 = .slice Ao U.length co ∧ v8 = .int .i64 sz ∧ Aside0 (U = normT ((l0.take i).flatMap partsOf) ∧ sz = 1 + sizeTs U ∧ FitU U ∧ U.length ≤ co ∧ (∀ ad : Addr, Ao = some ad → w.heap.size < ad.block)) ∧ Aside0 ((kW w0).C W Ao U.length U) ∧ Aside0 (Below w.heap.size w W) ∧ Aside0 (W.heap[w.heap.size]? = some (.cells #[.int .i64 0, .int .i64 0, .slice none 0 0, .slice none 0 0] 25))) (fun _ _ v9 _ => l0.length + 1 - (RowKit.intOf v9).toNat)
            case atStart => exact ⟨0, none, 0, 1, [], rfl, Nat.zero_le _, rfl, rfl, ⟨by simp [normT, insAll], by rw [sizeTs_nil], fit_nil, Nat.le_refl _, fun ad h => by cases h⟩, ⟨⟨rfl, by decide, fun h => absurd h (by decide)⟩⟩, HB, B2⟩
            case round =>
              clear HB B2 hin hi
              obtain ⟨i, Ao, co, sz, U, rfl, hin, rfl, rfl, HU, HC, HB, B2⟩ := hrel
              have hge : ((0 : Int) ≤ (i : Int)) = True := by simp
              by_cases hi : i < l0.length
              · obtain ⟨ad, A2, c2, A3, c3, e, q0, q1, q2, q3, rows⟩ := at_ty HR.out (below_step H0.out HB.out) hi
                have ROWS := Aside0.mk rows
                have HWi : Aside0 (wT l0[i] ≤ 1000000000000) := ⟨by have := wTs_mem (List.getElem_mem hi); have := HW.out; omega⟩
                clear rows
                generalize ht : l0[i] = t at *
                have HTI := Aside0.mk ht
                clear ht
                subst e
                have hlt2 : ((i : Int) < (l0.length : Int)) = True := eq_true (by omega)
                obtain ⟨Pi, hPi⟩ : ∃ Pi, Pi = (l0.take i).flatMap partsOf := ⟨_, rfl⟩
                have HPI : Aside0 ((l0.take i).flatMap partsOf = Pi) := ⟨hPi.symm⟩
                clear hPi
                have HBI : Aside0 (Below wr.heap.size wr (wr.alloc (.cells #[.int .i64 t.f0, .int .i64 t.f1, .slice A2 t.f2.length c2, .slice A3 t.f3.length c3] 25))) := ⟨below_alloc (Below.refl _ _) _⟩
                have a0 := pw_cell_below HBI.out q0
                have a1 := pw_cell_below HBI.out q1
                have a2 := pw_cell_below HBI.out q2
                have a3 := pw_cell_below HBI.out q3
                by_cases k10 : t.f0 = 10
                · have hk10 : (t.f0 == 10) = true := by simp [k10]
                  have HPT : Aside0 (partsOf t = t.f3) := ⟨by unfold partsOf; rw [if_pos (show t.k = 10 from k10)]; rfl⟩
                  clear k10
                  have HP : Aside0 ((kW w0).C (wr.alloc (.cells #[.int .i64 t.f0, .int .i64 t.f1, .slice A2 t.f2.length c2, .slice A3 t.f3.length c3] 25)) A3 t.f3.length t.f3) := ⟨kW_of ROWS.out.2.2.2 (below_step H0.out (below_step HB.out HBI.out))⟩
                  have hLP : (t.f3).length ≤ 1000000000000 := by have h1 := HWi.out; rw [wT_is] at h1; have h2 := wTs_len t.f3; omega
                  go_wp2
                  go_loopw [7, 8, 11] (fun v7 v8 v11 W => ∃ (k : Nat) (Av : Option Addr) (cv sv : Nat) (V : List Ty), v11 = .int .i64 k ∧ k ≤ t.f3.length ∧ v7 = .slice Av V.length cv ∧ v8 = .int .i64 sv ∧ Aside0 (V = normT (Pi ++ (t.f3).take k) ∧ sv = 1 + sizeTs V ∧ FitU V ∧ V.length ≤ cv ∧ (∀ ad : Addr, Av = some ad → w.heap.size < ad.block)) ∧ Aside0 ((kW w0).C W Av V.length V) ∧ Aside0 ((kW w0).C W A3 (t.f3).length t.f3) ∧ Aside0 (Below w.heap.size w W) ∧ Aside0 (W.heap[w.heap.size]? = some (.cells #[.int .i64 0, .int .i64 0, .slice none 0 0, .slice none 0 0] 25))) (fun _ _ v11 _ => t.f3.length + 1 - (RowKit.intOf v11).toNat)
                  case atStart => exact ⟨0, Ao, co, sz, U, rfl, Nat.zero_le _, rfl, rfl, ⟨by have := HU.out.1; rw [HPI.out] at this; rw [List.take_zero, List.append_nil]; exact this, HU.out.2⟩, ⟨Kd.C_below HC.out HBI.out⟩, HP, ⟨below_step HB.out HBI.out⟩, ⟨blk_below B2.out HBI.out⟩⟩
                  case round =>
                    clear HP HB B2 HC HU q0 q1 q2 q3 a0 a1 a2 a3 HBI
                    obtain ⟨k, Av, cv, sv, V, rfl, hkn, rfl, rfl, HV, HC, HP, HB, B2⟩ := hrel
                    have hgk : ((0 : Int) ≤ (k : Int)) = True := by simp
                    have hkb : k ≤ 1000000000000 := by omega
                    by_cases hk : k < (t.f3).length
                    · have hlk : ((k : Int) < ((t.f3.length : Nat) : Int)) = True := eq_true (by first | (simp at hk; omega) | omega)
                      have hlk0 : (k < t.f3.length) = True := eq_true hk
                      obtain ⟨ap, C2, d2, C3, d3, e, p0, p1, p2, p3, rows⟩ := at_kW HP.out hk
                      have ROWX := Aside0.mk rows
                      obtain ⟨x, hx⟩ : ∃ x, x = (t.f3)[k] := ⟨_, rfl⟩
                      rw [← hx] at p0 p1 p2 p3 ROWX
                      have HXS : Aside0 ((t.f3).take k ++ [x] = (t.f3).take (k + 1)) := ⟨by rw [hx, List.take_succ_eq_append_getElem hk]⟩
                      have HXM : Aside0 (x ∈ partsOf t) := ⟨by rw [HPT.out, hx]; exact List.getElem_mem hk⟩
                      clear hx rows
                      subst e
                      have HWX : Aside0 (wT x ≤ 1000000000000) := ⟨by have h1 := wTs_mem HXM.out; have h2 := wTs_parts t; have h3 := HWi.out; omega⟩
                      have HWV : Aside0 (wTs V ≤ 1000000000000) := ⟨by
                        rw [HV.out.1]
                        have h1 := wTs_norm (Pi ++ (t.f3).take k)
                        have h2 := flat_at hi HTI.out
                        have h3 := wTs_flat l0
                        rw [h2, HPI.out, wTs_append, wTs_append, HPT.out] at h3
                        have h4 := wTs_take_drop (t.f3) k
                        rw [wTs_append] at h1
                        have := HW.out; omega⟩
                      have hvc := HV.out.2.2.2.1
                      go_wp2_with (go_at_call 46; refine holdT_ ?_)
                      unfold HeldT
                      refine (insert_calls w0 V Av cv x C2 d2 C3 d3 _ (below_step H0.out HB.out) HC.out hvc ROWX.out HWV.out HWX.out).mono ?_
                      rintro e w1 ⟨A1, c1, rfl, hl1, hc1, hne, hb⟩
                      replace p0 := pw_cell_below hb p0
                      replace p1 := pw_cell_below hb p1
                      replace p2 := pw_cell_below hb p2
                      replace p3 := pw_cell_below hb p3
                      have HNE : Aside0 (∀ ad : Addr, A1 = some ad → w.heap.size < ad.block) := ⟨fun ad h => by
                        rcases hne ad h with h | h
                        · exact HV.out.2.2.2.2 ad h
                        · have := blk_lt B2.out; omega⟩
                      have HC1 := Aside0.mk hc1
                      have nHB := Aside0.mk (below_step HB.out hb)
                      have nB2 := Aside0.mk (blk_below B2.out hb)
                      have nHP := Aside0.mk (Kd.C_below HP.out hb)
                      clear HB B2 HP hb hc1 hne
                      have HB := nHB
                      have B2 := nB2
                      have HP := nHP
                      clear nHB nB2 nHP
                      have HSZ : Aside0 (sv ≤ 301) := ⟨by
                        rw [HV.out.2.1]
                        refine fit_le HV.out.2.2.1 ?_
                        rw [HV.out.1]
                        refine norm_sizes HG.out (fun y hy => ?_)
                        rw [flat_at hi HTI.out, HPI.out, HPT.out]
                        rcases List.mem_append.1 hy with h | h
                        · simp [h]
                        · exact List.mem_append.2 (Or.inl (List.mem_append.2 (Or.inr (List.mem_of_mem_take h))))⟩
                      have HSX : Aside0 (sizeT x ≤ 300) := ⟨by
                        have h1 := size_part HXM.out
                        have h2 := List.any_eq_false.1 HG.out t (by rw [← HTI.out]; exact List.getElem_mem hi)
                        unfold isGreat at h2
                        have h3 : ¬ 300 < sizeT t := fun h => h2 (decide_eq_true h)
                        omega⟩
                      have HIS := Aside0.mk (insT_size V x)
                      obtain ⟨V1, hV1⟩ : ∃ V1, V1 = insT V x := ⟨_, rfl⟩
                      rw [← hV1] at HC1 HIS hl1 ⊢
                      have HV1 := Aside0.mk hV1
                      clear hV1
                      by_cases hgr : V1.length > V.length
                      · have HS1 : Aside0 (sv + sizeT x = 1 + sizeTs V1) := ⟨by rw [HIS.out.1 hgr, HV.out.2.1]; omega⟩
                        have g5 : (V.length < V1.length) = True := eq_true hgr
                        have g6 : ((V.length : Int) < (V1.length : Int)) = True := eq_true (by omega)
                        obtain ⟨K1, hK1⟩ := rsize_ev x (by have := HWX.out; omega)
                        have ES := Aside0.mk (hK1 K1 (Nat.le_refl _))
                        have hr2 := ROWX.out.below (below_step H0.out HB.out)
                        clear hK1 hgr
                        go_wp2_with (go_at_call 16; refine holdT_ ?_)
                        unfold HeldT
                        refine (gussetref14_Size.calls K1 _ _ _ _ _ _ _ _ _ _ hr2.2.1 hr2.1 hr2.2.2.2 hr2.2.2.1 ES.out).mono ?_
                        rintro e w2 ⟨rfl, hb⟩
                        clear hr2 ES HIS
                        generalize sizeT x = sx at *
                        have nHB := Aside0.mk (below_step HB.out hb)
                        have nB2 := Aside0.mk (blk_below B2.out hb)
                        have nHP := Aside0.mk (Kd.C_below HP.out hb)
                        have nHC := Aside0.mk (Kd.C_below HC1.out hb)
                        clear HB B2 HP HC1 hb p0 p1 p2 p3
                        have HB := nHB
                        have B2 := nB2
                        have HP := nHP
                        have HC1 := nHC
                        clear nHB nB2 nHP nHC
                        have hsv := HSZ.out
                        have hsx := HSX.out
                        obtain ⟨s1, hs1⟩ : ∃ s1, s1 = sv + sx := ⟨_, rfl⟩
                        rw [← hs1] at HS1
                        obtain ⟨hs1b, hsum2, hsum⟩ := sum_small hs1 hsv hsx
                        have HSM : Aside0 (wrap64 ((sv : Int) + (sx : Int)) = (s1 : Int)) := ⟨by rw [hsum2, hsum]⟩
                        clear hs1 hsv hsx hsum2 hsum hs1b
                        go_upto_region 30 with (fail)
                        rw [HSM.out]
                        clear HSM
                        by_cases hfit : FitU V1
                        · by_cases h1 : 1 < V1.length
                          · have g1 : (1 < V1.length) = True := eq_true h1
                            have g2 : ((1 : Int) < (V1.length : Int)) = True := eq_true (by omega)
                            have hle : ¬ 300 < s1 := fun h => hfit ⟨h1, by have := HS1.out; omega⟩
                            have g3 : (300 < s1) = False := eq_false hle
                            have g4 : ((300 : Int) < (s1 : Int)) = False := eq_false (by omega)
                            clear h1 hle
                            go_wp2
                            go_roundw
                            case measure => simp [RowKit.intOf]; omega
                            case rel => exact ⟨k + 1, A1, c1, s1, V1, by go_num, Nat.succ_le_of_lt hk, rfl, by first | (with_reducible rfl) | go_num, ⟨by rw [HV1.out, HV.out.1, ← norm_snoc, List.append_assoc, HXS.out], HS1.out, hfit, hl1, HNE.out⟩, HC1, HP, HB, B2⟩
                          · have g1 : (1 < V1.length) = False := eq_false h1
                            have g2 : ((1 : Int) < (V1.length : Int)) = False := eq_false (by omega)
                            clear h1
                            go_wp2
                            go_roundw
                            case measure => simp [RowKit.intOf]; omega
                            case rel => exact ⟨k + 1, A1, c1, s1, V1, by go_num, Nat.succ_le_of_lt hk, rfl, by first | (with_reducible rfl) | go_num, ⟨by rw [HV1.out, HV.out.1, ← norm_snoc, List.append_assoc, HXS.out], HS1.out, hfit, hl1, HNE.out⟩, HC1, HP, HB, B2⟩
                        · have HU : Aside0 (unionT l0 = (zeroT, 3)) := ⟨ref_great hi HTI.out (k + 1) (by rw [HPT.out, ← HXS.out, ← List.append_assoc, norm_snoc, HPI.out, ← HV.out.1, ← HV1.out]; exact hfit) hz hM.out HA.out⟩
                          obtain ⟨h1, h3⟩ : 1 < V1.length ∧ 300 < 1 + sizeTs V1 := Decidable.not_not.1 hfit
                          have g1 : (1 < V1.length) = True := eq_true h1
                          have g2 : ((1 : Int) < (V1.length : Int)) = True := eq_true (by omega)
                          have h4 : 300 < s1 := by have := HS1.out; omega
                          have g3 : (300 < s1) = True := eq_true h4
                          have g4 : ((300 : Int) < (s1 : Int)) = True := eq_true (by omega)
                          clear h1 h3 h4 hfit
                          obtain ⟨⟨z0, z1, z2, z3⟩, y0, y1, y2, y3⟩ := box4 B2.out
                          go_wp2
                          refine bodyPost_ret (results_ct rfl _ _ w.heap.size 25 #[.int .i64 0, .int .i64 0, .slice none 0 0, .slice none 0 0] (0, 0) _ rfl (put4 B2.out) Tryd.underlying25 rfl (by kernel_rfl)) rfl ?_
                          rw [HU.out]
                          exact ⟨none, 0, none, 0, rfl, rowsK_zero _ _ _, below_put4 HB.out (Nat.le_refl _)⟩
                      · have HS1 : Aside0 (sv = 1 + sizeTs V1) := ⟨by rw [HIS.out.2 hgr]; exact HV.out.2.1⟩
                        have g5 : (V.length < V1.length) = False := eq_false hgr
                        have g6 : ((V.length : Int) < (V1.length : Int)) = False := eq_false (by omega)
                        clear hgr p0 p1 p2 p3
                        by_cases hfit : FitU V1
                        · by_cases h1 : 1 < V1.length
                          · have g1 : (1 < V1.length) = True := eq_true h1
                            have g2 : ((1 : Int) < (V1.length : Int)) = True := eq_true (by omega)
                            have hle : ¬ 300 < sv := fun h => hfit ⟨h1, by have := HS1.out; omega⟩
                            have g3 : (300 < sv) = False := eq_false hle
                            have g4 : ((300 : Int) < (sv : Int)) = False := eq_false (by omega)
                            clear h1 hle
                            go_wp2
                            go_roundw
                            case measure => simp [RowKit.intOf]; omega
                            case rel => exact ⟨k + 1, A1, c1, sv, V1, by go_num, Nat.succ_le_of_lt hk, rfl, by first | (with_reducible rfl) | go_num, ⟨by rw [HV1.out, HV.out.1, ← norm_snoc, List.append_assoc, HXS.out], HS1.out, hfit, hl1, HNE.out⟩, HC1, HP, HB, B2⟩
                          · have g1 : (1 < V1.length) = False := eq_false h1
                            have g2 : ((1 : Int) < (V1.length : Int)) = False := eq_false (by omega)
                            clear h1
                            go_wp2
                            go_roundw
                            case measure => simp [RowKit.intOf]; omega
                            case rel => exact ⟨k + 1, A1, c1, sv, V1, by go_num, Nat.succ_le_of_lt hk, rfl, by first | (with_reducible rfl) | go_num, ⟨by rw [HV1.out, HV.out.1, ← norm_snoc, List.append_assoc, HXS.out], HS1.out, hfit, hl1, HNE.out⟩, HC1, HP, HB, B2⟩
                        · have HU : Aside0 (unionT l0 = (zeroT, 3)) := ⟨ref_great hi HTI.out (k + 1) (by rw [HPT.out, ← HXS.out, ← List.append_assoc, norm_snoc, HPI.out, ← HV.out.1, ← HV1.out]; exact hfit) hz hM.out HA.out⟩
                          obtain ⟨h1, h3⟩ : 1 < V1.length ∧ 300 < 1 + sizeTs V1 := Decidable.not_not.1 hfit
                          have g1 : (1 < V1.length) = True := eq_true h1
                          have g2 : ((1 : Int) < (V1.length : Int)) = True := eq_true (by omega)
                          have h4 : 300 < sv := by have := HS1.out; omega
                          have g3 : (300 < sv) = True := eq_true h4
                          have g4 : ((300 : Int) < (sv : Int)) = True := eq_true (by omega)
                          clear h1 h3 h4 hfit
                          obtain ⟨⟨z0, z1, z2, z3⟩, y0, y1, y2, y3⟩ := box4 B2.out
                          go_wp2
                          refine bodyPost_ret (results_ct rfl _ _ w.heap.size 25 #[.int .i64 0, .int .i64 0, .slice none 0 0, .slice none 0 0] (0, 0) _ rfl (put4 B2.out) Tryd.underlying25 rfl (by kernel_rfl)) rfl ?_
                          rw [HU.out]
                          exact ⟨none, 0, none, 0, rfl, rowsK_zero _ _ _, below_put4 HB.out (Nat.le_refl _)⟩
                    · have hlk : ((k : Int) < ((t.f3.length : Nat) : Int)) = False := eq_false (by first | (simp at hk; omega) | omega)
                      have hlk0 : (k < t.f3.length) = False := eq_false hk
                      have HK : Aside0 ((t.f3).take k = t.f3) := ⟨List.take_of_length_le (by omega)⟩
                      go_wp2
                      go_roundw
                      case measure => simp [RowKit.intOf]; omega
                      case rel => exact ⟨i + 1, Av, cv, sv, V, by go_num, hi, rfl, rfl, ⟨by rw [HV.out.1, HK.out, ← HPT.out, ← HPI.out, List.take_succ_eq_append_getElem hi, List.flatMap_append, HTI.out]; simp, HV.out.2⟩, HC, HB, B2⟩
                · have hk10 : (t.f0 == 10) = false := by simp [k10]
                  have HPT : Aside0 (partsOf t = [t]) := ⟨by unfold partsOf; rw [if_neg (show ¬ t.k = 10 from k10)]⟩
                  clear k10
                  have HP : Aside0 ((kW w0).C (wr.alloc (.cells #[.int .i64 t.f0, .int .i64 t.f1, .slice A2 t.f2.length c2, .slice A3 t.f3.length c3] 25)) (some ⟨wr.heap.size, 0, none⟩) [t].length [t]) := ⟨kW_one ROWS.out (heap_alloc_new wr (.cells #[.int .i64 t.f0, .int .i64 t.f1, .slice A2 t.f2.length c2, .slice A3 t.f3.length c3] 25))⟩
                  have sC := Aside0.mk (Kd.C_below HC.out HBI.out)
                  have sB := Aside0.mk (below_step HB.out HBI.out)
                  have s2 := Aside0.mk (blk_below B2.out HBI.out)
                  clear HBI
                  have hLP : ([t]).length ≤ 1000000000000 := by simp
                  go_wp2
                  generalize wr.heap.size = AP at *
                  go_loopw [7, 8, 11] (fun v7 v8 v11 W => ∃ (k : Nat) (Av : Option Addr) (cv sv : Nat) (V : List Ty), v11 = .int .i64 k ∧ k ≤ 1 ∧ v7 = .slice Av V.length cv ∧ v8 = .int .i64 sv ∧ Aside0 (V = normT (Pi ++ ([t]).take k) ∧ sv = 1 + sizeTs V ∧ FitU V ∧ V.length ≤ cv ∧ (∀ ad : Addr, Av = some ad → w.heap.size < ad.block)) ∧ Aside0 ((kW w0).C W Av V.length V) ∧ Aside0 ((kW w0).C W (some ⟨AP, 0, none⟩) ([t]).length [t]) ∧ Aside0 (Below w.heap.size w W) ∧ Aside0 (W.heap[w.heap.size]? = some (.cells #[.int .i64 0, .int .i64 0, .slice none 0 0, .slice none 0 0] 25))) (fun _ _ v11 _ => 1 + 1 - (RowKit.intOf v11).toNat)
                  case atStart => exact ⟨0, Ao, co, sz, U, rfl, Nat.zero_le _, rfl, rfl, ⟨by have := HU.out.1; rw [HPI.out] at this; rw [List.take_zero, List.append_nil]; exact this, HU.out.2⟩, sC, HP, sB, s2⟩
                  case round =>
                    clear HP HB B2 HC HU q0 q1 q2 q3 a0 a1 a2 a3 sC sB s2
                    obtain ⟨k, Av, cv, sv, V, rfl, hkn, rfl, rfl, HV, HC, HP, HB, B2⟩ := hrel
                    have hgk : ((0 : Int) ≤ (k : Int)) = True := by simp
                    have hkb : k ≤ 1000000000000 := by omega
                    by_cases hk : k < ([t]).length
                    · have hlk : ((k : Int) < (1 : Int)) = True := eq_true (by first | (simp at hk; omega) | omega)
                      have hk0 : k = 0 := by simpa using hk
                      have hlk0 : (k = 0) = True := eq_true hk0
                      have hlk1 : (k < 1) = True := eq_true (by omega)
                      clear hk0
                      obtain ⟨ap, C2, d2, C3, d3, e, p0, p1, p2, p3, rows⟩ := at_kW HP.out hk
                      have ROWX := Aside0.mk rows
                      obtain ⟨x, hx⟩ : ∃ x, x = ([t])[k] := ⟨_, rfl⟩
                      rw [← hx] at p0 p1 p2 p3 ROWX
                      have HXS : Aside0 (([t]).take k ++ [x] = ([t]).take (k + 1)) := ⟨by rw [hx, List.take_succ_eq_append_getElem hk]⟩
                      have HXM : Aside0 (x ∈ partsOf t) := ⟨by rw [HPT.out, hx]; exact List.getElem_mem hk⟩
                      clear hx rows
                      injection e with e
                      subst e
                      simp only [add_plain] at p0 p1 p2 p3
                      have HWX : Aside0 (wT x ≤ 1000000000000) := ⟨by have h1 := wTs_mem HXM.out; have h2 := wTs_parts t; have h3 := HWi.out; omega⟩
                      have HWV : Aside0 (wTs V ≤ 1000000000000) := ⟨by
                        rw [HV.out.1]
                        have h1 := wTs_norm (Pi ++ ([t]).take k)
                        have h2 := flat_at hi HTI.out
                        have h3 := wTs_flat l0
                        rw [h2, HPI.out, wTs_append, wTs_append, HPT.out] at h3
                        have h4 := wTs_take_drop ([t]) k
                        rw [wTs_append] at h1
                        have := HW.out; omega⟩
                      have hvc := HV.out.2.2.2.1
                      go_wp2_with (go_at_call 46; refine holdT_ ?_)
                      unfold HeldT
                      refine (insert_calls w0 V Av cv x C2 d2 C3 d3 _ (below_step H0.out HB.out) HC.out hvc ROWX.out HWV.out HWX.out).mono ?_
                      rintro e w1 ⟨A1, c1, rfl, hl1, hc1, hne, hb⟩
                      replace p0 := pw_cell_below hb p0
                      replace p1 := pw_cell_below hb p1
                      replace p2 := pw_cell_below hb p2
                      replace p3 := pw_cell_below hb p3
                      have HNE : Aside0 (∀ ad : Addr, A1 = some ad → w.heap.size < ad.block) := ⟨fun ad h => by
                        rcases hne ad h with h | h
                        · exact HV.out.2.2.2.2 ad h
                        · have := blk_lt B2.out; omega⟩
                      have HC1 := Aside0.mk hc1
                      have nHB := Aside0.mk (below_step HB.out hb)
                      have nB2 := Aside0.mk (blk_below B2.out hb)
                      have nHP := Aside0.mk (Kd.C_below HP.out hb)
                      clear HB B2 HP hb hc1 hne
                      have HB := nHB
                      have B2 := nB2
                      have HP := nHP
                      clear nHB nB2 nHP
                      have HSZ : Aside0 (sv ≤ 301) := ⟨by
                        rw [HV.out.2.1]
                        refine fit_le HV.out.2.2.1 ?_
                        rw [HV.out.1]
                        refine norm_sizes HG.out (fun y hy => ?_)
                        rw [flat_at hi HTI.out, HPI.out, HPT.out]
                        rcases List.mem_append.1 hy with h | h
                        · simp [h]
                        · exact List.mem_append.2 (Or.inl (List.mem_append.2 (Or.inr (List.mem_of_mem_take h))))⟩
                      have HSX : Aside0 (sizeT x ≤ 300) := ⟨by
                        have h1 := size_part HXM.out
                        have h2 := List.any_eq_false.1 HG.out t (by rw [← HTI.out]; exact List.getElem_mem hi)
                        unfold isGreat at h2
                        have h3 : ¬ 300 < sizeT t := fun h => h2 (decide_eq_true h)
                        omega⟩
                      have HIS := Aside0.mk (insT_size V x)
                      obtain ⟨V1, hV1⟩ : ∃ V1, V1 = insT V x := ⟨_, rfl⟩
                      rw [← hV1] at HC1 HIS hl1 ⊢
                      have HV1 := Aside0.mk hV1
                      clear hV1
                      by_cases hgr : V1.length > V.length
                      · have HS1 : Aside0 (sv + sizeT x = 1 + sizeTs V1) := ⟨by rw [HIS.out.1 hgr, HV.out.2.1]; omega⟩
                        have g5 : (V.length < V1.length) = True := eq_true hgr
                        have g6 : ((V.length : Int) < (V1.length : Int)) = True := eq_true (by omega)
                        obtain ⟨K1, hK1⟩ := rsize_ev x (by have := HWX.out; omega)
                        have ES := Aside0.mk (hK1 K1 (Nat.le_refl _))
                        have hr2 := ROWX.out.below (below_step H0.out HB.out)
                        clear hK1 hgr
                        go_wp2_with (go_at_call 16; refine holdT_ ?_)
                        unfold HeldT
                        refine (gussetref14_Size.calls K1 _ _ _ _ _ _ _ _ _ _ hr2.2.1 hr2.1 hr2.2.2.2 hr2.2.2.1 ES.out).mono ?_
                        rintro e w2 ⟨rfl, hb⟩
                        clear hr2 ES HIS
                        generalize sizeT x = sx at *
                        have nHB := Aside0.mk (below_step HB.out hb)
                        have nB2 := Aside0.mk (blk_below B2.out hb)
                        have nHP := Aside0.mk (Kd.C_below HP.out hb)
                        have nHC := Aside0.mk (Kd.C_below HC1.out hb)
                        clear HB B2 HP HC1 hb p0 p1 p2 p3
                        have HB := nHB
                        have B2 := nB2
                        have HP := nHP
                        have HC1 := nHC
                        clear nHB nB2 nHP nHC
                        have hsv := HSZ.out
                        have hsx := HSX.out
                        obtain ⟨s1, hs1⟩ : ∃ s1, s1 = sv + sx := ⟨_, rfl⟩
                        rw [← hs1] at HS1
                        obtain ⟨hs1b, hsum2, hsum⟩ := sum_small hs1 hsv hsx
                        have HSM : Aside0 (wrap64 ((sv : Int) + (sx : Int)) = (s1 : Int)) := ⟨by rw [hsum2, hsum]⟩
                        clear hs1 hsv hsx hsum2 hsum hs1b
                        go_upto_region 30 with (fail)
                        rw [HSM.out]
                        clear HSM
                        by_cases hfit : FitU V1
                        · by_cases h1 : 1 < V1.length
                          · have g1 : (1 < V1.length) = True := eq_true h1
                            have g2 : ((1 : Int) < (V1.length : Int)) = True := eq_true (by omega)
                            have hle : ¬ 300 < s1 := fun h => hfit ⟨h1, by have := HS1.out; omega⟩
                            have g3 : (300 < s1) = False := eq_false hle
                            have g4 : ((300 : Int) < (s1 : Int)) = False := eq_false (by omega)
                            clear h1 hle
                            go_wp2
                            go_roundw
                            case measure => simp [RowKit.intOf]; omega
                            case rel => exact ⟨k + 1, A1, c1, s1, V1, by go_num, Nat.succ_le_of_lt hk, rfl, by first | (with_reducible rfl) | go_num, ⟨by rw [HV1.out, HV.out.1, ← norm_snoc, List.append_assoc, HXS.out], HS1.out, hfit, hl1, HNE.out⟩, HC1, HP, HB, B2⟩
                          · have g1 : (1 < V1.length) = False := eq_false h1
                            have g2 : ((1 : Int) < (V1.length : Int)) = False := eq_false (by omega)
                            clear h1
                            go_wp2
                            go_roundw
                            case measure => simp [RowKit.intOf]; omega
                            case rel => exact ⟨k + 1, A1, c1, s1, V1, by go_num, Nat.succ_le_of_lt hk, rfl, by first | (with_reducible rfl) | go_num, ⟨by rw [HV1.out, HV.out.1, ← norm_snoc, List.append_assoc, HXS.out], HS1.out, hfit, hl1, HNE.out⟩, HC1, HP, HB, B2⟩
                        · have HU : Aside0 (unionT l0 = (zeroT, 3)) := ⟨ref_great hi HTI.out (k + 1) (by rw [HPT.out, ← HXS.out, ← List.append_assoc, norm_snoc, HPI.out, ← HV.out.1, ← HV1.out]; exact hfit) hz hM.out HA.out⟩
                          obtain ⟨h1, h3⟩ : 1 < V1.length ∧ 300 < 1 + sizeTs V1 := Decidable.not_not.1 hfit
                          have g1 : (1 < V1.length) = True := eq_true h1
                          have g2 : ((1 : Int) < (V1.length : Int)) = True := eq_true (by omega)
                          have h4 : 300 < s1 := by have := HS1.out; omega
                          have g3 : (300 < s1) = True := eq_true h4
                          have g4 : ((300 : Int) < (s1 : Int)) = True := eq_true (by omega)
                          clear h1 h3 h4 hfit
                          obtain ⟨⟨z0, z1, z2, z3⟩, y0, y1, y2, y3⟩ := box4 B2.out
                          go_wp2
                          refine bodyPost_ret (results_ct rfl _ _ w.heap.size 25 #[.int .i64 0, .int .i64 0, .slice none 0 0, .slice none 0 0] (0, 0) _ rfl (put4 B2.out) Tryd.underlying25 rfl (by kernel_rfl)) rfl ?_
                          rw [HU.out]
                          exact ⟨none, 0, none, 0, rfl, rowsK_zero _ _ _, below_put4 HB.out (Nat.le_refl _)⟩
                      · have HS1 : Aside0 (sv = 1 + sizeTs V1) := ⟨by rw [HIS.out.2 hgr]; exact HV.out.2.1⟩
                        have g5 : (V.length < V1.length) = False := eq_false hgr
                        have g6 : ((V.length : Int) < (V1.length : Int)) = False := eq_false (by omega)
                        clear hgr p0 p1 p2 p3
                        by_cases hfit : FitU V1
                        · by_cases h1 : 1 < V1.length
                          · have g1 : (1 < V1.length) = True := eq_true h1
                            have g2 : ((1 : Int) < (V1.length : Int)) = True := eq_true (by omega)
                            have hle : ¬ 300 < sv := fun h => hfit ⟨h1, by have := HS1.out; omega⟩
                            have g3 : (300 < sv) = False := eq_false hle
                            have g4 : ((300 : Int) < (sv : Int)) = False := eq_false (by omega)
                            clear h1 hle
                            go_wp2
                            go_roundw
                            case measure => simp [RowKit.intOf]; omega
                            case rel => exact ⟨k + 1, A1, c1, sv, V1, by go_num, Nat.succ_le_of_lt hk, rfl, by first | (with_reducible rfl) | go_num, ⟨by rw [HV1.out, HV.out.1, ← norm_snoc, List.append_assoc, HXS.out], HS1.out, hfit, hl1, HNE.out⟩, HC1, HP, HB, B2⟩
                          · have g1 : (1 < V1.length) = False := eq_false h1
                            have g2 : ((1 : Int) < (V1.length : Int)) = False := eq_false (by omega)
                            clear h1
                            go_wp2
                            go_roundw
                            case measure => simp [RowKit.intOf]; omega
                            case rel => exact ⟨k + 1, A1, c1, sv, V1, by go_num, Nat.succ_le_of_lt hk, rfl, by first | (with_reducible rfl) | go_num, ⟨by rw [HV1.out, HV.out.1, ← norm_snoc, List.append_assoc, HXS.out], HS1.out, hfit, hl1, HNE.out⟩, HC1, HP, HB, B2⟩
                        · have HU : Aside0 (unionT l0 = (zeroT, 3)) := ⟨ref_great hi HTI.out (k + 1) (by rw [HPT.out, ← HXS.out, ← List.append_assoc, norm_snoc, HPI.out, ← HV.out.1, ← HV1.out]; exact hfit) hz hM.out HA.out⟩
                          obtain ⟨h1, h3⟩ : 1 < V1.length ∧ 300 < 1 + sizeTs V1 := Decidable.not_not.1 hfit
                          have g1 : (1 < V1.length) = True := eq_true h1
                          have g2 : ((1 : Int) < (V1.length : Int)) = True := eq_true (by omega)
                          have h4 : 300 < sv := by have := HS1.out; omega
                          have g3 : (300 < sv) = True := eq_true h4
                          have g4 : ((300 : Int) < (sv : Int)) = True := eq_true (by omega)
                          clear h1 h3 h4 hfit
                          obtain ⟨⟨z0, z1, z2, z3⟩, y0, y1, y2, y3⟩ := box4 B2.out
                          go_wp2
                          refine bodyPost_ret (results_ct rfl _ _ w.heap.size 25 #[.int .i64 0, .int .i64 0, .slice none 0 0, .slice none 0 0] (0, 0) _ rfl (put4 B2.out) Tryd.underlying25 rfl (by kernel_rfl)) rfl ?_
                          rw [HU.out]
                          exact ⟨none, 0, none, 0, rfl, rowsK_zero _ _ _, below_put4 HB.out (Nat.le_refl _)⟩
                    · have hlk : ((k : Int) < (1 : Int)) = False := eq_false (by first | (simp at hk; omega) | omega)
                      have hlk1 : (k < 1) = False := eq_false (by simpa using hk)
                      have hlk2 : (k = 0) = False := eq_false (fun h => hk (by simp [h]))
                      have HK : Aside0 (([t]).take k = [t]) := ⟨List.take_of_length_le (by omega)⟩
                      go_wp2
                      go_roundw
                      case measure => simp [RowKit.intOf]; omega
                      case rel => exact ⟨i + 1, Av, cv, sv, V, by go_num, hi, rfl, rfl, ⟨by rw [HV.out.1, HK.out, ← HPT.out, ← HPI.out, List.take_succ_eq_append_getElem hi, List.flatMap_append, HTI.out]; simp, HV.out.2⟩, HC, HB, B2⟩
              · have hlt2 : ((i : Int) < (l0.length : Int)) = False := eq_false (by omega)
                have e : i = l0.length := by omega
                have HUe : Aside0 (U = normT (l0.flatMap partsOf)) := ⟨by have := HU.out.1; rwa [e, List.take_length] at this⟩
                have HU3 : Aside0 (unionT l0 = (joinT U, 0)) := ⟨by have := ref_union hz hM.out HA.out HG.out (by rw [← HUe.out]; exact HU.out.2.2.1); rw [← HUe.out] at this; exact this⟩
                have HUC := Aside0.mk HU.out.2.2.2.1
                have HUN := Aside0.mk HU.out.2.2.2.2
                clear HU HUe e
                by_cases h1 : U.length = 1
                · obtain ⟨x, rfl⟩ := List.length_eq_one_iff.1 h1
                  obtain ⟨ad, C2, d2, C3, d3, e, p0, p1, p2, p3, rows⟩ := at_kW HC.out (i := 0) (by simp)
                  subst e
                  simp only [List.getElem_cons_zero, add0] at p0 p1 p2 p3 rows
                  have ROWX := Aside0.mk rows
                  clear rows
                  obtain ⟨⟨z0, z1, z2, z3⟩, y0, y1, y2, y3⟩ := box4 B2.out
                  have g1 : (([x].length : Int) == 1) = true := rfl
                  go_wp2
                  refine bodyPost_ret (results_ct rfl _ _ w.heap.size 25 #[.int .i64 x.f0, .int .i64 x.f1, .slice C2 x.f2.length d2, .slice C3 x.f3.length d3] (0, 0) _ rfl (put4 B2.out) Tryd.underlying25 rfl (by kernel_rfl)) rfl ?_
                  rw [HU3.out]
                  exact ⟨C2, d2, C3, d3, rfl, rowsK_of ROWX.out (below_step H0.out (below_put4 HB.out (Nat.le_refl _))), below_put4 HB.out (Nat.le_refl _)⟩
                · have g1 : ((U.length : Int) == 1) = false := by rw [beq_eq_false_iff_ne]; omega
                  have g2 : (U.length == 1) = false := by rw [beq_eq_false_iff_ne]; exact h1
                  have g3 : (U.length = 1) = False := eq_false h1
                  have HJ : Aside0 (joinT U = ⟨10, 0, [], U⟩) := ⟨by unfold joinT; rw [if_neg h1]⟩
                  clear h1
                  obtain ⟨⟨z0, z1, z2, z3⟩, y0, y1, y2, y3⟩ := box4 B2.out
                  go_wp2
                  refine bodyPost_ret (results_ct rfl _ _ w.heap.size 25 #[.int .i64 10, .int .i64 0, .slice none 0 0, .slice Ao U.length co] (0, 0) _ rfl (put4 B2.out) Tryd.underlying25 rfl (by kernel_rfl)) rfl ?_
                  rw [HU3.out, HJ.out]
                  exact ⟨none, 0, Ao, co, rfl, ⟨Nat.le_refl _, ⟨rfl, Nat.zero_le _, fun h => absurd h (Nat.lt_irrefl 0)⟩, HUC.out, kW_far4 HC.out (fun ad h => Nat.ne_of_gt (HUN.out ad h)) _ _ _ _, fun _ ad h => Or.inr (Nat.le_of_lt (HUN.out ad h))⟩, below_put4 HB.out (Nat.le_refl _)⟩
end Go.Proofs.YtjcajpkgamolkaaDoor.Ty
