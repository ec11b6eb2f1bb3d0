/- HM, as this claim needs it. -/
import Derived.Test.YtjcajpkgamolkaaDoorHNq
import Derived.Test.YtjcajpkgamolkaaDoorHKq
import Derived.Test.YtjcajpkgamolkaaDoorHBq
namespace Go.Proofs.YtjcajpkgamolkaaDoor.Ty
open Go.RowKit Go.Proofs.YtjcajpkgamolkaaDoor.PTyp Go.Proofs.YtjcajpkgamolkaaDoorW.PrintWords Go.Proofs.YtjcajpkgamolkaaDoorW.PrintLast Go.Proofs.YtjcajpkgamolkaaDoorW.PrintMore
set_option linter.unusedVariables false
set_option linter.unusedSimpArgs false
attribute [local go_sem high] bs_geqT
set_option maxHeartbeats 4000000 in
set_option maxRecDepth 100000 in
theorem rmay_calls (t : Ty) : wT t ≤ 1099511627776 → ∀ (A2 : Option Addr) (c2 : Nat) (A3 : Option Addr) (c3 : Nat) (w : World), RowsT w t A2 c2 A3 c3 → Calls Tryd.prog 37 #[.agg #[.int .i64 t.f0, .int .i64 t.f1, .slice A2 t.f2.length c2, .slice A3 t.f3.length c3]] w fun e w' => e = .returned (.bool (mayT t)) ∧ Below w.heap.size w w' := by
  refine Ty.ind (p := fun t => wT t ≤ 1099511627776 → ∀ (A2 : Option Addr) (c2 : Nat) (A3 : Option Addr) (c3 : Nat) (w : World), RowsT w t A2 c2 A3 c3 → Calls Tryd.prog 37 #[.agg #[.int .i64 t.f0, .int .i64 t.f1, .slice A2 t.f2.length c2, .slice A3 t.f3.length c3]] w fun e w' => e = .returned (.bool (mayT t)) ∧ Below w.heap.size w w') ?_ t
  intro k n ns l ih hw A2 c2 A3 c3 w hr
  rw [wT_mk] at hw
  have hn := wTs_len l
  have hnn : ns.length ≤ 1099511627776 := by omega
  have hln : l.length ≤ 1099511627776 := by omega
  obtain ⟨r1, r2, r3, r4⟩ := hr
  replace r2 : Kd.string.C w A2 ns.length ns := r2
  replace r4 : k25.C w A3 l.length l := r4
  have HR2 := Aside0.mk r2
  have HR := Aside0.mk r4
  have IH := Aside0.mk ih
  have HW : Aside0 (wTs l ≤ 1099511627776) := ⟨by omega⟩
  clear r1 r2 r3 r4 ih hw hn
  show Calls Tryd.prog 37 #[.agg #[.int .i64 k, .int .i64 n, .slice A2 ns.length c2, .slice A3 l.length c3]] w _
  have hu25 := Tryd.underlying25
  have hB := Aside0.mk (below_alloc (Below.refl w.heap.size w) (.cells #[.int .i64 k, .int .i64 n, .slice A2 ns.length c2, .slice A3 l.length c3] 25))
  have B0 := Aside0.mk (heap_alloc_new w (.cells #[.int .i64 k, .int .i64 n, .slice A2 ns.length c2, .slice A3 l.length c3] 25))
  go_enter Tryd.func37, Tryd.ntmps37
  go_wp2
  go_loopw [3] (fun v3 W => ∃ i : Nat, v3 = .int .i64 i ∧ i ≤ l.length ∧ Aside0 (mayTs (l.take i) = true) ∧ Aside0 (Below w.heap.size w W) ∧ Aside0 (W.heap[w.heap.size]? = some (.cells #[.int .i64 k, .int .i64 n, .slice A2 ns.length c2, .slice A3 l.length c3] 25))) (fun v3 _ => l.length + 1 - (RowKit.intOf v3).toNat)
  case atStart => exact ⟨0, rfl, Nat.zero_le _, ⟨mayTs_nil⟩, ⟨hB.out⟩, ⟨B0.out⟩⟩
  case round =>
    obtain ⟨i, rfl, hin, HM, HB, BX⟩ := hrel
    clear hB B0
    obtain ⟨⟨t0, t1, t2, t3⟩, _⟩ := box4T BX.out
    by_cases hi : i < l.length
    · obtain ⟨ad, B2, b2, B3, b3, e, q0, q1, q2, q3, rows⟩ := at_ty HR.out HB.out hi
      have ROWS := Aside0.mk rows
      have Hi := Aside0.mk (IH.out l[i] (List.getElem_mem hi) (by have := wTs_mem (List.getElem_mem hi); have := HW.out; omega))
      have HTI : Aside0 (∀ b, mayT l[i] = b → (b = true → mayTs (l.take (i + 1)) = true) ∧ (b = false → mayT ⟨k, n, ns, l⟩ = false)) := ⟨fun b hb => by
        refine ⟨fun h => ?_, fun h => ?_⟩
        · rw [mayTs_iff]
          intro x hx
          rw [List.take_succ_eq_append_getElem hi, List.mem_append, List.mem_singleton] at hx
          rcases hx with hx | rfl
          · exact (mayTs_iff _).1 HM.out x hx
          · rw [hb, h]
        · rw [mayT_mk]
          have : mayTs l = false := by
            rw [Bool.eq_false_iff]
            intro h2
            have := (mayTs_iff l).1 h2 l[i] (List.getElem_mem hi)
            rw [hb, h] at this; cases this
          rw [this, Bool.and_false]⟩
      clear rows
      generalize l[i] = x at *
      subst e
      have hlt : ((i : Int) < (l.length : Int)) = True := by simp [hi]
      have hge : ((0 : Int) ≤ (i : Int)) = True := by simp
      go_wp2_with (go_at_call 37; refine holdT_ ?_)
      unfold HeldT
      refine (Hi.out B2 b2 B3 b3 _ (ROWS.out.below HB.out)).mono ?_
      rintro e w1 ⟨rfl, hb⟩
      have nHB := Aside0.mk (below_step HB.out hb)
      have nBX := Aside0.mk (blk_below BX.out hb)
      have HTx := Aside0.mk (HTI.out _ rfl)
      clear HTI t0 t1 t2 t3 q0 q1 q2 q3
      cases hm : mayT x with
      | false =>
        have HF := Aside0.mk (HTx.out.2 hm)
        go_wp2
        go_ret
        exact ⟨by rw [HF.out]; rfl, nHB.out⟩
      | true =>
        have HT := Aside0.mk (HTx.out.1 hm)
        go_wp2
        go_roundw
        case measure => simp [RowKit.intOf]; omega
        case rel => exact ⟨i + 1, by go_num, hi, HT, nHB, nBX⟩
    · obtain rfl : i = l.length := by omega
      have hlt : ((l.length : Int) < (l.length : Int)) = False := by simp
      have HMT : Aside0 (mayT ⟨k, n, ns, l⟩ = shapeT ⟨k, n, ns, l⟩) := ⟨by
        have := HM.out
        rw [List.take_length] at this
        rw [mayT_mk, this, Bool.and_true]⟩
      by_cases h8 : k = 8
      · subst h8
        by_cases hn0 : n = 0
        · subst hn0
          have ht : True := trivial
          go_wp2
          go_loopw [4] (fun v4 W => ∃ i : Nat, v4 = .int .i64 i ∧ 1 ≤ i ∧ (i ≤ ns.length ∨ i = 1) ∧ Aside0 (risesTo ns i) ∧ Aside0 (Below w.heap.size w W) ∧ Aside0 (W.heap[w.heap.size]? = some (.cells #[.int .i64 8, .int .i64 0, .slice A2 ns.length c2, .slice A3 l.length c3] 25))) (fun v4 _ => ns.length + 1 - (RowKit.intOf v4).toNat)
          case atStart => exact ⟨1, rfl, Nat.le_refl _, Or.inr rfl, ⟨fun j hj h => by omega⟩, HB, BX⟩
          case round =>
            clear HB BX t0 t1 t2 t3
            obtain ⟨i, rfl, hi1, hi2, HRi, HB, BX⟩ := hrel
            obtain ⟨⟨t0, t1, t2, t3⟩, _⟩ := box4T BX.out
            by_cases hi : i < ns.length
            · have hlt2 : ((i : Int) < (ns.length : Int)) = True := by simp [hi]
              obtain ⟨p, hpi⟩ : ∃ p, i = p + 1 := ⟨i - 1, by omega⟩
              have hsb : ((i : Int) - 1) = (p : Int) := by omega
              have hsb2 : wrap64 ((i : Int) - 1) = (p : Int) := by rw [wrap_id _ (by omega)]; omega
              have hg1 : ((0 : Int) ≤ (p : Int)) = True := by simp
              have hg2 : ((0 : Int) ≤ (i : Int)) = True := by simp
              have hl1 : ((p : Int) < (ns.length : Int)) = True := by simp; omega
              have hw0 : wrap64 (p : Int) = (p : Int) := wrap_id _ (by omega)
              obtain ⟨ad, e, h1⟩ := at_s (Kd.C_below HR2.out HB.out) (show p < ns.length by omega)
              obtain ⟨ad', e', h2⟩ := at_s (Kd.C_below HR2.out HB.out) hi
              subst e
              obtain rfl : ad = ad' := by injection e'
              clear e'
              have HNX : Aside0 (∀ b, Op.bytesLess ns[p].toList ns[i].toList = b → (b = true → risesTo ns (i + 1)) ∧ (b = false → shapeT ⟨8, 0, ns, l⟩ = false)) := ⟨fun b hb => by
                subst hpi
                refine ⟨fun h => fun j hj hj2 => ?_, fun h => ?_⟩
                · rcases Nat.lt_or_ge (j + 1) (p + 1) with q | q
                  · exact HRi.out j hj q
                  · obtain rfl : j = p := by omega
                    rw [hb, h]
                · rw [shape_is, if_neg (by omega), if_neg (by omega), if_pos rfl]
                  have : risesB ns = false := by
                    rw [Bool.eq_false_iff]; intro h2
                    have := (rises_iff ns).1 h2 p hi hi
                    rw [hb, h] at this; cases this
                  rw [this]; rfl⟩
              generalize ns[p] = x at *
              generalize ns[i] = y at *
              have HPI := Aside0.mk hpi
              clear hpi
              cases hb : Op.bytesLess x.toList y.toList with
              | false =>
                have HF := Aside0.mk ((HNX.out _ hb).2 rfl)
                go_upto_region 28 with (fail)
                refine start_ (n := 12) (S := fun w' => w'.cell? ⟨w.heap.size, 0, none⟩ = some (.int .i64 8) ∧ w'.cell? ⟨w.heap.size, 1, none⟩ = some (.int .i64 0) ∧ w'.cell? ⟨w.heap.size, 2, none⟩ = some (.slice (some ad) ns.length c2) ∧ w'.cell? ⟨w.heap.size, 3, none⟩ = some (.slice A3 l.length c3) ∧ w'.cell? (ad.add p) = some (.string x) ∧ w'.cell? (ad.add i) = some (.string y)) (ds := []) #[false, false, false, false, false, false, false, false, false, false, false, false] (by kernel_rfl) rfl rfl ⟨t0, t1, t2, t3, h1, h2⟩ (fun hHeld => ?_)
                refine pure_ (i := 0) (N := some 83) (v := ?_) (a' := ?_) #[true, false, false, false, false, false, false, false, false, false, false, false] rfl rfl (by kernel_rfl) (fun _ _ _ h => h) (Or.inl ⟨by rfl, ?_⟩) ?_ ?_
                rotate_left
                · intro w'
                  go_simp
                  with_reducible rfl
                rotate_left
                · simp only [Act.put, List.setIfInBounds_toArray, List.set_cons_zero, List.set_cons_succ, i64_w, i32_w]
                  rfl
                refine pure_ (i := 2) (N := some 85) (v := ?_) (a' := ?_) #[true, false, true, false, false, false, false, false, false, false, false, false] rfl rfl (by kernel_rfl) (fun _ _ _ h => h) (Or.inl ⟨by rfl, ?_⟩) ?_ ?_
                rotate_left
                · intro w'
                  go_simp
                  with_reducible rfl
                rotate_left
                · simp only [Act.put, List.setIfInBounds_toArray, List.set_cons_zero, List.set_cons_succ, i64_w, i32_w]
                  rfl
                refine pure_ (i := 3) (N := some 86) (v := ?_) (a' := ?_) #[true, false, true, true, false, false, false, false, false, false, false, false] rfl rfl (by kernel_rfl) (fun _ _ _ h => h) (Or.inl ⟨by rfl, ?_⟩) ?_ ?_
                rotate_left
                · intro w'
                  go_simp
                  with_reducible rfl
                rotate_left
                · simp only [Act.put, List.setIfInBounds_toArray, List.set_cons_zero, List.set_cons_succ, i64_w, i32_w]
                  rfl
                refine pure_ (i := 6) (N := some 89) (v := ?_) (a' := ?_) #[true, false, true, true, false, false, true, false, false, false, false, false] rfl rfl (by kernel_rfl) (fun _ _ _ h => h) (Or.inl ⟨by rfl, ?_⟩) ?_ ?_
                rotate_left
                · intro w'
                  go_simp
                  with_reducible rfl
                rotate_left
                · simp only [Act.put, List.setIfInBounds_toArray, List.set_cons_zero, List.set_cons_succ, i64_w, i32_w]
                  rfl
                refine pure_ (i := 8) (N := some 91) (v := ?_) (a' := ?_) #[true, false, true, true, false, false, true, false, true, false, false, false] rfl rfl (by kernel_rfl) (fun _ _ _ h => h) (Or.inl ⟨by rfl, ?_⟩) ?_ ?_
                rotate_left
                · intro w'
                  go_simp
                  with_reducible rfl
                rotate_left
                · simp only [Act.put, List.setIfInBounds_toArray, List.set_cons_zero, List.set_cons_succ, i64_w, i32_w]
                  rfl
                refine take_ (i := 1) (N := some 84) (v := ?_) (a' := ?_) #[true, true, true, true, false, false, true, false, true, false, false, false] rfl rfl (by kernel_rfl) (fun _ _ _ h => h) (Or.inl ⟨by rfl, ?_⟩) hHeld ?_ ?_
                rotate_left
                · rintro w' ⟨s0, s1, s2, s3, s4, s5⟩
                  go_simp
                  with_reducible rfl
                rotate_left
                · simp only [Act.put, List.setIfInBounds_toArray, List.set_cons_zero, List.set_cons_succ, i64_w, i32_w]
                  rfl
                refine pure_ (i := 4) (N := some 87) (v := ?_) (a' := ?_) #[true, true, true, true, true, false, true, false, true, false, false, false] rfl rfl (by kernel_rfl) (fun _ _ _ h => h) (Or.inl ⟨by rfl, ?_⟩) ?_ ?_
                rotate_left
                · intro w'
                  go_simp
                  with_reducible rfl
                rotate_left
                · simp only [Act.put, List.setIfInBounds_toArray, List.set_cons_zero, List.set_cons_succ, i64_w, i32_w]
                  rfl
                refine take_ (i := 5) (N := some 88) (v := ?_) (a' := ?_) #[true, true, true, true, true, true, true, false, true, false, false, false] rfl rfl (by kernel_rfl) (fun _ _ _ h => h) (Or.inl ⟨by rfl, ?_⟩) hHeld ?_ ?_
                rotate_left
                · rintro w' ⟨s0, s1, s2, s3, s4, s5⟩
                  go_simp
                  with_reducible rfl
                rotate_left
                · simp only [Act.put, List.setIfInBounds_toArray, List.set_cons_zero, List.set_cons_succ, i64_w, i32_w]
                  rfl
                refine take_ (i := 7) (N := some 90) (v := ?_) (a' := ?_) #[true, true, true, true, true, true, true, true, true, false, false, false] rfl rfl (by kernel_rfl) (fun _ _ _ h => h) (Or.inl ⟨by rfl, ?_⟩) hHeld ?_ ?_
                rotate_left
                · rintro w' ⟨s0, s1, s2, s3, s4, s5⟩
                  go_simp
                  with_reducible rfl
                rotate_left
                · simp only [Act.put, List.setIfInBounds_toArray, List.set_cons_zero, List.set_cons_succ, i64_w, i32_w]
                  rfl
                refine pure_ (i := 9) (N := some 92) (v := ?_) (a' := ?_) #[true, true, true, true, true, true, true, true, true, true, false, false] rfl rfl (by kernel_rfl) (fun _ _ _ h => h) (Or.inl ⟨by rfl, ?_⟩) ?_ ?_
                rotate_left
                · intro w'
                  go_simp
                  with_reducible rfl
                rotate_left
                · simp only [Act.put, List.setIfInBounds_toArray, List.set_cons_zero, List.set_cons_succ, i64_w, i32_w]
                  rfl
                refine take_ (i := 10) (N := some 93) (v := ?_) (a' := ?_) #[true, true, true, true, true, true, true, true, true, true, true, false] rfl rfl (by kernel_rfl) (fun _ _ _ h => h) (Or.inl ⟨by rfl, ?_⟩) hHeld ?_ ?_
                rotate_left
                · rintro w' ⟨s0, s1, s2, s3, s4, s5⟩
                  go_simp
                  with_reducible rfl
                rotate_left
                · simp only [Act.put, List.setIfInBounds_toArray, List.set_cons_zero, List.set_cons_succ, i64_w, i32_w]
                  rfl
                refine pure_ (i := 11) (N := some 94) (v := ?_) (a' := ?_) #[true, true, true, true, true, true, true, true, true, true, true, true] rfl rfl (by kernel_rfl) (fun _ _ _ h => h) (Or.inl ⟨by rfl, ?_⟩) ?_ ?_
                rotate_left
                · intro w'
                  go_simp
                  with_reducible rfl
                rotate_left
                · simp only [Act.put, List.setIfInBounds_toArray, List.set_cons_zero, List.set_cons_succ, i64_w, i32_w]
                  rfl
                refine done_ (by kernel_rfl) ?_
                go_wp2
                go_ret
                exact ⟨by rw [HMT.out, HF.out]; rfl, below_drew1 HB.out⟩
              | true =>
                have HT := Aside0.mk ((HNX.out _ hb).1 rfl)
                go_upto_region 28 with (fail)
                refine start_ (n := 12) (S := fun w' => w'.cell? ⟨w.heap.size, 0, none⟩ = some (.int .i64 8) ∧ w'.cell? ⟨w.heap.size, 1, none⟩ = some (.int .i64 0) ∧ w'.cell? ⟨w.heap.size, 2, none⟩ = some (.slice (some ad) ns.length c2) ∧ w'.cell? ⟨w.heap.size, 3, none⟩ = some (.slice A3 l.length c3) ∧ w'.cell? (ad.add p) = some (.string x) ∧ w'.cell? (ad.add i) = some (.string y)) (ds := []) #[false, false, false, false, false, false, false, false, false, false, false, false] (by kernel_rfl) rfl rfl ⟨t0, t1, t2, t3, h1, h2⟩ (fun hHeld => ?_)
                refine pure_ (i := 0) (N := some 83) (v := ?_) (a' := ?_) #[true, false, false, false, false, false, false, false, false, false, false, false] rfl rfl (by kernel_rfl) (fun _ _ _ h => h) (Or.inl ⟨by rfl, ?_⟩) ?_ ?_
                rotate_left
                · intro w'
                  go_simp
                  with_reducible rfl
                rotate_left
                · simp only [Act.put, List.setIfInBounds_toArray, List.set_cons_zero, List.set_cons_succ, i64_w, i32_w]
                  rfl
                refine pure_ (i := 2) (N := some 85) (v := ?_) (a' := ?_) #[true, false, true, false, false, false, false, false, false, false, false, false] rfl rfl (by kernel_rfl) (fun _ _ _ h => h) (Or.inl ⟨by rfl, ?_⟩) ?_ ?_
                rotate_left
                · intro w'
                  go_simp
                  with_reducible rfl
                rotate_left
                · simp only [Act.put, List.setIfInBounds_toArray, List.set_cons_zero, List.set_cons_succ, i64_w, i32_w]
                  rfl
                refine pure_ (i := 3) (N := some 86) (v := ?_) (a' := ?_) #[true, false, true, true, false, false, false, false, false, false, false, false] rfl rfl (by kernel_rfl) (fun _ _ _ h => h) (Or.inl ⟨by rfl, ?_⟩) ?_ ?_
                rotate_left
                · intro w'
                  go_simp
                  with_reducible rfl
                rotate_left
                · simp only [Act.put, List.setIfInBounds_toArray, List.set_cons_zero, List.set_cons_succ, i64_w, i32_w]
                  rfl
                refine pure_ (i := 6) (N := some 89) (v := ?_) (a' := ?_) #[true, false, true, true, false, false, true, false, false, false, false, false] rfl rfl (by kernel_rfl) (fun _ _ _ h => h) (Or.inl ⟨by rfl, ?_⟩) ?_ ?_
                rotate_left
                · intro w'
                  go_simp
                  with_reducible rfl
                rotate_left
                · simp only [Act.put, List.setIfInBounds_toArray, List.set_cons_zero, List.set_cons_succ, i64_w, i32_w]
                  rfl
                refine pure_ (i := 8) (N := some 91) (v := ?_) (a' := ?_) #[true, false, true, true, false, false, true, false, true, false, false, false] rfl rfl (by kernel_rfl) (fun _ _ _ h => h) (Or.inl ⟨by rfl, ?_⟩) ?_ ?_
                rotate_left
                · intro w'
                  go_simp
                  with_reducible rfl
                rotate_left
                · simp only [Act.put, List.setIfInBounds_toArray, List.set_cons_zero, List.set_cons_succ, i64_w, i32_w]
                  rfl
                refine take_ (i := 1) (N := some 84) (v := ?_) (a' := ?_) #[true, true, true, true, false, false, true, false, true, false, false, false] rfl rfl (by kernel_rfl) (fun _ _ _ h => h) (Or.inl ⟨by rfl, ?_⟩) hHeld ?_ ?_
                rotate_left
                · rintro w' ⟨s0, s1, s2, s3, s4, s5⟩
                  go_simp
                  with_reducible rfl
                rotate_left
                · simp only [Act.put, List.setIfInBounds_toArray, List.set_cons_zero, List.set_cons_succ, i64_w, i32_w]
                  rfl
                refine pure_ (i := 4) (N := some 87) (v := ?_) (a' := ?_) #[true, true, true, true, true, false, true, false, true, false, false, false] rfl rfl (by kernel_rfl) (fun _ _ _ h => h) (Or.inl ⟨by rfl, ?_⟩) ?_ ?_
                rotate_left
                · intro w'
                  go_simp
                  with_reducible rfl
                rotate_left
                · simp only [Act.put, List.setIfInBounds_toArray, List.set_cons_zero, List.set_cons_succ, i64_w, i32_w]
                  rfl
                refine take_ (i := 5) (N := some 88) (v := ?_) (a' := ?_) #[true, true, true, true, true, true, true, false, true, false, false, false] rfl rfl (by kernel_rfl) (fun _ _ _ h => h) (Or.inl ⟨by rfl, ?_⟩) hHeld ?_ ?_
                rotate_left
                · rintro w' ⟨s0, s1, s2, s3, s4, s5⟩
                  go_simp
                  with_reducible rfl
                rotate_left
                · simp only [Act.put, List.setIfInBounds_toArray, List.set_cons_zero, List.set_cons_succ, i64_w, i32_w]
                  rfl
                refine take_ (i := 7) (N := some 90) (v := ?_) (a' := ?_) #[true, true, true, true, true, true, true, true, true, false, false, false] rfl rfl (by kernel_rfl) (fun _ _ _ h => h) (Or.inl ⟨by rfl, ?_⟩) hHeld ?_ ?_
                rotate_left
                · rintro w' ⟨s0, s1, s2, s3, s4, s5⟩
                  go_simp
                  with_reducible rfl
                rotate_left
                · simp only [Act.put, List.setIfInBounds_toArray, List.set_cons_zero, List.set_cons_succ, i64_w, i32_w]
                  rfl
                refine pure_ (i := 9) (N := some 92) (v := ?_) (a' := ?_) #[true, true, true, true, true, true, true, true, true, true, false, false] rfl rfl (by kernel_rfl) (fun _ _ _ h => h) (Or.inl ⟨by rfl, ?_⟩) ?_ ?_
                rotate_left
                · intro w'
                  go_simp
                  with_reducible rfl
                rotate_left
                · simp only [Act.put, List.setIfInBounds_toArray, List.set_cons_zero, List.set_cons_succ, i64_w, i32_w]
                  rfl
                refine take_ (i := 10) (N := some 93) (v := ?_) (a' := ?_) #[true, true, true, true, true, true, true, true, true, true, true, false] rfl rfl (by kernel_rfl) (fun _ _ _ h => h) (Or.inl ⟨by rfl, ?_⟩) hHeld ?_ ?_
                rotate_left
                · rintro w' ⟨s0, s1, s2, s3, s4, s5⟩
                  go_simp
                  with_reducible rfl
                rotate_left
                · simp only [Act.put, List.setIfInBounds_toArray, List.set_cons_zero, List.set_cons_succ, i64_w, i32_w]
                  rfl
                refine pure_ (i := 11) (N := some 94) (v := ?_) (a' := ?_) #[true, true, true, true, true, true, true, true, true, true, true, true] rfl rfl (by kernel_rfl) (fun _ _ _ h => h) (Or.inl ⟨by rfl, ?_⟩) ?_ ?_
                rotate_left
                · intro w'
                  go_simp
                  with_reducible rfl
                rotate_left
                · simp only [Act.put, List.setIfInBounds_toArray, List.set_cons_zero, List.set_cons_succ, i64_w, i32_w]
                  rfl
                refine done_ (by kernel_rfl) ?_
                go_wp2
                go_roundw
                case measure => simp [RowKit.intOf]; omega
                case rel => exact ⟨i + 1, by go_num, by omega, Or.inl hi, HT, ⟨below_drew1 HB.out⟩, ⟨blk_drew BX.out⟩⟩
            · have hlt2 : ((i : Int) < (ns.length : Int)) = False := by simp; omega
              have HV : Aside0 (mayT ⟨8, 0, ns, l⟩ = ((ns.length : Int) == (l.length : Int))) := ⟨by
                rw [HMT.out, shape_is, if_neg (by omega), if_neg (by omega), if_pos rfl]
                have : risesB ns = true := (rises_iff ns).2 (fun j hj hj2 => HRi.out j hj (by omega))
                rw [this]
                simp only [Bool.true_and, BEq.rfl, Bool.and_true]
                rw [Bool.eq_iff_iff]; simp; omega⟩
              go_wp2
              go_ret
              exact ⟨by rw [HV.out]; rfl, HB.out⟩
        · have hnb : (n != 0) = true := by simp [hn0]
          have hnb2 : (n == 0) = false := by simp [hn0]
          have HV : Aside0 (mayT ⟨8, n, ns, l⟩ = false) := ⟨by rw [HMT.out, shape_is, if_neg (by omega), if_neg (by omega), if_pos rfl, hnb2, Bool.and_false]⟩
          clear hn0
          go_wp2
          go_ret
          exact ⟨by rw [HV.out]; rfl, HB.out⟩
      have h8b : (k != 8) = true := by simp [h8]
      by_cases hns : 0 < ns.length
      · have hp : ((ns.length : Int) > 0) = True := by simp [hns]
        have hp2 : ((0 : Int) < (ns.length : Int)) = True := by simp [hns]
        have hp3 : (0 < ns.length) = True := eq_true hns
        have HV : Aside0 (mayT ⟨k, n, ns, l⟩ = false) := ⟨by rw [HMT.out, shape_no k n ns l h8 hns]⟩
        clear h8 hns
        go_wp2
        go_ret
        exact ⟨by rw [HV.out]; rfl, HB.out⟩
      obtain rfl : ns = [] := List.eq_nil_of_length_eq_zero (by omega)
      clear hns h8b
      simp only [List.length_nil] at t0 t1 t2 t3 BX
      by_cases h13 : 11 ≤ k ∧ k ≤ 13
      · obtain ⟨g1, g2⟩ := h13
        have e1 : (k ≥ 11) = True := by simp; omega
        have e1' : ((11 : Int) ≤ k) = True := by simp; omega
        have e2 : (k ≤ 13) = True := by simp; omega
        have e3 : (k != 8) = true := by simp [h8]
        have e4 : (k == 8) = false := by simp [h8]
        have HV0 : Aside0 (mayT ⟨k, n, [], l⟩ = (decide (n ≥ 0) && ((l.length : Int) == 0))) := ⟨by rw [HMT.out, shape_is, if_neg (by omega), if_neg (by omega), if_neg (by omega), if_neg (by omega), if_neg (by omega), if_pos ⟨g1, g2⟩, len_beq]; rw [Bool.and_comm (decide (n ≥ 0))]; simp⟩
        clear g1 g2 h8
        by_cases hn0 : n ≥ 0
        · have f1 : (n ≥ 0) = True := by simp; omega
          have f2 : ((0 : Int) ≤ n) = True := by simp; omega
          rw [decide_eq_true hn0, Bool.true_and] at HV0
          clear hn0
          go_wp2
          go_ret
          exact ⟨by rw [HV0.out]; rfl, HB.out⟩
        · have f1 : (n ≥ 0) = False := by simp; omega
          have f2 : ((0 : Int) ≤ n) = False := by simp; omega
          rw [decide_eq_false hn0, Bool.false_and] at HV0
          clear hn0
          go_wp2
          go_ret
          exact ⟨by rw [HV0.out]; rfl, HB.out⟩
      by_cases hnz : ¬ n = 0
      · have f1 : (n != 0) = true := by simp [hnz]
        have HV : Aside0 (mayT ⟨k, n, [], l⟩ = false) := ⟨by
          have f2 : (n == 0) = false := by simp [hnz]
          rw [HMT.out, shape_is, f2]
          simp only [Bool.and_false, if_neg h13, ite_self]⟩
        have e3 : (k != 8) = true := by simp [h8]
        have e4 : (k == 8) = false := by simp [h8]
        by_cases g1 : k ≥ 11
        · have g1' : (k ≥ 11) = True := by simp; omega
          have g1'' : ((11 : Int) ≤ k) = True := by simp; omega
          have g2 : (k ≤ 13) = False := by simp; omega
          clear g1 h13 h8 hnz
          go_wp2
          go_ret
          exact ⟨by rw [HV.out]; rfl, HB.out⟩
        · have g1' : (k ≥ 11) = False := by simp; omega
          have g1'' : ((11 : Int) ≤ k) = False := by simp; omega
          clear g1 h13 h8 hnz
          go_wp2
          go_ret
          exact ⟨by rw [HV.out]; rfl, HB.out⟩
      obtain rfl : n = 0 := Decidable.not_not.1 hnz
      clear hnz
      by_cases h16 : 1 ≤ k ∧ k ≤ 6
      · have HV : Aside0 (mayT ⟨k, 0, [], l⟩ = ((l.length : Int) == 0)) := ⟨by rw [HMT.out, shape_is, if_pos h16, len_beq]; simp⟩
        have hk : k = 1 ∨ k = 2 ∨ k = 3 ∨ k = 4 ∨ k = 5 ∨ k = 6 := by omega
        clear h13 h16 h8
        rcases hk with rfl | rfl | rfl | rfl | rfl | rfl
        all_goals go_wp2
        all_goals go_ret
        all_goals exact ⟨by rw [HV.out]; rfl, HB.out⟩
      by_cases h7 : k = 7
      · subst h7
        have HV : Aside0 (mayT ⟨7, 0, [], l⟩ = ((l.length : Int) == 1)) := ⟨by rw [HMT.out, shape_is, if_neg (by omega), if_pos rfl, len_beq1]; simp⟩
        go_wp2
        go_ret
        exact ⟨by rw [HV.out]; rfl, HB.out⟩
      by_cases h9 : k = 9
      · subst h9
        have HV : Aside0 (mayT ⟨9, 0, [], l⟩ = decide (1 ≤ l.length)) := ⟨by rw [HMT.out, shape_is, if_neg (by omega), if_neg (by omega), if_neg (by omega), if_pos rfl]; simp⟩
        by_cases hl1 : 1 ≤ l.length
        · have g : ((l.length : Int) ≥ 1) = True := by simp; omega
          have gn : (1 ≤ l.length) = True := eq_true hl1
          have gm : (0 < l.length) = True := eq_true hl1
          have g' : ((1 : Int) ≤ (l.length : Int)) = True := by simp; omega
          rw [decide_eq_true hl1] at HV
          clear hl1
          go_wp2
          go_ret
          exact ⟨by rw [HV.out]; rfl, HB.out⟩
        · have g : ((l.length : Int) ≥ 1) = False := by simp; omega
          have gn : (1 ≤ l.length) = False := eq_false hl1
          have gm : (0 < l.length) = False := eq_false hl1
          have g' : ((1 : Int) ≤ (l.length : Int)) = False := by simp; omega
          rw [decide_eq_false hl1] at HV
          clear hl1
          go_wp2
          go_ret
          exact ⟨by rw [HV.out]; rfl, HB.out⟩
      by_cases h10 : k = 10
      · subst h10
        clear h8 h13 h16 h7 h9
        go_wp2
        go_loopw [5] (fun v5 W => ∃ i : Nat, v5 = .int .i64 i ∧ i ≤ l.length ∧ Aside0 (partsTo l i) ∧ Aside0 (Below w.heap.size w W) ∧ Aside0 (W.heap[w.heap.size]? = some (.cells #[.int .i64 10, .int .i64 0, .slice A2 0 c2, .slice A3 l.length c3] 25))) (fun v5 _ => l.length + 1 - (RowKit.intOf v5).toNat)
        case atStart => exact ⟨0, rfl, Nat.zero_le _, ⟨⟨fun j hj h => absurd h (by omega), fun j hj h => absurd h (by omega)⟩⟩, HB, BX⟩
        case round =>
          clear HB BX t0 t1 t2 t3
          obtain ⟨i, rfl, hin, HPi, HB, BX⟩ := hrel
          obtain ⟨⟨t0, t1, t2, t3⟩, _⟩ := box4T BX.out
          by_cases hi : i < l.length
          · have hlt2 : ((i : Int) < (l.length : Int)) = True := by simp [hi]
            have hge : ((0 : Int) ≤ (i : Int)) = True := by simp
            obtain ⟨ad, B2, b2, B3, b3, e, q0, q1, q2, q3, rows⟩ := at_ty HR.out HB.out hi
            have ROWS := Aside0.mk rows
            have HBAD : Aside0 (¬ partsTo l (i + 1) → mayT ⟨10, 0, [], l⟩ = false) := ⟨fun h => by
              rw [HMT.out, shape_is, if_neg (by omega), if_neg (by omega), if_neg (by omega), if_neg (by omega), if_pos rfl]
              have : partsOk l = false := by
                rw [Bool.eq_false_iff]; intro h2
                have h3 := (parts_to l).1 h2
                exact h ⟨fun j hj hj2 => h3.1 j hj (by omega), fun j hj hj2 => h3.2 j hj (by omega)⟩
              rw [this]; rfl⟩
            have HE : Aside0 (l[i] = l[i]) := ⟨rfl⟩
            obtain ⟨x, hx⟩ : ∃ x, x = l[i] := ⟨_, rfl⟩
            rw [← hx] at q0 q1 q2 q3 ROWS
            have HX := Aside0.mk hx
            clear hx rows HE
            subst e
            by_cases hk1 : x.f0 = 10 ∨ x.f0 = 1
            · have HV := Aside0.mk (HBAD.out (fun h => by have := h.1 i hi (by omega); rw [← HX.out] at this; rcases hk1 with q | q; (· exact this.1 q); (· exact this.2 q)))
              by_cases hk : x.f0 = 10
              · have g1 : (x.f0 == 10) = true := by simp [hk]
                clear hk hk1
                go_wp2
                go_quiet (fail)
                go_wp2
                go_ret
                exact ⟨by rw [HV.out]; rfl, pw_below_drewN HB.out _⟩
              · have g1 : (x.f0 == 10) = false := by simp [hk]
                have g2 : (x.f0 == 1) = true := by rcases hk1 with q | q; (· exact absurd q hk); (· simp [q])
                clear hk hk1
                go_wp2
                go_quiet (fail)
                go_wp2
                go_ret
                exact ⟨by rw [HV.out]; rfl, pw_below_drewN HB.out _⟩
            have g1 : (x.f0 == 10) = false := by simp; exact fun h => hk1 (Or.inl h)
            have g2 : (x.f0 == 1) = false := by simp; exact fun h => hk1 (Or.inr h)
            by_cases hi0 : i = 0
            · have hz1 : ((i : Int) > 0) = False := by simp; omega
              have hz2 : ((0 : Int) < (i : Int)) = False := by simp; omega
              have hz3 : (0 < i) = False := eq_false (by omega)
              have HT : Aside0 (partsTo l (i + 1)) := ⟨by
                refine ⟨fun j hj h => ?_, fun j hj h => absurd h (by omega)⟩
                obtain rfl : j = i := by omega
                rw [← HX.out]
                exact ⟨fun q => hk1 (Or.inl q), fun q => hk1 (Or.inr q)⟩⟩
              clear hk1 hi0
              go_wp2
              go_quiet (fail)
              go_wp2
              go_roundw
              case measure => simp [RowKit.intOf]; omega
              case rel => exact ⟨i + 1, by go_num, hi, HT, ⟨pw_below_drewN HB.out _⟩, ⟨blk_drewN BX.out _⟩⟩
            obtain ⟨p, hpi⟩ : ∃ p, i = p + 1 := ⟨i - 1, by omega⟩
            obtain ⟨ad', C2, d2, C3, d3, e', p0, p1, p2, p3, rows'⟩ := at_ty HR.out HB.out (show p < l.length by omega)
            have ROWS' := Aside0.mk rows'
            obtain rfl : ad = ad' := by injection e'
            clear e' rows'
            obtain ⟨y, hy⟩ : ∃ y, y = l[p] := ⟨_, rfl⟩
            rw [← hy] at p0 p1 p2 p3 ROWS'
            have HY := Aside0.mk hy
            clear hy
            have hgt : ((i : Int) > 0) = True := by simp; omega
            have hgt2 : ((0 : Int) < (i : Int)) = True := by simp; omega
            have hgt3 : (0 < i) = True := eq_true (by omega)
            have hsb : ((i : Int) - 1) = (p : Int) := by omega
            have hg1 : ((0 : Int) ≤ (p : Int)) = True := by simp
            have hl1 : ((p : Int) < (l.length : Int)) = True := by simp; omega
            have hw0 : wrap64 (p : Int) = (p : Int) := wrap_id _ (by omega)
            have hsb2 : wrap64 ((i : Int) - 1) = (p : Int) := by rw [wrap_id _ (by omega)]; omega
            obtain ⟨K0, hK0⟩ := rcmp_ev y x (by have := wTs_mem (List.getElem_mem (show p < l.length by omega)); have := HW.out; rw [HY.out]; omega) (by have := wTs_mem (List.getElem_mem hi); have := HW.out; rw [HX.out]; omega)
            have EC := Aside0.mk (hK0 K0 (Nat.le_refl _))
            clear hK0
            have HNX : Aside0 ((cmpT y x < 0 → partsTo l (i + 1)) ∧ (¬ cmpT y x < 0 → mayT ⟨10, 0, [], l⟩ = false)) := ⟨by
              subst hpi
              refine ⟨fun h => ⟨fun j hj hj2 => ?_, fun j hj hj2 => ?_⟩, fun h => HBAD.out (fun q => h (by have := q.2 p hi (by omega); rw [← HX.out, ← HY.out] at this; exact this))⟩
              · rcases Nat.lt_or_ge j (p + 1) with q | q
                · exact HPi.out.1 j hj q
                · obtain rfl : j = p + 1 := by omega
                  rw [← HX.out]; exact ⟨fun q => hk1 (Or.inl q), fun q => hk1 (Or.inr q)⟩
              · rcases Nat.lt_or_ge (j + 1) (p + 1) with q | q
                · exact HPi.out.2 j hj q
                · obtain rfl : j = p := by omega
                  rw [← HX.out, ← HY.out]; exact h⟩
            have HPI := Aside0.mk hpi
            clear HX HY HPI hk1 hi0 hpi
            go_upto_region 35 with (fail)
            refine start_ (n := 35) (S := fun w' => w'.cell? ⟨w.heap.size, 0, none⟩ = some (.int .i64 10) ∧ w'.cell? ⟨w.heap.size, 1, none⟩ = some (.int .i64 0) ∧ w'.cell? ⟨w.heap.size, 2, none⟩ = some (.slice A2 0 c2) ∧ w'.cell? ⟨w.heap.size, 3, none⟩ = some (.slice (some ad) l.length c3) ∧ w'.cell? (ad.add (i * 4)) = some (.int .i64 x.f0) ∧ w'.cell? ⟨(ad.add (i * 4)).block, (ad.add (i * 4)).off + 1, none⟩ = some (.int .i64 x.f1) ∧ w'.cell? ⟨(ad.add (i * 4)).block, (ad.add (i * 4)).off + 2, none⟩ = some (.slice B2 x.f2.length b2) ∧ w'.cell? ⟨(ad.add (i * 4)).block, (ad.add (i * 4)).off + 3, none⟩ = some (.slice B3 x.f3.length b3) ∧ w'.cell? (ad.add (p * 4)) = some (.int .i64 y.f0) ∧ w'.cell? ⟨(ad.add (p * 4)).block, (ad.add (p * 4)).off + 1, none⟩ = some (.int .i64 y.f1) ∧ w'.cell? ⟨(ad.add (p * 4)).block, (ad.add (p * 4)).off + 2, none⟩ = some (.slice C2 y.f2.length d2) ∧ w'.cell? ⟨(ad.add (p * 4)).block, (ad.add (p * 4)).off + 3, none⟩ = some (.slice C3 y.f3.length d3)) (ds := []) #[false, false, false, false, false, false, false, false, false, false, false, false, false, false, false, false, false, false, false, false, false, false, false, false, false, false, false, false, false, false, false, false, false, false, false] (by kernel_rfl) rfl rfl ⟨t0, t1, t2, t3, q0, q1, q2, q3, p0, p1, p2, p3⟩ (fun hHeld => ?_)
            refine pure_ (i := 0) (N := some 111) (v := ?_) (a' := ?_) #[true, false, false, false, false, false, false, false, false, false, false, false, false, false, false, false, false, false, false, false, false, false, false, false, false, false, false, false, false, false, false, false, false, false, false] rfl rfl (by kernel_rfl) (fun _ _ _ h => h) (Or.inl ⟨by rfl, ?_⟩) ?_ ?_
            rotate_left
            · intro w'
              go_simp
              with_reducible rfl
            rotate_left
            · simp only [Act.put, List.setIfInBounds_toArray, List.set_cons_zero, List.set_cons_succ, i64_w, i32_w]
              rfl
            refine pure_ (i := 2) (N := some 113) (v := ?_) (a' := ?_) #[true, false, true, false, false, false, false, false, false, false, false, false, false, false, false, false, false, false, false, false, false, false, false, false, false, false, false, false, false, false, false, false, false, false, false] rfl rfl (by kernel_rfl) (fun _ _ _ h => h) (Or.inl ⟨by rfl, ?_⟩) ?_ ?_
            rotate_left
            · intro w'
              go_simp
              with_reducible rfl
            rotate_left
            · simp only [Act.put, List.setIfInBounds_toArray, List.set_cons_zero, List.set_cons_succ, i64_w, i32_w]
              rfl
            refine take_ (i := 1) (N := some 112) (v := ?_) (a' := ?_) #[true, true, true, false, false, false, false, false, false, false, false, false, false, false, false, false, false, false, false, false, false, false, false, false, false, false, false, false, false, false, false, false, false, false, false] rfl rfl (by kernel_rfl) (fun _ _ _ h => h) (Or.inl ⟨by rfl, ?_⟩) hHeld ?_ ?_
            rotate_left
            · rintro w' ⟨s0, s1, s2, s3, s4, s5, s6, s7, s8, s9, s10, s11⟩
              go_simp
              with_reducible rfl
            rotate_left
            · simp only [Act.put, List.setIfInBounds_toArray, List.set_cons_zero, List.set_cons_succ, i64_w, i32_w]
              rfl
            refine pure_ (i := 3) (N := some 114) (v := ?_) (a' := ?_) #[true, true, true, true, false, false, false, false, false, false, false, false, false, false, false, false, false, false, false, false, false, false, false, false, false, false, false, false, false, false, false, false, false, false, false] rfl rfl (by kernel_rfl) (fun _ _ _ h => h) (Or.inl ⟨by rfl, ?_⟩) ?_ ?_
            rotate_left
            · intro w'
              go_simp
              with_reducible rfl
            rotate_left
            · simp only [Act.put, List.setIfInBounds_toArray, List.set_cons_zero, List.set_cons_succ, i64_w, i32_w]
              rfl
            refine pure_ (i := 4) (N := some 115) (v := ?_) (a' := ?_) #[true, true, true, true, true, false, false, false, false, false, false, false, false, false, false, false, false, false, false, false, false, false, false, false, false, false, false, false, false, false, false, false, false, false, false] rfl rfl (by kernel_rfl) (fun _ _ _ h => h) (Or.inl ⟨by rfl, ?_⟩) ?_ ?_
            rotate_left
            · intro w'
              go_simp
              with_reducible rfl
            rotate_left
            · simp only [Act.put, List.setIfInBounds_toArray, List.set_cons_zero, List.set_cons_succ, i64_w, i32_w]
              rfl
            refine take_ (i := 5) (N := some 116) (v := ?_) (a' := ?_) #[true, true, true, true, true, true, false, false, false, false, false, false, false, false, false, false, false, false, false, false, false, false, false, false, false, false, false, false, false, false, false, false, false, false, false] rfl rfl (by kernel_rfl) (fun _ _ _ h => h) (Or.inl ⟨by rfl, ?_⟩) hHeld ?_ ?_
            rotate_left
            · rintro w' ⟨s0, s1, s2, s3, s4, s5, s6, s7, s8, s9, s10, s11⟩
              go_simp
              with_reducible rfl
            rotate_left
            · simp only [Act.put, List.setIfInBounds_toArray, List.set_cons_zero, List.set_cons_succ, i64_w, i32_w]
              rfl
            refine pure_ (i := 6) (N := some 117) (v := ?_) (a' := ?_) #[true, true, true, true, true, true, true, false, false, false, false, false, false, false, false, false, false, false, false, false, false, false, false, false, false, false, false, false, false, false, false, false, false, false, false] rfl rfl (by kernel_rfl) (fun _ _ _ h => h) (Or.inl ⟨by rfl, ?_⟩) ?_ ?_
            rotate_left
            · intro w'
              go_simp
              with_reducible rfl
            rotate_left
            · simp only [Act.put, List.setIfInBounds_toArray, List.set_cons_zero, List.set_cons_succ, i64_w, i32_w]
              rfl
            refine pure_ (i := 7) (N := some 118) (v := ?_) (a' := ?_) #[true, true, true, true, true, true, true, true, false, false, false, false, false, false, false, false, false, false, false, false, false, false, false, false, false, false, false, false, false, false, false, false, false, false, false] rfl rfl (by kernel_rfl) (fun _ _ _ h => h) (Or.inl ⟨by rfl, ?_⟩) ?_ ?_
            rotate_left
            · intro w'
              go_simp
              with_reducible rfl
            rotate_left
            · simp only [Act.put, List.setIfInBounds_toArray, List.set_cons_zero, List.set_cons_succ, i64_w, i32_w]
              rfl
            refine pure_ (i := 8) (N := some 119) (v := ?_) (a' := ?_) #[true, true, true, true, true, true, true, true, true, false, false, false, false, false, false, false, false, false, false, false, false, false, false, false, false, false, false, false, false, false, false, false, false, false, false] rfl rfl (by kernel_rfl) (fun _ _ _ h => h) (Or.inl ⟨by rfl, ?_⟩) ?_ ?_
            rotate_left
            · intro w'
              go_simp
              with_reducible rfl
            rotate_left
            · simp only [Act.put, List.setIfInBounds_toArray, List.set_cons_zero, List.set_cons_succ, i64_w, i32_w]
              rfl
            refine pure_ (i := 10) (N := some 121) (v := ?_) (a' := ?_) #[true, true, true, true, true, true, true, true, true, false, true, false, false, false, false, false, false, false, false, false, false, false, false, false, false, false, false, false, false, false, false, false, false, false, false] rfl rfl (by kernel_rfl) (fun _ _ _ h => h) (Or.inl ⟨by rfl, ?_⟩) ?_ ?_
            rotate_left
            · intro w'
              go_simp
              with_reducible rfl
            rotate_left
            · simp only [Act.put, List.setIfInBounds_toArray, List.set_cons_zero, List.set_cons_succ, i64_w, i32_w]
              rfl
            refine take_ (i := 9) (N := some 120) (v := ?_) (a' := ?_) #[true, true, true, true, true, true, true, true, true, true, true, false, false, false, false, false, false, false, false, false, false, false, false, false, false, false, false, false, false, false, false, false, false, false, false] rfl rfl (by kernel_rfl) (fun _ _ _ h => h) (Or.inl ⟨by rfl, ?_⟩) hHeld ?_ ?_
            rotate_left
            · rintro w' ⟨s0, s1, s2, s3, s4, s5, s6, s7, s8, s9, s10, s11⟩
              go_simp
              with_reducible rfl
            rotate_left
            · simp only [Act.put, List.setIfInBounds_toArray, List.set_cons_zero, List.set_cons_succ, i64_w, i32_w]
              rfl
            refine pure_ (i := 11) (N := some 122) (v := ?_) (a' := ?_) #[true, true, true, true, true, true, true, true, true, true, true, true, false, false, false, false, false, false, false, false, false, false, false, false, false, false, false, false, false, false, false, false, false, false, false] rfl rfl (by kernel_rfl) (fun _ _ _ h => h) (Or.inl ⟨by rfl, ?_⟩) ?_ ?_
            rotate_left
            · intro w'
              go_simp
              with_reducible rfl
            rotate_left
            · simp only [Act.put, List.setIfInBounds_toArray, List.set_cons_zero, List.set_cons_succ, i64_w, i32_w]
              rfl
            refine pure_ (i := 12) (N := some 123) (v := ?_) (a' := ?_) #[true, true, true, true, true, true, true, true, true, true, true, true, true, false, false, false, false, false, false, false, false, false, false, false, false, false, false, false, false, false, false, false, false, false, false] rfl rfl (by kernel_rfl) (fun _ _ _ h => h) (Or.inl ⟨by rfl, ?_⟩) ?_ ?_
            rotate_left
            · intro w'
              go_simp
              with_reducible rfl
            rotate_left
            · simp only [Act.put, List.setIfInBounds_toArray, List.set_cons_zero, List.set_cons_succ, i64_w, i32_w]
              rfl
            refine take_ (i := 13) (N := some 124) (v := ?_) (a' := ?_) #[true, true, true, true, true, true, true, true, true, true, true, true, true, true, false, false, false, false, false, false, false, false, false, false, false, false, false, false, false, false, false, false, false, false, false] rfl rfl (by kernel_rfl) (fun _ _ _ h => h) (Or.inl ⟨by rfl, ?_⟩) hHeld ?_ ?_
            rotate_left
            · rintro w' ⟨s0, s1, s2, s3, s4, s5, s6, s7, s8, s9, s10, s11⟩
              go_simp
              with_reducible rfl
            rotate_left
            · simp only [Act.put, List.setIfInBounds_toArray, List.set_cons_zero, List.set_cons_succ, i64_w, i32_w]
              rfl
            refine pure_ (i := 14) (N := some 125) (v := ?_) (a' := ?_) #[true, true, true, true, true, true, true, true, true, true, true, true, true, true, true, false, false, false, false, false, false, false, false, false, false, false, false, false, false, false, false, false, false, false, false] rfl rfl (by kernel_rfl) (fun _ _ _ h => h) (Or.inl ⟨by rfl, ?_⟩) ?_ ?_
            rotate_left
            · intro w'
              go_simp
              with_reducible rfl
            rotate_left
            · simp only [Act.put, List.setIfInBounds_toArray, List.set_cons_zero, List.set_cons_succ, i64_w, i32_w]
              rfl
            refine pure_ (i := 15) (N := some 126) (v := ?_) (a' := ?_) #[true, true, true, true, true, true, true, true, true, true, true, true, true, true, true, true, false, false, false, false, false, false, false, false, false, false, false, false, false, false, false, false, false, false, false] rfl rfl (by kernel_rfl) (fun _ _ _ h => h) (Or.inl ⟨by rfl, ?_⟩) ?_ ?_
            rotate_left
            · intro w'
              go_simp
              with_reducible rfl
            rotate_left
            · simp only [Act.put, List.setIfInBounds_toArray, List.set_cons_zero, List.set_cons_succ, i64_w, i32_w]
              rfl
            refine pure_ (i := 16) (N := some 127) (v := ?_) (a' := ?_) #[true, true, true, true, true, true, true, true, true, true, true, true, true, true, true, true, true, false, false, false, false, false, false, false, false, false, false, false, false, false, false, false, false, false, false] rfl rfl (by kernel_rfl) (fun _ _ _ h => h) (Or.inl ⟨by rfl, ?_⟩) ?_ ?_
            rotate_left
            · intro w'
              go_simp
              with_reducible rfl
            rotate_left
            · simp only [Act.put, List.setIfInBounds_toArray, List.set_cons_zero, List.set_cons_succ, i64_w, i32_w]
              rfl
            refine pure_ (i := 17) (N := some 128) (v := ?_) (a' := ?_) #[true, true, true, true, true, true, true, true, true, true, true, true, true, true, true, true, true, true, false, false, false, false, false, false, false, false, false, false, false, false, false, false, false, false, false] rfl rfl (by kernel_rfl) (fun _ _ _ h => h) (Or.inl ⟨by rfl, ?_⟩) ?_ ?_
            rotate_left
            · intro w'
              go_simp
              with_reducible rfl
            rotate_left
            · simp only [Act.put, List.setIfInBounds_toArray, List.set_cons_zero, List.set_cons_succ, i64_w, i32_w]
              rfl
            refine pure_ (i := 18) (N := some 129) (v := ?_) (a' := ?_) #[true, true, true, true, true, true, true, true, true, true, true, true, true, true, true, true, true, true, true, false, false, false, false, false, false, false, false, false, false, false, false, false, false, false, false] rfl rfl (by kernel_rfl) (fun _ _ _ h => h) (Or.inl ⟨by rfl, ?_⟩) ?_ ?_
            rotate_left
            · intro w'
              go_simp
              with_reducible rfl
            rotate_left
            · simp only [Act.put, List.setIfInBounds_toArray, List.set_cons_zero, List.set_cons_succ, i64_w, i32_w]
              rfl
            refine pure_ (i := 19) (N := some 130) (v := ?_) (a' := ?_) #[true, true, true, true, true, true, true, true, true, true, true, true, true, true, true, true, true, true, true, true, false, false, false, false, false, false, false, false, false, false, false, false, false, false, false] rfl rfl (by kernel_rfl) (fun _ _ _ h => h) (Or.inl ⟨by rfl, ?_⟩) ?_ ?_
            rotate_left
            · intro w'
              go_simp
              with_reducible rfl
            rotate_left
            · simp only [Act.put, List.setIfInBounds_toArray, List.set_cons_zero, List.set_cons_succ, i64_w, i32_w]
              rfl
            refine pure_ (i := 20) (N := some 131) (v := ?_) (a' := ?_) #[true, true, true, true, true, true, true, true, true, true, true, true, true, true, true, true, true, true, true, true, true, false, false, false, false, false, false, false, false, false, false, false, false, false, false] rfl rfl (by kernel_rfl) (fun _ _ _ h => h) (Or.inl ⟨by rfl, ?_⟩) ?_ ?_
            rotate_left
            · intro w'
              go_simp
              with_reducible rfl
            rotate_left
            · simp only [Act.put, List.setIfInBounds_toArray, List.set_cons_zero, List.set_cons_succ, i64_w, i32_w]
              rfl
            refine pure_ (i := 22) (N := some 133) (v := ?_) (a' := ?_) #[true, true, true, true, true, true, true, true, true, true, true, true, true, true, true, true, true, true, true, true, true, false, true, false, false, false, false, false, false, false, false, false, false, false, false] rfl rfl (by kernel_rfl) (fun _ _ _ h => h) (Or.inl ⟨by rfl, ?_⟩) ?_ ?_
            rotate_left
            · intro w'
              go_simp
              with_reducible rfl
            rotate_left
            · simp only [Act.put, List.setIfInBounds_toArray, List.set_cons_zero, List.set_cons_succ, i64_w, i32_w]
              rfl
            refine pure_ (i := 23) (N := some 134) (v := ?_) (a' := ?_) #[true, true, true, true, true, true, true, true, true, true, true, true, true, true, true, true, true, true, true, true, true, false, true, true, false, false, false, false, false, false, false, false, false, false, false] rfl rfl (by kernel_rfl) (fun _ _ _ h => h) (Or.inl ⟨by rfl, ?_⟩) ?_ ?_
            rotate_left
            · intro w'
              go_simp
              with_reducible rfl
            rotate_left
            · simp only [Act.put, List.setIfInBounds_toArray, List.set_cons_zero, List.set_cons_succ, i64_w, i32_w]
              rfl
            refine pure_ (i := 26) (N := some 137) (v := ?_) (a' := ?_) #[true, true, true, true, true, true, true, true, true, true, true, true, true, true, true, true, true, true, true, true, true, false, true, true, false, false, true, false, false, false, false, false, false, false, false] rfl rfl (by kernel_rfl) (fun _ _ _ h => h) (Or.inl ⟨by rfl, ?_⟩) ?_ ?_
            rotate_left
            · intro w'
              go_simp
              with_reducible rfl
            rotate_left
            · simp only [Act.put, List.setIfInBounds_toArray, List.set_cons_zero, List.set_cons_succ, i64_w, i32_w]
              rfl
            refine pure_ (i := 28) (N := some 139) (v := ?_) (a' := ?_) #[true, true, true, true, true, true, true, true, true, true, true, true, true, true, true, true, true, true, true, true, true, false, true, true, false, false, true, false, true, false, false, false, false, false, false] rfl rfl (by kernel_rfl) (fun _ _ _ h => h) (Or.inl ⟨by rfl, ?_⟩) ?_ ?_
            rotate_left
            · intro w'
              go_simp
              with_reducible rfl
            rotate_left
            · simp only [Act.put, List.setIfInBounds_toArray, List.set_cons_zero, List.set_cons_succ, i64_w, i32_w]
              rfl
            refine take_ (i := 21) (N := some 132) (v := ?_) (a' := ?_) #[true, true, true, true, true, true, true, true, true, true, true, true, true, true, true, true, true, true, true, true, true, true, true, true, false, false, true, false, true, false, false, false, false, false, false] rfl rfl (by kernel_rfl) (fun _ _ _ h => h) (Or.inl ⟨by rfl, ?_⟩) hHeld ?_ ?_
            rotate_left
            · rintro w' ⟨s0, s1, s2, s3, s4, s5, s6, s7, s8, s9, s10, s11⟩
              go_simp
              with_reducible rfl
            rotate_left
            · simp only [Act.put, List.setIfInBounds_toArray, List.set_cons_zero, List.set_cons_succ, i64_w, i32_w]
              rfl
            refine pure_ (i := 24) (N := some 135) (v := ?_) (a' := ?_) #[true, true, true, true, true, true, true, true, true, true, true, true, true, true, true, true, true, true, true, true, true, true, true, true, true, false, true, false, true, false, false, false, false, false, false] rfl rfl (by kernel_rfl) (fun _ _ _ h => h) (Or.inl ⟨by rfl, ?_⟩) ?_ ?_
            rotate_left
            · intro w'
              go_simp
              with_reducible rfl
            rotate_left
            · simp only [Act.put, List.setIfInBounds_toArray, List.set_cons_zero, List.set_cons_succ, i64_w, i32_w]
              rfl
            refine take_ (i := 25) (N := some 136) (v := ?_) (a' := ?_) #[true, true, true, true, true, true, true, true, true, true, true, true, true, true, true, true, true, true, true, true, true, true, true, true, true, true, true, false, true, false, false, false, false, false, false] rfl rfl (by kernel_rfl) (fun _ _ _ h => h) (Or.inl ⟨by rfl, ?_⟩) hHeld ?_ ?_
            rotate_left
            · rintro w' ⟨s0, s1, s2, s3, s4, s5, s6, s7, s8, s9, s10, s11⟩
              go_simp
              with_reducible rfl
            rotate_left
            · simp only [Act.put, List.setIfInBounds_toArray, List.set_cons_zero, List.set_cons_succ, i64_w, i32_w]
              rfl
            refine take_ (i := 27) (N := some 138) (v := ?_) (a' := ?_) #[true, true, true, true, true, true, true, true, true, true, true, true, true, true, true, true, true, true, true, true, true, true, true, true, true, true, true, true, true, false, false, false, false, false, false] rfl rfl (by kernel_rfl) (fun _ _ _ h => h) (Or.inl ⟨by rfl, ?_⟩) hHeld ?_ ?_
            rotate_left
            · rintro w' ⟨s0, s1, s2, s3, s4, s5, s6, s7, s8, s9, s10, s11⟩
              go_simp
              with_reducible rfl
            rotate_left
            · simp only [Act.put, List.setIfInBounds_toArray, List.set_cons_zero, List.set_cons_succ, i64_w, i32_w]
              rfl
            refine pure_ (i := 29) (N := some 140) (v := ?_) (a' := ?_) #[true, true, true, true, true, true, true, true, true, true, true, true, true, true, true, true, true, true, true, true, true, true, true, true, true, true, true, true, true, true, false, false, false, false, false] rfl rfl (by kernel_rfl) (fun _ _ _ h => h) (Or.inl ⟨by rfl, ?_⟩) ?_ ?_
            rotate_left
            · intro w'
              go_simp
              with_reducible rfl
            rotate_left
            · simp only [Act.put, List.setIfInBounds_toArray, List.set_cons_zero, List.set_cons_succ, i64_w, i32_w]
              rfl
            refine take_ (i := 30) (N := some 141) (v := ?_) (a' := ?_) #[true, true, true, true, true, true, true, true, true, true, true, true, true, true, true, true, true, true, true, true, true, true, true, true, true, true, true, true, true, true, true, false, false, false, false] rfl rfl (by kernel_rfl) (fun _ _ _ h => h) (Or.inl ⟨by rfl, ?_⟩) hHeld ?_ ?_
            rotate_left
            · rintro w' ⟨s0, s1, s2, s3, s4, s5, s6, s7, s8, s9, s10, s11⟩
              go_simp
              with_reducible rfl
            rotate_left
            · simp only [Act.put, List.setIfInBounds_toArray, List.set_cons_zero, List.set_cons_succ, i64_w, i32_w]
              rfl
            refine one_ (i := 31) (N := some 142) #[true, true, true, true, true, true, true, true, true, true, true, true, true, true, true, true, true, true, true, true, true, true, true, true, true, true, true, true, true, true, true, true, false, false, false] rfl rfl (by kernel_rfl) (by decide) (fun K hK => ?_)
            refine call_ 22 #[.agg #[.int .i64 y.f0, .int .i64 y.f1, .slice C2 y.f2.length d2, .slice C3 y.f3.length d3], .agg #[.int .i64 x.f0, .int .i64 x.f1, .slice B2 x.f2.length b2, .slice B3 x.f3.length b3]] (by rfl) rfl ?_ ?_
            · go_simp
              try rfl
            have ry := ROWS'.out.below (below_drew1 HB.out)
            have rx := ROWS.out.below (below_drew1 HB.out)
            refine (gussetref14_Compare.calls K0 _ _ _ _ _ _ _ _ _ _ _ _ _ _ _ _ _ _ ry.2.1 ry.1 ry.2.2.2 ry.2.2.1 rx.2.1 rx.1 rx.2.2.2 rx.2.2.1 EC.out).mono ?_
            rintro e w1 ⟨rfl, hb⟩
            refine ⟨_, rfl, ?_⟩
            have nHB := Aside0.mk (below_step (below_drew1 HB.out) hb)
            have nBX := Aside0.mk (blk_below (blk_drew BX.out) hb)
            clear ry rx
            refine hK.out _ _ ⟨pw_cell_below hb hHeld.1, pw_cell_below hb hHeld.2.1, pw_cell_below hb hHeld.2.2.1, pw_cell_below hb hHeld.2.2.2.1, pw_cell_below hb hHeld.2.2.2.2.1, pw_cell_below hb hHeld.2.2.2.2.2.1, pw_cell_below hb hHeld.2.2.2.2.2.2.1, pw_cell_below hb hHeld.2.2.2.2.2.2.2.1, pw_cell_below hb hHeld.2.2.2.2.2.2.2.2.1, pw_cell_below hb hHeld.2.2.2.2.2.2.2.2.2.1, pw_cell_below hb hHeld.2.2.2.2.2.2.2.2.2.2.1, pw_cell_below hb hHeld.2.2.2.2.2.2.2.2.2.2.2⟩ (fun hHeld => ?_)
            clear hK K
            refine norm_ (a' := ?_) ?_ ?_
            rotate_left
            · show Act.put _ (some 142) _ = _
              simp only [Act.put, List.setIfInBounds_toArray, List.set_cons_zero, List.set_cons_succ, i64_w, i32_w]
              rfl
            refine pure_ (i := 32) (N := some 143) (v := ?_) (a' := ?_) #[true, true, true, true, true, true, true, true, true, true, true, true, true, true, true, true, true, true, true, true, true, true, true, true, true, true, true, true, true, true, true, true, true, false, false] rfl rfl (by kernel_rfl) (fun _ _ _ h => h) (Or.inl ⟨by rfl, ?_⟩) ?_ ?_
            rotate_left
            · intro w'
              go_simp
              with_reducible rfl
            rotate_left
            · simp only [Act.put, List.setIfInBounds_toArray, List.set_cons_zero, List.set_cons_succ, i64_w, i32_w]
              rfl
            refine pure_ (i := 33) (N := some 144) (v := ?_) (a' := ?_) #[true, true, true, true, true, true, true, true, true, true, true, true, true, true, true, true, true, true, true, true, true, true, true, true, true, true, true, true, true, true, true, true, true, true, false] rfl rfl (by kernel_rfl) (fun _ _ _ h => h) (Or.inl ⟨by rfl, ?_⟩) ?_ ?_
            rotate_left
            · intro w'
              go_simp
              with_reducible rfl
            rotate_left
            · simp only [Act.put, List.setIfInBounds_toArray, List.set_cons_zero, List.set_cons_succ, i64_w, i32_w]
              rfl
            refine pure_ (i := 34) (N := some 145) (v := ?_) (a' := ?_) #[true, true, true, true, true, true, true, true, true, true, true, true, true, true, true, true, true, true, true, true, true, true, true, true, true, true, true, true, true, true, true, true, true, true, true] rfl rfl (by kernel_rfl) (fun _ _ _ h => h) (Or.inl ⟨by rfl, ?_⟩) ?_ ?_
            rotate_left
            · intro w'
              go_simp
              with_reducible rfl
            rotate_left
            · simp only [Act.put, List.setIfInBounds_toArray, List.set_cons_zero, List.set_cons_succ, i64_w, i32_w]
              rfl
            refine done_ (by kernel_rfl) ?_
            go_wp2
            · have HV := Aside0.mk (HNX.out.2 (by omega))
              go_ret
              exact ⟨by rw [HV.out]; rfl, nHB.out⟩
            · have HT := Aside0.mk (HNX.out.1 (by omega))
              go_roundw
              case measure => simp [RowKit.intOf]; omega
              case rel => exact ⟨i + 1, by go_num, hi, HT, nHB, nBX⟩
          · have hlt2 : ((i : Int) < (l.length : Int)) = False := by simp; omega
            have HV : Aside0 (mayT ⟨10, 0, [], l⟩ = decide (2 ≤ l.length)) := ⟨by
              rw [HMT.out, shape_is, if_neg (by omega), if_neg (by omega), if_neg (by omega), if_neg (by omega), if_pos rfl]
              have : partsOk l = true := (parts_to l).2 (by have := HPi.out; rwa [show i = l.length by omega] at this)
              rw [this]; simp⟩
            by_cases hl2 : 2 ≤ l.length
            · have g : ((l.length : Int) ≥ 2) = True := by simp; omega
              have gn : (2 ≤ l.length) = True := eq_true hl2
              have g' : ((2 : Int) ≤ (l.length : Int)) = True := by simp; omega
              rw [decide_eq_true hl2] at HV
              clear hl2
              go_wp2
              go_ret
              exact ⟨by rw [HV.out]; rfl, HB.out⟩
            · have g : ((l.length : Int) ≥ 2) = False := by simp; omega
              have gn : (2 ≤ l.length) = False := eq_false hl2
              have g' : ((2 : Int) ≤ (l.length : Int)) = False := by simp; omega
              rw [decide_eq_false hl2] at HV
              clear hl2
              go_wp2
              go_ret
              exact ⟨by rw [HV.out]; rfl, HB.out⟩
      have HV : Aside0 (mayT ⟨k, 0, [], l⟩ = false) := ⟨by rw [HMT.out, shape_is, if_neg h16, if_neg h7, if_neg h8, if_neg h9, if_neg h10, if_neg h13]⟩
      have e1 : (k == 1) = false := by simp; omega
      have e2 : (k == 2) = false := by simp; omega
      have e3 : (k == 3) = false := by simp; omega
      have e4 : (k == 4) = false := by simp; omega
      have e5 : (k == 5) = false := by simp; omega
      have e6 : (k == 6) = false := by simp; omega
      have e7 : (k == 7) = false := by simp; omega
      have e8 : (k == 8) = false := by simp; omega
      have e9 : (k == 9) = false := by simp; omega
      have e10 : (k == 10) = false := by simp; omega
      have e11 : (k != 8) = true := by simp [h8]
      by_cases g1 : k ≥ 11
      · have g1' : (k ≥ 11) = True := by simp; omega
        have g1'' : ((11 : Int) ≤ k) = True := by simp; omega
        have g2 : (k ≤ 13) = False := by simp; omega
        clear g1 h13 h8 h16 h7 h9 h10
        go_wp2
        go_ret
        exact ⟨by rw [HV.out]; rfl, HB.out⟩
      · have g1' : (k ≥ 11) = False := by simp; omega
        have g1'' : ((11 : Int) ≤ k) = False := by simp; omega
        clear g1 h13 h8 h16 h7 h9 h10
        go_wp2
        go_ret
        exact ⟨by rw [HV.out]; rfl, HB.out⟩
end Go.Proofs.YtjcajpkgamolkaaDoor.Ty
