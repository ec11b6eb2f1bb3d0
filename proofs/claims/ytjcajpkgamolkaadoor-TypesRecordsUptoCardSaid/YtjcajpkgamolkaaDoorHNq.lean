/- HN, as this claim needs it. -/
import Derived.Test.YtjcajpkgamolkaaDoorHCq
namespace Go.Proofs.YtjcajpkgamolkaaDoor.Ty
open Go.RowKit Go.Proofs.YtjcajpkgamolkaaDoor.PTyp Go.Proofs.YtjcajpkgamolkaaDoorW.PrintWords Go.Proofs.YtjcajpkgamolkaaDoorW.PrintLast Go.Proofs.YtjcajpkgamolkaaDoorW.PrintMore
set_option linter.unusedVariables false
set_option linter.unusedSimpArgs false
theorem bs_geqT (t : TypeId) (a b : ByteArray) : binOp .geq t (.string a) (.string b) = pure (.bool !(Op.bytesLess a.toList b.toList)) := by
  simp [binOp, Op.stringOp]
attribute [local go_sem high] bs_geqT
theorem len_beq (n : Nat) : ((n : Int) == 0) = (n == 0) := by rw [Bool.eq_iff_iff]; simp
theorem len_beq1 (n : Nat) : ((n : Int) == 1) = (n == 1) := by rw [Bool.eq_iff_iff]; simp; omega
theorem shape_is (k n : Int) (ns : List ByteArray) (l : List Ty) : shapeT ⟨k, n, ns, l⟩ = (if 1 ≤ k ∧ k ≤ 6 then ns.length == 0 && l.length == 0 && n == 0
    else if k = 7 then ns.length == 0 && l.length == 1 && n == 0
    else if k = 8 then risesB ns && l.length == ns.length && n == 0
    else if k = 9 then ns.length == 0 && decide (1 ≤ l.length) && n == 0
    else if k = 10 then partsOk l && ns.length == 0 && decide (2 ≤ l.length) && n == 0
    else if 11 ≤ k ∧ k ≤ 13 then ns.length == 0 && l.length == 0 && decide (0 ≤ n)
    else false) := rfl
theorem shape_no (k n : Int) (ns : List ByteArray) (l : List Ty) (h8 : k ≠ 8) (hn : 0 < ns.length) : shapeT ⟨k, n, ns, l⟩ = false := by
  have h2 : (ns.length == 0) = false := by
    have : ¬ ns.length = 0 := by omega
    simpa using this
  rw [shape_is]
  simp only [h2, Bool.false_and, Bool.and_false, if_neg h8, ite_self]
def risesTo (ns : List ByteArray) (i : Nat) : Prop := ∀ j (h : j + 1 < ns.length), j + 1 < i → Op.bytesLess ns[j].toList ns[j + 1].toList = true
theorem rises_iff : ∀ ns : List ByteArray, risesB ns = true ↔ risesTo ns ns.length
  | [] => by simp [risesB, risesTo]
  | [a] => by simp [risesB, risesTo]
  | a :: b :: r => by
    rw [risesB, Bool.and_eq_true, rises_iff (b :: r)]
    constructor
    · rintro ⟨h1, h2⟩ j hj hj2
      cases j with
      | zero => exact h1
      | succ j => exact h2 j (by simpa using hj) (by simpa using hj2)
    · intro h
      exact ⟨h 0 (by simp) (by simp), fun j hj hj2 => h (j + 1) (by simpa using hj) (by simpa using hj2)⟩
def partsTo (l : List Ty) (i : Nat) : Prop := (∀ j (h : j < l.length), j < i → l[j].f0 ≠ 10 ∧ l[j].f0 ≠ 1) ∧ ∀ j (h : j + 1 < l.length), j + 1 < i → cmpT l[j] l[j + 1] < 0
theorem parts_to : ∀ l : List Ty, partsOk l = true ↔ partsTo l l.length
  | [] => by simp [partsOk, partsTo]
  | [a] => by simp [partsOk, partsTo, Ty.k]
  | a :: b :: r => by
    rw [partsOk, Bool.and_eq_true, Bool.and_eq_true, parts_to (b :: r)]
    constructor
    · rintro ⟨⟨h1, h2⟩, h3, h4⟩
      refine ⟨fun j hj hj2 => ?_, fun j hj hj2 => ?_⟩
      · cases j with
        | zero => simpa [Ty.k] using h1
        | succ j => exact h3 j (by simpa using hj) (by simpa using hj2)
      · cases j with
        | zero => exact of_decide_eq_true h2
        | succ j => exact h4 j (by simpa using hj) (by simpa using hj2)
    · rintro ⟨h1, h2⟩
      have h3 := h1 0 (by simp) (by simp)
      rw [List.getElem_cons_zero] at h3
      refine ⟨⟨by simpa [Ty.k] using h3, decide_eq_true (h2 0 (by simp) (by simp))⟩, fun j hj hj2 => h1 (j + 1) (by simpa using hj) (by simpa using hj2), fun j hj hj2 => h2 (j + 1) (by simpa using hj) (by simpa using hj2)⟩
set_option maxHeartbeats 4000000 in
set_option maxRecDepth 100000 in
theorem shape_calls (k n : Int) (ns : List ByteArray) (l : List Ty) (hw : wT ⟨k, n, ns, l⟩ ≤ 1099511627776) (A2 : Option Addr) (c2 : Nat) (A3 : Option Addr) (c3 : Nat) (w : World) (hr : RowsT w ⟨k, n, ns, l⟩ A2 c2 A3 c3) : Calls Tryd.prog 53 #[.agg #[.int .i64 k, .int .i64 n, .slice A2 ns.length c2, .slice A3 l.length c3]] w fun e w' => e = .returned (.bool (shapeT ⟨k, n, ns, l⟩)) ∧ Below w.heap.size w w' := by
  rw [wT_mk] at hw
  have hn := wTs_len l
  have hnn : ns.length ≤ 1099511627776 := by omega
  have hln : l.length ≤ 1099511627776 := by omega
  obtain ⟨r1, r2, r3, r4⟩ := hr
  replace r2 : Kd.string.C w A2 ns.length ns := r2
  replace r4 : k25.C w A3 l.length l := r4
  have HR2 := Aside0.mk r2
  have HR := Aside0.mk r4
  have HW : Aside0 (wTs l ≤ 1099511627776) := ⟨by omega⟩
  clear r1 r2 r3 r4 hw hn
  have hu25 := Tryd.underlying25
  have HB := Aside0.mk (below_alloc (Below.refl w.heap.size w) (.cells #[.int .i64 k, .int .i64 n, .slice A2 ns.length c2, .slice A3 l.length c3] 25))
  have BX := Aside0.mk (heap_alloc_new w (.cells #[.int .i64 k, .int .i64 n, .slice A2 ns.length c2, .slice A3 l.length c3] 25))
  go_enter Tryd.func53, Tryd.ntmps53
  obtain ⟨⟨t0, t1, t2, t3⟩, _⟩ := box4T BX.out
  by_cases h8 : k = 8
  · subst h8
    go_wp2
    go_quiet (fail)
    go_wp2
    go_loopw [6] (fun v6 W => ∃ i : Nat, v6 = .int .i64 i ∧ 1 ≤ i ∧ (i ≤ ns.length ∨ i = 1) ∧ Aside0 (risesTo ns i) ∧ Aside0 (Below w.heap.size w W) ∧ Aside0 (W.heap[w.heap.size]? = some (.cells #[.int .i64 8, .int .i64 n, .slice A2 ns.length c2, .slice A3 l.length c3] 25))) (fun v6 _ => ns.length + 1 - (RowKit.intOf v6).toNat)
    case atStart => exact ⟨1, rfl, Nat.le_refl _, Or.inr rfl, ⟨fun j hj h => by omega⟩, ⟨pw_below_drewN HB.out _⟩, ⟨blk_drewN BX.out _⟩⟩
    case round =>
      clear HB BX t0 t1 t2 t3
      obtain ⟨i, rfl, hi1, hi2, HRi, HB, BX⟩ := hrel
      obtain ⟨⟨t0, t1, t2, t3⟩, _⟩ := box4T BX.out
      by_cases hi : i < ns.length
      · have hlt2 : ((i : Int) < (ns.length : Int)) = True := by simp [hi]
        obtain ⟨p, hpi⟩ : ∃ p, i = p + 1 := ⟨i - 1, by omega⟩
        have hsb : ((i : Int) - 1) = (p : Int) := by omega
        have hsb2 : wrap64 ((i : Int) - 1) = (p : Int) := by rw [wrap_id _ (by omega)]; omega
        have hg1 : ((0 : Int) ≤ (p : Int)) = True := by simp
        have hg2 : ((0 : Int) ≤ (i : Int)) = True := by simp
        have hl1 : ((p : Int) < (ns.length : Int)) = True := by simp; omega
        have hw0 : wrap64 (p : Int) = (p : Int) := wrap_id _ (by omega)
        obtain ⟨ad, e, h1⟩ := at_s (Kd.C_below HR2.out HB.out) (show p < ns.length by omega)
        obtain ⟨ad', e', h2⟩ := at_s (Kd.C_below HR2.out HB.out) hi
        subst e
        obtain rfl : ad = ad' := by injection e'
        clear e'
        have HNX : Aside0 (∀ b, Op.bytesLess ns[p].toList ns[i].toList = b → (b = true → risesTo ns (i + 1)) ∧ (b = false → shapeT ⟨8, n, ns, l⟩ = false)) := ⟨fun b hb => by
          subst hpi
          refine ⟨fun h => fun j hj hj2 => ?_, fun h => ?_⟩
          · rcases Nat.lt_or_ge (j + 1) (p + 1) with q | q
            · exact HRi.out j hj q
            · obtain rfl : j = p := by omega
              rw [hb, h]
          · rw [shape_is, if_neg (by omega), if_neg (by omega), if_pos rfl]
            have : risesB ns = false := by
              rw [Bool.eq_false_iff]; intro h2
              have := (rises_iff ns).1 h2 p hi hi
              rw [hb, h] at this; cases this
            rw [this]; rfl⟩
        generalize ns[p] = x at *
        generalize ns[i] = y at *
        have HPI := Aside0.mk hpi
        clear hpi
        cases hb : Op.bytesLess x.toList y.toList with
        | false =>
          have HF := Aside0.mk ((HNX.out _ hb).2 rfl)
          go_upto_region 16 with (fail)
          refine start_ (n := 12) (S := fun w' => w'.cell? ⟨w.heap.size, 0, none⟩ = some (.int .i64 8) ∧ w'.cell? ⟨w.heap.size, 1, none⟩ = some (.int .i64 n) ∧ w'.cell? ⟨w.heap.size, 2, none⟩ = some (.slice (some ad) ns.length c2) ∧ w'.cell? ⟨w.heap.size, 3, none⟩ = some (.slice A3 l.length c3) ∧ w'.cell? (ad.add p) = some (.string x) ∧ w'.cell? (ad.add i) = some (.string y)) (ds := []) #[false, false, false, false, false, false, false, false, false, false, false, false] (by kernel_rfl) rfl rfl ⟨t0, t1, t2, t3, h1, h2⟩ (fun hHeld => ?_)
          refine pure_ (i := 0) (N := some 55) (v := ?_) (a' := ?_) #[true, false, false, false, false, false, false, false, false, false, false, false] rfl rfl (by kernel_rfl) (fun _ _ _ h => h) (Or.inl ⟨by rfl, ?_⟩) ?_ ?_
          rotate_left
          · intro w'
            go_simp
            with_reducible rfl
          rotate_left
          · simp only [Act.put, List.setIfInBounds_toArray, List.set_cons_zero, List.set_cons_succ, i64_w, i32_w]
            rfl
          refine pure_ (i := 2) (N := some 57) (v := ?_) (a' := ?_) #[true, false, true, false, false, false, false, false, false, false, false, false] rfl rfl (by kernel_rfl) (fun _ _ _ h => h) (Or.inl ⟨by rfl, ?_⟩) ?_ ?_
          rotate_left
          · intro w'
            go_simp
            with_reducible rfl
          rotate_left
          · simp only [Act.put, List.setIfInBounds_toArray, List.set_cons_zero, List.set_cons_succ, i64_w, i32_w]
            rfl
          refine pure_ (i := 3) (N := some 58) (v := ?_) (a' := ?_) #[true, false, true, true, false, false, false, false, false, false, false, false] rfl rfl (by kernel_rfl) (fun _ _ _ h => h) (Or.inl ⟨by rfl, ?_⟩) ?_ ?_
          rotate_left
          · intro w'
            go_simp
            with_reducible rfl
          rotate_left
          · simp only [Act.put, List.setIfInBounds_toArray, List.set_cons_zero, List.set_cons_succ, i64_w, i32_w]
            rfl
          refine pure_ (i := 6) (N := some 61) (v := ?_) (a' := ?_) #[true, false, true, true, false, false, true, false, false, false, false, false] rfl rfl (by kernel_rfl) (fun _ _ _ h => h) (Or.inl ⟨by rfl, ?_⟩) ?_ ?_
          rotate_left
          · intro w'
            go_simp
            with_reducible rfl
          rotate_left
          · simp only [Act.put, List.setIfInBounds_toArray, List.set_cons_zero, List.set_cons_succ, i64_w, i32_w]
            rfl
          refine pure_ (i := 8) (N := some 63) (v := ?_) (a' := ?_) #[true, false, true, true, false, false, true, false, true, false, false, false] rfl rfl (by kernel_rfl) (fun _ _ _ h => h) (Or.inl ⟨by rfl, ?_⟩) ?_ ?_
          rotate_left
          · intro w'
            go_simp
            with_reducible rfl
          rotate_left
          · simp only [Act.put, List.setIfInBounds_toArray, List.set_cons_zero, List.set_cons_succ, i64_w, i32_w]
            rfl
          refine take_ (i := 1) (N := some 56) (v := ?_) (a' := ?_) #[true, true, true, true, false, false, true, false, true, false, false, false] rfl rfl (by kernel_rfl) (fun _ _ _ h => h) (Or.inl ⟨by rfl, ?_⟩) hHeld ?_ ?_
          rotate_left
          · rintro w' ⟨s0, s1, s2, s3, s4, s5⟩
            go_simp
            with_reducible rfl
          rotate_left
          · simp only [Act.put, List.setIfInBounds_toArray, List.set_cons_zero, List.set_cons_succ, i64_w, i32_w]
            rfl
          refine pure_ (i := 4) (N := some 59) (v := ?_) (a' := ?_) #[true, true, true, true, true, false, true, false, true, false, false, false] rfl rfl (by kernel_rfl) (fun _ _ _ h => h) (Or.inl ⟨by rfl, ?_⟩) ?_ ?_
          rotate_left
          · intro w'
            go_simp
            with_reducible rfl
          rotate_left
          · simp only [Act.put, List.setIfInBounds_toArray, List.set_cons_zero, List.set_cons_succ, i64_w, i32_w]
            rfl
          refine take_ (i := 5) (N := some 60) (v := ?_) (a' := ?_) #[true, true, true, true, true, true, true, false, true, false, false, false] rfl rfl (by kernel_rfl) (fun _ _ _ h => h) (Or.inl ⟨by rfl, ?_⟩) hHeld ?_ ?_
          rotate_left
          · rintro w' ⟨s0, s1, s2, s3, s4, s5⟩
            go_simp
            with_reducible rfl
          rotate_left
          · simp only [Act.put, List.setIfInBounds_toArray, List.set_cons_zero, List.set_cons_succ, i64_w, i32_w]
            rfl
          refine take_ (i := 7) (N := some 62) (v := ?_) (a' := ?_) #[true, true, true, true, true, true, true, true, true, false, false, false] rfl rfl (by kernel_rfl) (fun _ _ _ h => h) (Or.inl ⟨by rfl, ?_⟩) hHeld ?_ ?_
          rotate_left
          · rintro w' ⟨s0, s1, s2, s3, s4, s5⟩
            go_simp
            with_reducible rfl
          rotate_left
          · simp only [Act.put, List.setIfInBounds_toArray, List.set_cons_zero, List.set_cons_succ, i64_w, i32_w]
            rfl
          refine pure_ (i := 9) (N := some 64) (v := ?_) (a' := ?_) #[true, true, true, true, true, true, true, true, true, true, false, false] rfl rfl (by kernel_rfl) (fun _ _ _ h => h) (Or.inl ⟨by rfl, ?_⟩) ?_ ?_
          rotate_left
          · intro w'
            go_simp
            with_reducible rfl
          rotate_left
          · simp only [Act.put, List.setIfInBounds_toArray, List.set_cons_zero, List.set_cons_succ, i64_w, i32_w]
            rfl
          refine take_ (i := 10) (N := some 65) (v := ?_) (a' := ?_) #[true, true, true, true, true, true, true, true, true, true, true, false] rfl rfl (by kernel_rfl) (fun _ _ _ h => h) (Or.inl ⟨by rfl, ?_⟩) hHeld ?_ ?_
          rotate_left
          · rintro w' ⟨s0, s1, s2, s3, s4, s5⟩
            go_simp
            with_reducible rfl
          rotate_left
          · simp only [Act.put, List.setIfInBounds_toArray, List.set_cons_zero, List.set_cons_succ, i64_w, i32_w]
            rfl
          refine pure_ (i := 11) (N := some 66) (v := ?_) (a' := ?_) #[true, true, true, true, true, true, true, true, true, true, true, true] rfl rfl (by kernel_rfl) (fun _ _ _ h => h) (Or.inl ⟨by rfl, ?_⟩) ?_ ?_
          rotate_left
          · intro w'
            go_simp
            with_reducible rfl
          rotate_left
          · simp only [Act.put, List.setIfInBounds_toArray, List.set_cons_zero, List.set_cons_succ, i64_w, i32_w]
            rfl
          refine done_ (by kernel_rfl) ?_
          go_wp2
          go_ret
          exact ⟨by rw [HF.out]; rfl, below_drew1 HB.out⟩
        | true =>
          have HT := Aside0.mk ((HNX.out _ hb).1 rfl)
          go_upto_region 16 with (fail)
          refine start_ (n := 12) (S := fun w' => w'.cell? ⟨w.heap.size, 0, none⟩ = some (.int .i64 8) ∧ w'.cell? ⟨w.heap.size, 1, none⟩ = some (.int .i64 n) ∧ w'.cell? ⟨w.heap.size, 2, none⟩ = some (.slice (some ad) ns.length c2) ∧ w'.cell? ⟨w.heap.size, 3, none⟩ = some (.slice A3 l.length c3) ∧ w'.cell? (ad.add p) = some (.string x) ∧ w'.cell? (ad.add i) = some (.string y)) (ds := []) #[false, false, false, false, false, false, false, false, false, false, false, false] (by kernel_rfl) rfl rfl ⟨t0, t1, t2, t3, h1, h2⟩ (fun hHeld => ?_)
          refine pure_ (i := 0) (N := some 55) (v := ?_) (a' := ?_) #[true, false, false, false, false, false, false, false, false, false, false, false] rfl rfl (by kernel_rfl) (fun _ _ _ h => h) (Or.inl ⟨by rfl, ?_⟩) ?_ ?_
          rotate_left
          · intro w'
            go_simp
            with_reducible rfl
          rotate_left
          · simp only [Act.put, List.setIfInBounds_toArray, List.set_cons_zero, List.set_cons_succ, i64_w, i32_w]
            rfl
          refine pure_ (i := 2) (N := some 57) (v := ?_) (a' := ?_) #[true, false, true, false, false, false, false, false, false, false, false, false] rfl rfl (by kernel_rfl) (fun _ _ _ h => h) (Or.inl ⟨by rfl, ?_⟩) ?_ ?_
          rotate_left
          · intro w'
            go_simp
            with_reducible rfl
          rotate_left
          · simp only [Act.put, List.setIfInBounds_toArray, List.set_cons_zero, List.set_cons_succ, i64_w, i32_w]
            rfl
          refine pure_ (i := 3) (N := some 58) (v := ?_) (a' := ?_) #[true, false, true, true, false, false, false, false, false, false, false, false] rfl rfl (by kernel_rfl) (fun _ _ _ h => h) (Or.inl ⟨by rfl, ?_⟩) ?_ ?_
          rotate_left
          · intro w'
            go_simp
            with_reducible rfl
          rotate_left
          · simp only [Act.put, List.setIfInBounds_toArray, List.set_cons_zero, List.set_cons_succ, i64_w, i32_w]
            rfl
          refine pure_ (i := 6) (N := some 61) (v := ?_) (a' := ?_) #[true, false, true, true, false, false, true, false, false, false, false, false] rfl rfl (by kernel_rfl) (fun _ _ _ h => h) (Or.inl ⟨by rfl, ?_⟩) ?_ ?_
          rotate_left
          · intro w'
            go_simp
            with_reducible rfl
          rotate_left
          · simp only [Act.put, List.setIfInBounds_toArray, List.set_cons_zero, List.set_cons_succ, i64_w, i32_w]
            rfl
          refine pure_ (i := 8) (N := some 63) (v := ?_) (a' := ?_) #[true, false, true, true, false, false, true, false, true, false, false, false] rfl rfl (by kernel_rfl) (fun _ _ _ h => h) (Or.inl ⟨by rfl, ?_⟩) ?_ ?_
          rotate_left
          · intro w'
            go_simp
            with_reducible rfl
          rotate_left
          · simp only [Act.put, List.setIfInBounds_toArray, List.set_cons_zero, List.set_cons_succ, i64_w, i32_w]
            rfl
          refine take_ (i := 1) (N := some 56) (v := ?_) (a' := ?_) #[true, true, true, true, false, false, true, false, true, false, false, false] rfl rfl (by kernel_rfl) (fun _ _ _ h => h) (Or.inl ⟨by rfl, ?_⟩) hHeld ?_ ?_
          rotate_left
          · rintro w' ⟨s0, s1, s2, s3, s4, s5⟩
            go_simp
            with_reducible rfl
          rotate_left
          · simp only [Act.put, List.setIfInBounds_toArray, List.set_cons_zero, List.set_cons_succ, i64_w, i32_w]
            rfl
          refine pure_ (i := 4) (N := some 59) (v := ?_) (a' := ?_) #[true, true, true, true, true, false, true, false, true, false, false, false] rfl rfl (by kernel_rfl) (fun _ _ _ h => h) (Or.inl ⟨by rfl, ?_⟩) ?_ ?_
          rotate_left
          · intro w'
            go_simp
            with_reducible rfl
          rotate_left
          · simp only [Act.put, List.setIfInBounds_toArray, List.set_cons_zero, List.set_cons_succ, i64_w, i32_w]
            rfl
          refine take_ (i := 5) (N := some 60) (v := ?_) (a' := ?_) #[true, true, true, true, true, true, true, false, true, false, false, false] rfl rfl (by kernel_rfl) (fun _ _ _ h => h) (Or.inl ⟨by rfl, ?_⟩) hHeld ?_ ?_
          rotate_left
          · rintro w' ⟨s0, s1, s2, s3, s4, s5⟩
            go_simp
            with_reducible rfl
          rotate_left
          · simp only [Act.put, List.setIfInBounds_toArray, List.set_cons_zero, List.set_cons_succ, i64_w, i32_w]
            rfl
          refine take_ (i := 7) (N := some 62) (v := ?_) (a' := ?_) #[true, true, true, true, true, true, true, true, true, false, false, false] rfl rfl (by kernel_rfl) (fun _ _ _ h => h) (Or.inl ⟨by rfl, ?_⟩) hHeld ?_ ?_
          rotate_left
          · rintro w' ⟨s0, s1, s2, s3, s4, s5⟩
            go_simp
            with_reducible rfl
          rotate_left
          · simp only [Act.put, List.setIfInBounds_toArray, List.set_cons_zero, List.set_cons_succ, i64_w, i32_w]
            rfl
          refine pure_ (i := 9) (N := some 64) (v := ?_) (a' := ?_) #[true, true, true, true, true, true, true, true, true, true, false, false] rfl rfl (by kernel_rfl) (fun _ _ _ h => h) (Or.inl ⟨by rfl, ?_⟩) ?_ ?_
          rotate_left
          · intro w'
            go_simp
            with_reducible rfl
          rotate_left
          · simp only [Act.put, List.setIfInBounds_toArray, List.set_cons_zero, List.set_cons_succ, i64_w, i32_w]
            rfl
          refine take_ (i := 10) (N := some 65) (v := ?_) (a' := ?_) #[true, true, true, true, true, true, true, true, true, true, true, false] rfl rfl (by kernel_rfl) (fun _ _ _ h => h) (Or.inl ⟨by rfl, ?_⟩) hHeld ?_ ?_
          rotate_left
          · rintro w' ⟨s0, s1, s2, s3, s4, s5⟩
            go_simp
            with_reducible rfl
          rotate_left
          · simp only [Act.put, List.setIfInBounds_toArray, List.set_cons_zero, List.set_cons_succ, i64_w, i32_w]
            rfl
          refine pure_ (i := 11) (N := some 66) (v := ?_) (a' := ?_) #[true, true, true, true, true, true, true, true, true, true, true, true] rfl rfl (by kernel_rfl) (fun _ _ _ h => h) (Or.inl ⟨by rfl, ?_⟩) ?_ ?_
          rotate_left
          · intro w'
            go_simp
            with_reducible rfl
          rotate_left
          · simp only [Act.put, List.setIfInBounds_toArray, List.set_cons_zero, List.set_cons_succ, i64_w, i32_w]
            rfl
          refine done_ (by kernel_rfl) ?_
          go_wp2
          go_roundw
          case measure => simp [RowKit.intOf]; omega
          case rel => exact ⟨i + 1, by go_num, by omega, Or.inl hi, HT, ⟨below_drew1 HB.out⟩, ⟨blk_drew BX.out⟩⟩
      · have hlt2 : ((i : Int) < (ns.length : Int)) = False := by simp; omega
        have HV : Aside0 (shapeT ⟨8, n, ns, l⟩ = (decide (l.length = ns.length) && (n == 0))) := ⟨by
          rw [shape_is, if_neg (by omega), if_neg (by omega), if_pos rfl]
          have : risesB ns = true := (rises_iff ns).2 (fun j hj hj2 => HRi.out j hj (by omega))
          rw [this]; rfl⟩
        by_cases hln2 : l.length = ns.length
        · have g1 : ((l.length : Int) == (ns.length : Int)) = true := by simp [hln2]
          have g2 : (l.length == ns.length) = true := by simp [hln2]
          have g3 : (l.length = ns.length) = True := eq_true hln2
          rw [decide_eq_true hln2, Bool.true_and] at HV
          clear hln2
          go_wp2
          go_ret
          exact ⟨by rw [HV.out]; rfl, HB.out⟩
        · have g1 : ((l.length : Int) == (ns.length : Int)) = false := by simp; omega
          have g2 : (l.length == ns.length) = false := by simp [hln2]
          have g3 : (l.length = ns.length) = False := eq_false hln2
          rw [decide_eq_false hln2, Bool.false_and] at HV
          clear hln2
          go_wp2
          go_ret
          exact ⟨by rw [HV.out]; rfl, HB.out⟩
  have h8b : (k == 8) = false := by simp [h8]
  by_cases h10 : k = 10
  · subst h10
    clear h8 h8b
    go_wp2
    go_quiet (fail)
    go_wp2
    go_loopw [91] (fun v91 W => ∃ i : Nat, v91 = .int .i64 i ∧ i ≤ l.length ∧ Aside0 (partsTo l i) ∧ Aside0 (Below w.heap.size w W) ∧ Aside0 (W.heap[w.heap.size]? = some (.cells #[.int .i64 10, .int .i64 n, .slice A2 ns.length c2, .slice A3 l.length c3] 25))) (fun v91 _ => l.length + 1 - (RowKit.intOf v91).toNat)
    case atStart => exact ⟨0, rfl, Nat.zero_le _, ⟨⟨fun j hj h => absurd h (by omega), fun j hj h => absurd h (by omega)⟩⟩, ⟨pw_below_drewN HB.out _⟩, ⟨blk_drewN BX.out _⟩⟩
    case round =>
      clear HB BX t0 t1 t2 t3
      obtain ⟨i, rfl, hin, HPi, HB, BX⟩ := hrel
      obtain ⟨⟨t0, t1, t2, t3⟩, _⟩ := box4T BX.out
      by_cases hi : i < l.length
      · have hlt2 : ((i : Int) < (l.length : Int)) = True := by simp [hi]
        have hge : ((0 : Int) ≤ (i : Int)) = True := by simp
        obtain ⟨ad, B2, b2, B3, b3, e, q0, q1, q2, q3, rows⟩ := at_ty HR.out HB.out hi
        have ROWS := Aside0.mk rows
        have HBAD : Aside0 (¬ partsTo l (i + 1) → shapeT ⟨10, n, ns, l⟩ = false) := ⟨fun h => by
          rw [shape_is, if_neg (by omega), if_neg (by omega), if_neg (by omega), if_neg (by omega), if_pos rfl]
          have : partsOk l = false := by
            rw [Bool.eq_false_iff]; intro h2
            have h3 := (parts_to l).1 h2
            exact h ⟨fun j hj hj2 => h3.1 j hj (by omega), fun j hj hj2 => h3.2 j hj (by omega)⟩
          rw [this]; rfl⟩
        obtain ⟨x, hx⟩ : ∃ x, x = l[i] := ⟨_, rfl⟩
        rw [← hx] at q0 q1 q2 q3 ROWS
        have HX := Aside0.mk hx
        clear hx rows
        subst e
        go_upto_region 25 with (fail)
        have BY := Aside0.mk (heap_alloc_new wr (.cells #[.int .i64 x.f0, .int .i64 x.f1, .slice B2 x.f2.length b2, .slice B3 x.f3.length b3] 25))
        have nHB := Aside0.mk (below_alloc HB.out (.cells #[.int .i64 x.f0, .int .i64 x.f1, .slice B2 x.f2.length b2, .slice B3 x.f3.length b3] 25))
        have nBX := Aside0.mk (blk_alloc BX.out (.cells #[.int .i64 x.f0, .int .i64 x.f1, .slice B2 x.f2.length b2, .slice B3 x.f3.length b3] 25))
        clear t0 t1 t2 t3 q0 q1 q2 q3
        have WR : Aside0 (Below wr.heap.size wr (wr.alloc (.cells #[.int .i64 x.f0, .int .i64 x.f1, .slice B2 x.f2.length b2, .slice B3 x.f3.length b3] 25))) := ⟨below_alloc (Below.refl _ _) _⟩
        have HB9 := HB
        clear HB BX
        generalize wr.alloc (.cells #[.int .i64 x.f0, .int .i64 x.f1, .slice B2 x.f2.length b2, .slice B3 x.f3.length b3] 25) = wa at *
        have HB := nHB
        have BX := nBX
        clear nHB nBX
        generalize wr.heap.size = gx at *
        obtain ⟨⟨t0, t1, t2, t3⟩, _⟩ := box4T BX.out
        obtain ⟨⟨q0, q1, q2, q3⟩, _⟩ := box4T BY.out
        by_cases hk1 : x.f0 = 10 ∨ x.f0 = 1
        · have HV := Aside0.mk (HBAD.out (fun h => by have := h.1 i hi (by omega); rw [← HX.out] at this; rcases hk1 with q | q; (· exact this.1 q); (· exact this.2 q)))
          by_cases hk : x.f0 = 10
          · have g1 : (x.f0 == 10) = true := by simp [hk]
            clear hk hk1
            go_quiet (fail)
            go_wp2
            go_ret
            exact ⟨by rw [HV.out]; rfl, pw_below_drewN HB.out _⟩
          · have g1 : (x.f0 == 10) = false := by simp [hk]
            have g2 : (x.f0 == 1) = true := by rcases hk1 with q | q; (· exact absurd q hk); (· simp [q])
            clear hk hk1
            go_quiet (fail)
            go_wp2
            go_ret
            exact ⟨by rw [HV.out]; rfl, pw_below_drewN HB.out _⟩
        have g1 : (x.f0 == 10) = false := by simp; exact fun h => hk1 (Or.inl h)
        have g2 : (x.f0 == 1) = false := by simp; exact fun h => hk1 (Or.inr h)
        by_cases hi0 : i = 0
        · have hz1 : ((i : Int) > 0) = False := by simp; omega
          have hz2 : ((0 : Int) < (i : Int)) = False := by simp; omega
          have hz3 : (0 < i) = False := eq_false (by omega)
          have HT : Aside0 (partsTo l (i + 1)) := ⟨by
            refine ⟨fun j hj h => ?_, fun j hj h => absurd h (by omega)⟩
            obtain rfl : j = i := by omega
            rw [← HX.out]
            exact ⟨fun q => hk1 (Or.inl q), fun q => hk1 (Or.inr q)⟩⟩
          clear hk1 hi0
          go_quiet (fail)
          go_wp2
          go_roundw
          case measure => simp [RowKit.intOf]; omega
          case rel => exact ⟨i + 1, by go_num, hi, HT, ⟨pw_below_drewN HB.out _⟩, ⟨blk_drewN BX.out _⟩⟩
        obtain ⟨p, hpi⟩ : ∃ p, i = p + 1 := ⟨i - 1, by omega⟩
        obtain ⟨ad', C2, d2, C3, d3, e', p0, p1, p2, p3, rows'⟩ := at_ty HR.out HB.out (show p < l.length by omega)
        have ROWS' := Aside0.mk rows'
        obtain rfl : ad = ad' := by injection e'
        clear e' rows'
        obtain ⟨y, hy⟩ : ∃ y, y = l[p] := ⟨_, rfl⟩
        rw [← hy] at p0 p1 p2 p3 ROWS'
        have HY := Aside0.mk hy
        clear hy
        have hgt : ((i : Int) > 0) = True := by simp; omega
        have hgt2 : ((0 : Int) < (i : Int)) = True := by simp; omega
        have hgt3 : (0 < i) = True := eq_true (by omega)
        have hsb : ((i : Int) - 1) = (p : Int) := by omega
        have hg1 : ((0 : Int) ≤ (p : Int)) = True := by simp
        have hl1 : ((p : Int) < (l.length : Int)) = True := by simp; omega
        have hw0 : wrap64 (p : Int) = (p : Int) := wrap_id _ (by omega)
        have hsb2 : wrap64 ((i : Int) - 1) = (p : Int) := by rw [wrap_id _ (by omega)]; omega
        obtain ⟨K0, hK0⟩ := cmp_ev y x (by have := wTs_mem (List.getElem_mem (show p < l.length by omega)); have := HW.out; rw [HY.out]; omega) (by have := wTs_mem (List.getElem_mem hi); have := HW.out; rw [HX.out]; omega)
        have EC := Aside0.mk (hK0 K0 (Nat.le_refl _))
        clear hK0
        have HNX : Aside0 ((cmpT y x < 0 → partsTo l (i + 1)) ∧ (¬ cmpT y x < 0 → shapeT ⟨10, n, ns, l⟩ = false)) := ⟨by
          subst hpi
          refine ⟨fun h => ⟨fun j hj hj2 => ?_, fun j hj hj2 => ?_⟩, fun h => HBAD.out (fun q => h (by have := q.2 p hi (by omega); rw [← HX.out, ← HY.out] at this; exact this))⟩
          · rcases Nat.lt_or_ge j (p + 1) with q | q
            · exact HPi.out.1 j hj q
            · obtain rfl : j = p + 1 := by omega
              rw [← HX.out]; exact ⟨fun q => hk1 (Or.inl q), fun q => hk1 (Or.inr q)⟩
          · rcases Nat.lt_or_ge (j + 1) (p + 1) with q | q
            · exact HPi.out.2 j hj q
            · obtain rfl : j = p := by omega
              rw [← HX.out, ← HY.out]; exact h⟩
        have HPI := Aside0.mk hpi
        clear HX HY HPI hk1 hi0 hpi
        refine start_ (n := 23) (S := fun w' => w'.cell? ⟨w.heap.size, 0, none⟩ = some (.int .i64 10) ∧ w'.cell? ⟨w.heap.size, 1, none⟩ = some (.int .i64 n) ∧ w'.cell? ⟨w.heap.size, 2, none⟩ = some (.slice A2 ns.length c2) ∧ w'.cell? ⟨w.heap.size, 3, none⟩ = some (.slice (some ad) l.length c3) ∧ w'.cell? ⟨gx, 0, none⟩ = some (.int .i64 x.f0) ∧ w'.cell? ⟨gx, 1, none⟩ = some (.int .i64 x.f1) ∧ w'.cell? ⟨gx, 2, none⟩ = some (.slice B2 x.f2.length b2) ∧ w'.cell? ⟨gx, 3, none⟩ = some (.slice B3 x.f3.length b3) ∧ w'.cell? (ad.add (p * 4)) = some (.int .i64 y.f0) ∧ w'.cell? ⟨(ad.add (p * 4)).block, (ad.add (p * 4)).off + 1, none⟩ = some (.int .i64 y.f1) ∧ w'.cell? ⟨(ad.add (p * 4)).block, (ad.add (p * 4)).off + 2, none⟩ = some (.slice C2 y.f2.length d2) ∧ w'.cell? ⟨(ad.add (p * 4)).block, (ad.add (p * 4)).off + 3, none⟩ = some (.slice C3 y.f3.length d3)) (ds := []) #[false, false, false, false, false, false, false, false, false, false, false, false, false, false, false, false, false, false, false, false, false, false, false] (by kernel_rfl) rfl rfl ⟨t0, t1, t2, t3, q0, q1, q2, q3, p0, p1, p2, p3⟩ (fun hHeld => ?_)
        refine pure_ (i := 0) (N := some 96) (v := ?_) (a' := ?_) #[true, false, false, false, false, false, false, false, false, false, false, false, false, false, false, false, false, false, false, false, false, false, false] rfl rfl (by kernel_rfl) (fun _ _ _ h => h) (Or.inl ⟨by rfl, ?_⟩) ?_ ?_
        rotate_left
        · intro w'
          go_simp
          with_reducible rfl
        rotate_left
        · simp only [Act.put, List.setIfInBounds_toArray, List.set_cons_zero, List.set_cons_succ, i64_w, i32_w]
          rfl
        refine take_ (i := 1) (N := some 97) (v := ?_) (a' := ?_) #[true, true, false, false, false, false, false, false, false, false, false, false, false, false, false, false, false, false, false, false, false, false, false] rfl rfl (by kernel_rfl) (fun _ _ _ h => h) (Or.inl ⟨by rfl, ?_⟩) hHeld ?_ ?_
        rotate_left
        · rintro w' ⟨s0, s1, s2, s3, s4, s5, s6, s7, s8, s9, s10, s11⟩
          go_simp
          with_reducible rfl
        rotate_left
        · simp only [Act.put, List.setIfInBounds_toArray, List.set_cons_zero, List.set_cons_succ, i64_w, i32_w]
          rfl
        refine pure_ (i := 2) (N := some 98) (v := ?_) (a' := ?_) #[true, true, true, false, false, false, false, false, false, false, false, false, false, false, false, false, false, false, false, false, false, false, false] rfl rfl (by kernel_rfl) (fun _ _ _ h => h) (Or.inl ⟨by rfl, ?_⟩) ?_ ?_
        rotate_left
        · intro w'
          go_simp
          with_reducible rfl
        rotate_left
        · simp only [Act.put, List.setIfInBounds_toArray, List.set_cons_zero, List.set_cons_succ, i64_w, i32_w]
          rfl
        refine pure_ (i := 3) (N := some 99) (v := ?_) (a' := ?_) #[true, true, true, true, false, false, false, false, false, false, false, false, false, false, false, false, false, false, false, false, false, false, false] rfl rfl (by kernel_rfl) (fun _ _ _ h => h) (Or.inl ⟨by rfl, ?_⟩) ?_ ?_
        rotate_left
        · intro w'
          go_simp
          with_reducible rfl
        rotate_left
        · simp only [Act.put, List.setIfInBounds_toArray, List.set_cons_zero, List.set_cons_succ, i64_w, i32_w]
          rfl
        refine pure_ (i := 4) (N := some 100) (v := ?_) (a' := ?_) #[true, true, true, true, true, false, false, false, false, false, false, false, false, false, false, false, false, false, false, false, false, false, false] rfl rfl (by kernel_rfl) (fun _ _ _ h => h) (Or.inl ⟨by rfl, ?_⟩) ?_ ?_
        rotate_left
        · intro w'
          go_simp
          with_reducible rfl
        rotate_left
        · simp only [Act.put, List.setIfInBounds_toArray, List.set_cons_zero, List.set_cons_succ, i64_w, i32_w]
          rfl
        refine take_ (i := 5) (N := some 101) (v := ?_) (a' := ?_) #[true, true, true, true, true, true, false, false, false, false, false, false, false, false, false, false, false, false, false, false, false, false, false] rfl rfl (by kernel_rfl) (fun _ _ _ h => h) (Or.inl ⟨by rfl, ?_⟩) hHeld ?_ ?_
        rotate_left
        · rintro w' ⟨s0, s1, s2, s3, s4, s5, s6, s7, s8, s9, s10, s11⟩
          go_simp
          with_reducible rfl
        rotate_left
        · simp only [Act.put, List.setIfInBounds_toArray, List.set_cons_zero, List.set_cons_succ, i64_w, i32_w]
          rfl
        refine pure_ (i := 6) (N := some 102) (v := ?_) (a' := ?_) #[true, true, true, true, true, true, true, false, false, false, false, false, false, false, false, false, false, false, false, false, false, false, false] rfl rfl (by kernel_rfl) (fun _ _ _ h => h) (Or.inl ⟨by rfl, ?_⟩) ?_ ?_
        rotate_left
        · intro w'
          go_simp
          with_reducible rfl
        rotate_left
        · simp only [Act.put, List.setIfInBounds_toArray, List.set_cons_zero, List.set_cons_succ, i64_w, i32_w]
          rfl
        refine pure_ (i := 7) (N := some 103) (v := ?_) (a' := ?_) #[true, true, true, true, true, true, true, true, false, false, false, false, false, false, false, false, false, false, false, false, false, false, false] rfl rfl (by kernel_rfl) (fun _ _ _ h => h) (Or.inl ⟨by rfl, ?_⟩) ?_ ?_
        rotate_left
        · intro w'
          go_simp
          with_reducible rfl
        rotate_left
        · simp only [Act.put, List.setIfInBounds_toArray, List.set_cons_zero, List.set_cons_succ, i64_w, i32_w]
          rfl
        refine pure_ (i := 8) (N := some 104) (v := ?_) (a' := ?_) #[true, true, true, true, true, true, true, true, true, false, false, false, false, false, false, false, false, false, false, false, false, false, false] rfl rfl (by kernel_rfl) (fun _ _ _ h => h) (Or.inl ⟨by rfl, ?_⟩) ?_ ?_
        rotate_left
        · intro w'
          go_simp
          with_reducible rfl
        rotate_left
        · simp only [Act.put, List.setIfInBounds_toArray, List.set_cons_zero, List.set_cons_succ, i64_w, i32_w]
          rfl
        refine pure_ (i := 9) (N := some 105) (v := ?_) (a' := ?_) #[true, true, true, true, true, true, true, true, true, true, false, false, false, false, false, false, false, false, false, false, false, false, false] rfl rfl (by kernel_rfl) (fun _ _ _ h => h) (Or.inl ⟨by rfl, ?_⟩) ?_ ?_
        rotate_left
        · intro w'
          go_simp
          with_reducible rfl
        rotate_left
        · simp only [Act.put, List.setIfInBounds_toArray, List.set_cons_zero, List.set_cons_succ, i64_w, i32_w]
          rfl
        refine pure_ (i := 10) (N := some 106) (v := ?_) (a' := ?_) #[true, true, true, true, true, true, true, true, true, true, true, false, false, false, false, false, false, false, false, false, false, false, false] rfl rfl (by kernel_rfl) (fun _ _ _ h => h) (Or.inl ⟨by rfl, ?_⟩) ?_ ?_
        rotate_left
        · intro w'
          go_simp
          with_reducible rfl
        rotate_left
        · simp only [Act.put, List.setIfInBounds_toArray, List.set_cons_zero, List.set_cons_succ, i64_w, i32_w]
          rfl
        refine pure_ (i := 11) (N := some 107) (v := ?_) (a' := ?_) #[true, true, true, true, true, true, true, true, true, true, true, true, false, false, false, false, false, false, false, false, false, false, false] rfl rfl (by kernel_rfl) (fun _ _ _ h => h) (Or.inl ⟨by rfl, ?_⟩) ?_ ?_
        rotate_left
        · intro w'
          go_simp
          with_reducible rfl
        rotate_left
        · simp only [Act.put, List.setIfInBounds_toArray, List.set_cons_zero, List.set_cons_succ, i64_w, i32_w]
          rfl
        refine pure_ (i := 12) (N := some 108) (v := ?_) (a' := ?_) #[true, true, true, true, true, true, true, true, true, true, true, true, true, false, false, false, false, false, false, false, false, false, false] rfl rfl (by kernel_rfl) (fun _ _ _ h => h) (Or.inl ⟨by rfl, ?_⟩) ?_ ?_
        rotate_left
        · intro w'
          go_simp
          with_reducible rfl
        rotate_left
        · simp only [Act.put, List.setIfInBounds_toArray, List.set_cons_zero, List.set_cons_succ, i64_w, i32_w]
          rfl
        refine pure_ (i := 14) (N := some 110) (v := ?_) (a' := ?_) #[true, true, true, true, true, true, true, true, true, true, true, true, true, false, true, false, false, false, false, false, false, false, false] rfl rfl (by kernel_rfl) (fun _ _ _ h => h) (Or.inl ⟨by rfl, ?_⟩) ?_ ?_
        rotate_left
        · intro w'
          go_simp
          with_reducible rfl
        rotate_left
        · simp only [Act.put, List.setIfInBounds_toArray, List.set_cons_zero, List.set_cons_succ, i64_w, i32_w]
          rfl
        refine pure_ (i := 15) (N := some 111) (v := ?_) (a' := ?_) #[true, true, true, true, true, true, true, true, true, true, true, true, true, false, true, true, false, false, false, false, false, false, false] rfl rfl (by kernel_rfl) (fun _ _ _ h => h) (Or.inl ⟨by rfl, ?_⟩) ?_ ?_
        rotate_left
        · intro w'
          go_simp
          with_reducible rfl
        rotate_left
        · simp only [Act.put, List.setIfInBounds_toArray, List.set_cons_zero, List.set_cons_succ, i64_w, i32_w]
          rfl
        refine take_ (i := 13) (N := some 109) (v := ?_) (a' := ?_) #[true, true, true, true, true, true, true, true, true, true, true, true, true, true, true, true, false, false, false, false, false, false, false] rfl rfl (by kernel_rfl) (fun _ _ _ h => h) (Or.inl ⟨by rfl, ?_⟩) hHeld ?_ ?_
        rotate_left
        · rintro w' ⟨s0, s1, s2, s3, s4, s5, s6, s7, s8, s9, s10, s11⟩
          go_simp
          with_reducible rfl
        rotate_left
        · simp only [Act.put, List.setIfInBounds_toArray, List.set_cons_zero, List.set_cons_succ, i64_w, i32_w]
          rfl
        refine pure_ (i := 16) (N := some 112) (v := ?_) (a' := ?_) #[true, true, true, true, true, true, true, true, true, true, true, true, true, true, true, true, true, false, false, false, false, false, false] rfl rfl (by kernel_rfl) (fun _ _ _ h => h) (Or.inl ⟨by rfl, ?_⟩) ?_ ?_
        rotate_left
        · intro w'
          go_simp
          with_reducible rfl
        rotate_left
        · simp only [Act.put, List.setIfInBounds_toArray, List.set_cons_zero, List.set_cons_succ, i64_w, i32_w]
          rfl
        refine take_ (i := 17) (N := some 113) (v := ?_) (a' := ?_) #[true, true, true, true, true, true, true, true, true, true, true, true, true, true, true, true, true, true, false, false, false, false, false] rfl rfl (by kernel_rfl) (fun _ _ _ h => h) (Or.inl ⟨by rfl, ?_⟩) hHeld ?_ ?_
        rotate_left
        · rintro w' ⟨s0, s1, s2, s3, s4, s5, s6, s7, s8, s9, s10, s11⟩
          go_simp
          with_reducible rfl
        rotate_left
        · simp only [Act.put, List.setIfInBounds_toArray, List.set_cons_zero, List.set_cons_succ, i64_w, i32_w]
          rfl
        refine take_ (i := 18) (N := some 114) (v := ?_) (a' := ?_) #[true, true, true, true, true, true, true, true, true, true, true, true, true, true, true, true, true, true, true, false, false, false, false] rfl rfl (by kernel_rfl) (fun _ _ _ h => h) (Or.inl ⟨by rfl, ?_⟩) hHeld ?_ ?_
        rotate_left
        · rintro w' ⟨s0, s1, s2, s3, s4, s5, s6, s7, s8, s9, s10, s11⟩
          go_simp
          with_reducible rfl
        rotate_left
        · simp only [Act.put, List.setIfInBounds_toArray, List.set_cons_zero, List.set_cons_succ, i64_w, i32_w]
          rfl
        refine one_ (i := 19) (N := some 115) #[true, true, true, true, true, true, true, true, true, true, true, true, true, true, true, true, true, true, true, true, false, false, false] rfl rfl (by kernel_rfl) (by decide) (fun K hK => ?_)
        refine call_ 21 #[.agg #[.int .i64 y.f0, .int .i64 y.f1, .slice C2 y.f2.length d2, .slice C3 y.f3.length d3], .agg #[.int .i64 x.f0, .int .i64 x.f1, .slice B2 x.f2.length b2, .slice B3 x.f3.length b3]] (by rfl) rfl ?_ ?_
        · go_simp
          try rfl
        have ry := ROWS'.out.below (below_drew1 HB.out)
        have rx := ROWS.out.below (below_drew1 HB.out)
        refine (types_Compare.calls K0 _ _ _ _ _ _ _ _ _ _ _ _ _ _ _ _ _ _ ry.2.1 ry.1 ry.2.2.2 ry.2.2.1 rx.2.1 rx.1 rx.2.2.2 rx.2.2.1 EC.out).mono ?_
        rintro e w1 ⟨rfl, hb⟩
        refine ⟨_, rfl, ?_⟩
        have nHB := Aside0.mk (below_step (below_drew1 HB.out) hb)
        have nBX := Aside0.mk (blk_below (blk_drew BX.out) hb)
        clear ry rx
        refine hK.out _ _ ⟨pw_cell_below hb hHeld.1, pw_cell_below hb hHeld.2.1, pw_cell_below hb hHeld.2.2.1, pw_cell_below hb hHeld.2.2.2.1, pw_cell_below hb hHeld.2.2.2.2.1, pw_cell_below hb hHeld.2.2.2.2.2.1, pw_cell_below hb hHeld.2.2.2.2.2.2.1, pw_cell_below hb hHeld.2.2.2.2.2.2.2.1, pw_cell_below hb hHeld.2.2.2.2.2.2.2.2.1, pw_cell_below hb hHeld.2.2.2.2.2.2.2.2.2.1, pw_cell_below hb hHeld.2.2.2.2.2.2.2.2.2.2.1, pw_cell_below hb hHeld.2.2.2.2.2.2.2.2.2.2.2⟩ (fun hHeld => ?_)
        clear hK K
        refine norm_ (a' := ?_) ?_ ?_
        rotate_left
        · show Act.put _ (some 115) _ = _
          simp only [Act.put, List.setIfInBounds_toArray, List.set_cons_zero, List.set_cons_succ, i64_w, i32_w]
          rfl
        refine pure_ (i := 20) (N := some 116) (v := ?_) (a' := ?_) #[true, true, true, true, true, true, true, true, true, true, true, true, true, true, true, true, true, true, true, true, true, false, false] rfl rfl (by kernel_rfl) (fun _ _ _ h => h) (Or.inl ⟨by rfl, ?_⟩) ?_ ?_
        rotate_left
        · intro w'
          go_simp
          with_reducible rfl
        rotate_left
        · simp only [Act.put, List.setIfInBounds_toArray, List.set_cons_zero, List.set_cons_succ, i64_w, i32_w]
          rfl
        refine pure_ (i := 21) (N := some 117) (v := ?_) (a' := ?_) #[true, true, true, true, true, true, true, true, true, true, true, true, true, true, true, true, true, true, true, true, true, true, false] rfl rfl (by kernel_rfl) (fun _ _ _ h => h) (Or.inl ⟨by rfl, ?_⟩) ?_ ?_
        rotate_left
        · intro w'
          go_simp
          with_reducible rfl
        rotate_left
        · simp only [Act.put, List.setIfInBounds_toArray, List.set_cons_zero, List.set_cons_succ, i64_w, i32_w]
          rfl
        refine pure_ (i := 22) (N := some 118) (v := ?_) (a' := ?_) #[true, true, true, true, true, true, true, true, true, true, true, true, true, true, true, true, true, true, true, true, true, true, true] rfl rfl (by kernel_rfl) (fun _ _ _ h => h) (Or.inl ⟨by rfl, ?_⟩) ?_ ?_
        rotate_left
        · intro w'
          go_simp
          with_reducible rfl
        rotate_left
        · simp only [Act.put, List.setIfInBounds_toArray, List.set_cons_zero, List.set_cons_succ, i64_w, i32_w]
          rfl
        refine done_ (by kernel_rfl) ?_
        go_wp2
        · have HV := Aside0.mk (HNX.out.2 (by omega))
          go_ret
          exact ⟨by rw [HV.out]; rfl, nHB.out⟩
        · have HT := Aside0.mk (HNX.out.1 (by omega))
          go_roundw
          case measure => simp [RowKit.intOf]; omega
          case rel => exact ⟨i + 1, by go_num, hi, HT, nHB, nBX⟩
      · have hlt2 : ((i : Int) < (l.length : Int)) = False := by simp; omega
        have HV : Aside0 (shapeT ⟨10, n, ns, l⟩ = ((ns.length == 0) && (decide (2 ≤ l.length) && (n == 0)))) := ⟨by
          rw [shape_is, if_neg (by omega), if_neg (by omega), if_neg (by omega), if_neg (by omega), if_pos rfl]
          have : partsOk l = true := (parts_to l).2 (by have := HPi.out; rwa [show i = l.length by omega] at this)
          rw [this, Bool.true_and, Bool.and_assoc]⟩
        by_cases hns : 0 < ns.length
        · have g1 : ((ns.length : Int) == 0) = false := by rw [beq_eq_false_iff_ne]; omega
          have g2 : (ns.length == 0) = false := by rw [beq_eq_false_iff_ne]; omega
          have g3 : (ns.length = 0) = False := eq_false (by omega)
          have g4 : (ns = []) = False := eq_false (fun h => by subst h; simp at hns)
          rw [g2, Bool.false_and] at HV
          clear hns
          go_wp2
          go_ret
          exact ⟨by rw [HV.out]; rfl, HB.out⟩
        obtain rfl : ns = [] := List.eq_nil_of_length_eq_zero (by omega)
        clear hns
        simp only [List.length_nil] at t0 t1 t2 t3 BX HV ⊢
        rw [show ((0 : Nat) == 0) = true from rfl, Bool.true_and] at HV
        by_cases hl2 : 2 ≤ l.length
        · have g : ((l.length : Int) ≥ 2) = True := by simp; omega
          have gn : (2 ≤ l.length) = True := eq_true hl2
          have g' : ((2 : Int) ≤ (l.length : Int)) = True := by simp; omega
          rw [decide_eq_true hl2, Bool.true_and] at HV
          clear hl2
          go_wp2
          go_ret
          exact ⟨by rw [HV.out]; rfl, HB.out⟩
        · have g : ((l.length : Int) ≥ 2) = False := by simp; omega
          have gn : (2 ≤ l.length) = False := eq_false hl2
          have g' : ((2 : Int) ≤ (l.length : Int)) = False := by simp; omega
          rw [decide_eq_false hl2, Bool.false_and] at HV
          clear hl2
          go_wp2
          go_ret
          exact ⟨by rw [HV.out]; rfl, HB.out⟩
  have h10b : (k == 10) = false := by simp [h10]
  have q8 : (k = 8) = False := eq_false h8
  by_cases hout : ¬ ((1 ≤ k ∧ k ≤ 7) ∨ k = 9 ∨ (11 ≤ k ∧ k ≤ 13))
  · have HV : Aside0 (shapeT ⟨k, n, ns, l⟩ = false) := ⟨by rw [shape_is, if_neg (by omega), if_neg (by omega), if_neg (by omega), if_neg (by omega), if_neg (by omega), if_neg (by omega)]⟩
    have e1 : (k == 1) = false := by simp; omega
    have e2 : (k == 2) = false := by simp; omega
    have e3 : (k == 3) = false := by simp; omega
    have e4 : (k == 4) = false := by simp; omega
    have e5 : (k == 5) = false := by simp; omega
    have e6 : (k == 6) = false := by simp; omega
    have e7 : (k == 7) = false := by simp; omega
    have e9 : (k == 9) = false := by simp; omega
    have e11 : (k == 11) = false := by simp; omega
    have e12 : (k == 12) = false := by simp; omega
    have e13 : (k == 13) = false := by simp; omega
    clear h8 h10 q8 hout
    go_wp2
    go_quiet (fail)
    go_wp2
    go_ret
    exact ⟨by rw [HV.out]; rfl, pw_below_drewN HB.out _⟩
  have hk : k = 1 ∨ k = 2 ∨ k = 3 ∨ k = 4 ∨ k = 5 ∨ k = 6 ∨ k = 7 ∨ k = 9 ∨ k = 11 ∨ k = 12 ∨ k = 13 := by omega
  by_cases hns : 0 < ns.length
  · have g1 : ((ns.length : Int) == 0) = false := by rw [beq_eq_false_iff_ne]; omega
    have g2 : (ns.length == 0) = false := by rw [beq_eq_false_iff_ne]; omega
    have g3 : (ns.length = 0) = False := eq_false (by omega)
    have g4 : (ns = []) = False := eq_false (fun h => by subst h; simp at hns)
    have HV : Aside0 (shapeT ⟨k, n, ns, l⟩ = false) := ⟨shape_no k n ns l h8 hns⟩
    clear h8 h8b h10 h10b q8 hout hns
    rcases hk with rfl | rfl | rfl | rfl | rfl | rfl | rfl | rfl | rfl | rfl | rfl
    all_goals go_wp2
    all_goals go_quiet (fail)
    all_goals go_wp2
    all_goals go_ret
    all_goals exact ⟨by rw [HV.out]; rfl, pw_below_drewN HB.out _⟩
  obtain rfl : ns = [] := List.eq_nil_of_length_eq_zero (by omega)
  clear hns h8b h10b q8 h8 h10 hout
  simp only [List.length_nil] at t0 t1 t2 t3 BX
  by_cases h16 : 1 ≤ k ∧ k ≤ 6
  · have HV : Aside0 (shapeT ⟨k, n, [], l⟩ = (decide (l.length = 0) && (n == 0))) := ⟨by rw [shape_is, if_pos h16]; simp only [List.length_nil, BEq.rfl, Bool.true_and]; rfl⟩
    have hq : k = 1 ∨ k = 2 ∨ k = 3 ∨ k = 4 ∨ k = 5 ∨ k = 6 := by omega
    clear hk h16
    by_cases hl2 : l.length = 0
    · have g4 : (l = []) = True := eq_true (List.length_eq_zero_iff.1 hl2)
      have g1 : ((l.length : Int) == 0) = true := by rw [beq_iff_eq]; omega
      have g2 : (l.length == 0) = true := by rw [beq_iff_eq]; omega
      have g3 : (l.length = 0) = True := eq_true (by omega)
      rw [decide_eq_true hl2, Bool.true_and] at HV
      clear hl2
      rcases hq with rfl | rfl | rfl | rfl | rfl | rfl
      all_goals go_wp2
      all_goals go_quiet (fail)
      all_goals go_wp2
      all_goals go_ret
      all_goals exact ⟨by rw [HV.out]; rfl, pw_below_drewN HB.out _⟩
    · have g4 : (l = []) = False := eq_false (fun h => hl2 (by rw [h]; rfl))
      have g1 : ((l.length : Int) == 0) = false := by rw [beq_eq_false_iff_ne]; omega
      have g2 : (l.length == 0) = false := by rw [beq_eq_false_iff_ne]; omega
      have g3 : (l.length = 0) = False := eq_false (by omega)
      rw [decide_eq_false hl2, Bool.false_and] at HV
      clear hl2
      rcases hq with rfl | rfl | rfl | rfl | rfl | rfl
      all_goals go_wp2
      all_goals go_quiet (fail)
      all_goals go_wp2
      all_goals go_ret
      all_goals exact ⟨by rw [HV.out]; rfl, pw_below_drewN HB.out _⟩
  by_cases h7 : k = 7
  · subst h7
    have HV : Aside0 (shapeT ⟨7, n, [], l⟩ = (decide (l.length = 1) && (n == 0))) := ⟨by rw [shape_is, if_neg (by omega), if_pos rfl]; simp only [List.length_nil, BEq.rfl, Bool.true_and]; rfl⟩
    clear hk h16
    by_cases hl2 : l.length = 1
    · have g1 : ((l.length : Int) == 1) = true := by rw [beq_iff_eq]; omega
      have g2 : (l.length == 1) = true := by rw [beq_iff_eq]; omega
      have g3 : (l.length = 1) = True := eq_true (by omega)
      rw [decide_eq_true hl2, Bool.true_and] at HV
      clear hl2
      go_wp2
      go_quiet (fail)
      go_wp2
      go_ret
      exact ⟨by rw [HV.out]; rfl, pw_below_drewN HB.out _⟩
    · have g1 : ((l.length : Int) == 1) = false := by rw [beq_eq_false_iff_ne]; omega
      have g2 : (l.length == 1) = false := by rw [beq_eq_false_iff_ne]; omega
      have g3 : (l.length = 1) = False := eq_false (by omega)
      rw [decide_eq_false hl2, Bool.false_and] at HV
      clear hl2
      go_wp2
      go_quiet (fail)
      go_wp2
      go_ret
      exact ⟨by rw [HV.out]; rfl, pw_below_drewN HB.out _⟩
  by_cases h9 : k = 9
  · subst h9
    have HV : Aside0 (shapeT ⟨9, n, [], l⟩ = (decide (1 ≤ l.length) && (n == 0))) := ⟨by rw [shape_is, if_neg (by omega), if_neg (by omega), if_neg (by omega), if_pos rfl]; simp only [List.length_nil, BEq.rfl, Bool.true_and]⟩
    clear hk h16 h7
    by_cases hl2 : 1 ≤ l.length
    · have g : ((l.length : Int) ≥ 1) = True := eq_true (by omega)
      have gn : (1 ≤ l.length) = True := eq_true (by omega)
      have gm : (0 < l.length) = True := eq_true (by omega)
      have g' : ((1 : Int) ≤ (l.length : Int)) = True := eq_true (by omega)
      rw [decide_eq_true hl2, Bool.true_and] at HV
      clear hl2
      go_wp2
      go_quiet (fail)
      go_wp2
      go_ret
      exact ⟨by rw [HV.out]; rfl, pw_below_drewN HB.out _⟩
    · have g : ((l.length : Int) ≥ 1) = False := eq_false (by omega)
      have gn : (1 ≤ l.length) = False := eq_false (by omega)
      have gm : (0 < l.length) = False := eq_false (by omega)
      have g' : ((1 : Int) ≤ (l.length : Int)) = False := eq_false (by omega)
      rw [decide_eq_false hl2, Bool.false_and] at HV
      clear hl2
      go_wp2
      go_quiet (fail)
      go_wp2
      go_ret
      exact ⟨by rw [HV.out]; rfl, pw_below_drewN HB.out _⟩
  have hq : k = 11 ∨ k = 12 ∨ k = 13 := by omega
  have HV : Aside0 (shapeT ⟨k, n, [], l⟩ = (decide (l.length = 0) && decide (0 ≤ n))) := ⟨by rw [shape_is, if_neg h16, if_neg h7, if_neg (by omega), if_neg h9, if_neg (by omega), if_pos (by omega)]; simp only [List.length_nil, BEq.rfl, Bool.true_and]; rfl⟩
  clear hk h16 h7 h9
  by_cases hl2 : l.length = 0
  · have g4 : (l = []) = True := eq_true (List.length_eq_zero_iff.1 hl2)
    have g1 : ((l.length : Int) == 0) = true := by rw [beq_iff_eq]; omega
    have g2 : (l.length == 0) = true := by rw [beq_iff_eq]; omega
    have g3 : (l.length = 0) = True := eq_true (by omega)
    rw [decide_eq_true hl2, Bool.true_and] at HV
    clear hl2
    by_cases hn0 : 0 ≤ n
    · have f1 : (n ≥ 0) = True := by simp; omega
      have f2 : ((0 : Int) ≤ n) = True := by simp; omega
      rw [decide_eq_true hn0] at HV
      clear hn0
      rcases hq with rfl | rfl | rfl
      all_goals go_wp2
      all_goals go_quiet (fail)
      all_goals go_wp2
      all_goals go_ret
      all_goals exact ⟨by rw [HV.out]; rfl, pw_below_drewN HB.out _⟩
    · have f1 : (n ≥ 0) = False := by simp; omega
      have f2 : ((0 : Int) ≤ n) = False := by simp; omega
      rw [decide_eq_false hn0] at HV
      clear hn0
      rcases hq with rfl | rfl | rfl
      all_goals go_wp2
      all_goals go_quiet (fail)
      all_goals go_wp2
      all_goals go_ret
      all_goals exact ⟨by rw [HV.out]; rfl, pw_below_drewN HB.out _⟩
  · have g4 : (l = []) = False := eq_false (fun h => hl2 (by rw [h]; rfl))
    have g1 : ((l.length : Int) == 0) = false := by rw [beq_eq_false_iff_ne]; omega
    have g2 : (l.length == 0) = false := by rw [beq_eq_false_iff_ne]; omega
    have g3 : (l.length = 0) = False := eq_false (by omega)
    rw [decide_eq_false hl2, Bool.false_and] at HV
    clear hl2
    rcases hq with rfl | rfl | rfl
    all_goals go_wp2
    all_goals go_quiet (fail)
    all_goals go_wp2
    all_goals go_ret
    all_goals exact ⟨by rw [HV.out]; rfl, pw_below_drewN HB.out _⟩
end Go.Proofs.YtjcajpkgamolkaaDoor.Ty
