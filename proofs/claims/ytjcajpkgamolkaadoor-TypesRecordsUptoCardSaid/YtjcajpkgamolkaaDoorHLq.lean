/- HL, as this claim needs it. -/
import Derived.Test.YtjcajpkgamolkaaDoorPTypx0q
import Derived.Test.YtjcajpkgamolkaaDoorHBq
import Derived.Test.YtjcajpkgamolkaaDoorPTypx1q
namespace Go.Proofs.YtjcajpkgamolkaaDoor.PTyp
open Go.RowKit Go.Proofs.YtjcajpkgamolkaaDoorW.PrintWords Go.Proofs.YtjcajpkgamolkaaDoorW.PrintLast Go.Proofs.YtjcajpkgamolkaaDoorW.PrintMore
attribute [local go_sem] max2_int min2_int max_two min_two max_three min_three max_four min_four   -- for this text's walks alone
set_option linter.unusedVariables false
set_option linter.unusedSimpArgs false
mutual
def types_copied.l0 : Nat → List (S25) → Int → Int → Int → Int → List ByteArray → List (S25) → Option (Int × Int × List ByteArray × (List (S25)))
  | 0, _, _, _, _, _, _, _ => none
  | k + 1, x15, x16, x17, x234000, x234001, x234002, x234003 => if x17 < x16 then (if 0 ≤ x17 then (if x17 < (x15.length : Int) then ((types_copied.f k ((rd_T25 x15 x17).f0) ((rd_T25 x15 x17).f1) ((rd_T25 x15 x17).f2) ((rd_T25 x15 x17).f3)).bind fun bt239 => (if x234003.length < 2199023255552 then (types_copied.l0 k x15 x16 (wrap64 (x17 + 1)) x234000 x234001 x234002 (x234003 ++ [(⟨bt239.1, bt239.2.1, bt239.2.2.1, bt239.2.2.2⟩ : S25)])) else (none))) else (none)) else (none)) else (some (x234000, x234001, x234002, x234003))
def types_copied.f : Nat → Int → Int → List ByteArray → List (S25) → Option (Int × Int × List ByteArray × (List (S25)))
  | 0, _, _, _, _ => none
  | k + 1, a0_0, a0_1, l0_2, l0_3 => if ([] : List ByteArray).length + l0_2.length < 8796093022208 then (types_copied.l0 k l0_3 (l0_3.length : Int) 0 a0_0 a0_1 (([] : List ByteArray) ++ l0_2) ([] : List (S25))) else (none)
end
def types_copied.T5 : Bool × List (List Nat × List Nat) := (true, [([], []), ([0], [0]), ([], []), ([2], [2]), ([3], [3]), ([1, 4, 3], [1, 4]), ([0, 1, 2, 3, 4, 5], []), ([6, 5, 5, 0, 1, 2, 3, 4, 5], [5, 6])])
def types_copied.B5 : List Nat := [0, 1, 0, 4, 12, 31, 63, 127]
theorem types_copied.tab5 : rtab .any (opsOf Tryd.f45 5) = types_copied.T5 := by kernel_rfl
theorem types_copied.bits5 : waitsOk types_copied.T5.2 types_copied.B5 = true := by kernel_rfl
set_option maxHeartbeats 8000000 in
set_option maxRecDepth 100000 in
theorem types_copied.calls (k : Nat) : ∀ (a0_0 : Int) (a0_1 : Int) (A0_2 : Option Addr) (c0_2 : Nat) (l0_2 : List ByteArray) (A0_3 : Option Addr) (c0_3 : Nat) (l0_3 : List (S25)) (r1 : Int) (r2 : Int) (r3 : List ByteArray) (r4 : List (S25)) (w : World) (hr0_2 : Kd.C Kd.string w A0_2 l0_2.length l0_2) (hc0_2 : l0_2.length ≤ c0_2) (hr0_3 : Kd.C k25 w A0_3 l0_3.length l0_3) (hc0_3 : l0_3.length ≤ c0_3) (h : types_copied.f k a0_0 a0_1 l0_2 l0_3 = some (r1, r2, r3, r4)),
    Calls Tryd.prog 45 #[.agg #[.int .i64 a0_0, .int .i64 a0_1, .slice A0_2 l0_2.length c0_2, .slice A0_3 l0_3.length c0_3]] w fun e w' => ∃ v2_ v3_ : Value, e = .returned (.agg #[.int .i64 r1, .int .i64 r2, v2_, v3_]) ∧ Kd.R Kd.string 9 w' w.heap.size (fun _ => True) v2_ r3 ∧ Kd.R k25 25 w' w.heap.size (fun k_ => some k_ ≠ (v2_ : Value).ownBlock) v3_ r4 ∧ Below w.heap.size w w' := by
  induction k using Nat.strongRecOn with
  | _ k ih =>
  intro a0_0 a0_1 A0_2 c0_2 l0_2 A0_3 c0_3 l0_3 r1 r2 r3 r4 w hr0_2 hc0_2 hr0_3 hc0_3 h
  cases k with
  | zero => exact absurd h (by simp [types_copied.f])
  | succ k =>
  simp only [types_copied.f] at h
  have hu25 := Tryd.underlying25
  have HR0_2 := Aside0.mk hr0_2
  have HC0_2 := Aside0.mk hc0_2
  clear hr0_2 hc0_2
  have HR0_3 := Aside0.mk hr0_3
  have HC0_3 := Aside0.mk hc0_3
  clear hr0_3 hc0_3
  have HB := Aside0.mk (Below.refl w.heap.size w)
  have H : (if ([] : List ByteArray).length + l0_2.length < 8796093022208 then (types_copied.l0 k l0_3 (l0_3.length : Int) 0 a0_0 a0_1 (([] : List ByteArray) ++ l0_2) ([] : List (S25))) else (none)) = some (r1, r2, r3, r4) := h
  clear h
  by_cases c2 : ([] : List ByteArray).length + l0_2.length < 8796093022208
  · rw [if_pos c2] at H
    have LMc2 := Aside0.mk c2
    clear c2
    obtain ⟨y234, hy234⟩ : ∃ y_ : List ByteArray, y_ = (([] : List ByteArray) ++ l0_2) := ⟨_, rfl⟩
    replace H : (types_copied.l0 k l0_3 (l0_3.length : Int) 0 a0_0 a0_1 y234 ([] : List (S25))) = some (r1, r2, r3, r4) := by first | (rw [hy234]; with_reducible exact H) | (have H2_ := (Option.bind_some _ _).symm.trans H; rw [hy234]; with_reducible exact H2_) | (have H2_ := (Option.bind_some _ _).symm.trans H; with_reducible exact H2_) | with_reducible exact H | (rw [hy234]; exact H) | exact H
    have Ny234 := Aside0.mk hy234
    clear hy234
    have H' := Aside0.mk H
    clear H
    go_enter Tryd.func45, Tryd.ntmps45
    go_wp2_with (first | ((with_reducible refine gate_dst (N := 1) rfl ?_); refine box_event ?hg (N := 1) ?hd (cs := #[.int .i64 a0_0, .int .i64 a0_1, .slice A0_2 l0_2.length c0_2, .slice A0_3 l0_3.length c0_3]) (t := 25) ?hr ?_; (case hd => rfl); (case hg => rfl); (case hr => first | (go_simp; done) | (go_simp; rfl)); intro gb231 hg w3 hbox hb; have n0_ := Aside0.mk (below_step (by repeat (first | (with_reducible first | exact HB.out | apply below_alloc | apply pw_below_drewN | apply below_drew1) | exact HB.out)) hb); have n1_ := Aside0.mk (hbox); have n2_ := Aside0.mk ((by rw [hg]; exact (below_size (by repeat (first | (with_reducible first | exact HB.out | apply below_alloc | apply pw_below_drewN | apply below_drew1) | exact HB.out))) : w.heap.size ≤ gb231)); have n3_ := Aside0.mk ((by rw [hg]; exact (below_size (by repeat (first | (with_reducible first | exact HB.out | apply below_alloc | apply pw_below_drewN | apply below_drew1) | exact HB.out))) : w.heap.size ≤ gb231)); clear HB; have HB := n0_; have BK231 := n1_; have GW231 := n2_; have GE231 := n3_; clear n0_ n1_ n2_ n3_; clear hb hbox hg) | ((with_reducible refine gate_dst (N := 2) rfl ?_); refine box_event ?hg (N := 2) ?hd (cs := #[.int .i64 0, .int .i64 0, .slice none 0 0, .slice none 0 0]) (t := 25) ?hr ?_; (case hd => rfl); (case hg => rfl); (case hr => first | (go_simp; done) | (go_simp; rfl)); intro gb232 hg w4 hbox hb; have n0_ := Aside0.mk (blk_below (g := gb231) (o := .cells #[.int .i64 a0_0, .int .i64 a0_1, .slice A0_2 l0_2.length c0_2, .slice A0_3 l0_3.length c0_3] 25 (0, 0)) (by (with_reducible repeat (first | refine blk_drewN ?_ _ | refine blk_drew ?_ | refine blk_alloc ?_ _)); exact BK231.out) hb); have n1_ := Aside0.mk (below_step (by repeat (first | (with_reducible first | exact HB.out | apply below_alloc | apply pw_below_drewN | apply below_drew1 | refine below_set ?_ GE231.out) | exact HB.out)) hb); have n2_ := Aside0.mk (hbox); have n3_ := Aside0.mk ((by rw [hg]; exact (below_size (by repeat (first | (with_reducible first | exact HB.out | apply below_alloc | apply pw_below_drewN | apply below_drew1 | refine below_set ?_ GE231.out) | exact HB.out))) : w.heap.size ≤ gb232)); have n4_ := Aside0.mk ((by rw [hg]; exact (below_size (by repeat (first | (with_reducible first | exact HB.out | apply below_alloc | apply pw_below_drewN | apply below_drew1 | refine below_set ?_ GE231.out) | exact HB.out))) : w.heap.size ≤ gb232)); have n5_ := Aside0.mk ((by rw [hg]; exact Nat.ne_of_lt (blk_lt (g := gb231) (o := .cells #[.int .i64 a0_0, .int .i64 a0_1, .slice A0_2 l0_2.length c0_2, .slice A0_3 l0_3.length c0_3] 25 (0, 0)) (by (with_reducible repeat (first | refine blk_drewN ?_ _ | refine blk_drew ?_ | refine blk_alloc ?_ _)); exact BK231.out)) : gb231 ≠ gb232)); have n6_ := Aside0.mk ((by rw [hg]; exact Nat.ne_of_gt (blk_lt (g := gb231) (o := .cells #[.int .i64 a0_0, .int .i64 a0_1, .slice A0_2 l0_2.length c0_2, .slice A0_3 l0_3.length c0_3] 25 (0, 0)) (by (with_reducible repeat (first | refine blk_drewN ?_ _ | refine blk_drew ?_ | refine blk_alloc ?_ _)); exact BK231.out)) : gb232 ≠ gb231)); clear BK231; clear HB; have BK231 := n0_; have HB := n1_; have BK232 := n2_; have GW232 := n3_; have GE232 := n4_; have NB231_232 := n5_; have NB232_231 := n6_; clear n0_ n1_ n2_ n3_ n4_ n5_ n6_; clear hb hbox hg))
    have ey : l0_2 = y234 := by rw [Ny234.out]; rfl
    subst ey
    have hw4 := Aside0.mk (Below.refl w4.heap.size w4.drew)
    have q231 : w4.drew.heap[gb231]? = some (.cells #[.int .i64 a0_0, .int .i64 a0_1, .slice A0_2 l0_2.length c0_2, .slice A0_3 l0_3.length c0_3] 25) := (by (with_reducible repeat (first | refine blk_drewN ?_ _ | refine blk_drew ?_ | refine blk_alloc ?_ _)); exact BK231.out)
    have q232 : w4.drew.heap[gb232]? = some (.cells #[.int .i64 0, .int .i64 0, .slice none 0 0, .slice none 0 0] 25) := (by (with_reducible repeat (first | refine blk_drewN ?_ _ | refine blk_drew ?_ | refine blk_alloc ?_ _)); exact BK232.out)
    have HB4 : Aside0 (Below w.heap.size w w4.drew) := ⟨by repeat (first | (with_reducible first | exact HB.out | apply below_alloc | apply pw_below_drewN | apply below_drew1) | exact HB.out)⟩
    have K231 := Aside0.mk q231
    have K232 := Aside0.mk q232
    have HR4 : Aside0 (Kd.C Kd.string w4.drew A0_2 l0_2.length l0_2) := ⟨Kd.C_below HR0_2.out (Below.mono HB4.out (Nat.le_refl _))⟩
    have hL2 : l0_2.length < 8796093022208 := by have := LMc2.out; simpa using this
    clear q231 q232 hw4 BK231 BK232 HB
    refine start_ (n := 10) (S := fun w' => w'.cell? ⟨gb231, 0, none⟩ = some (.int .i64 a0_0) ∧ w'.cell? ⟨gb231, 1, none⟩ = some (.int .i64 a0_1) ∧ w'.cell? ⟨gb231, 2, none⟩ = some (.slice A0_2 l0_2.length c0_2)) (ds := [9]) #[false, false, false, false, false, false, false, false, false, false] (by kernel_rfl) rfl rfl ⟨(blk_cell K231.out 0).trans rfl, (blk_cell K231.out 1).trans rfl, (blk_cell K231.out 2).trans rfl⟩ (fun hHeld => ?_)
    refine pure_ (i := 0) (N := some 6) (v := ?_) (a' := ?_) #[true, false, false, false, false, false, false, false, false, false] rfl rfl (by kernel_rfl) (fun _ _ _ h => h) (Or.inl ⟨by rfl, ?_⟩) ?_ ?_
    rotate_left
    · intro w'
      go_simp
      with_reducible rfl
    rotate_left
    · simp only [Act.put, List.setIfInBounds_toArray, List.set_cons_zero, List.set_cons_succ, i64_w, i32_w]
      rfl
    refine pure_ (i := 2) (N := some 8) (v := ?_) (a' := ?_) #[true, false, true, false, false, false, false, false, false, false] rfl rfl (by kernel_rfl) (fun _ _ _ h => h) (Or.inl ⟨by rfl, ?_⟩) ?_ ?_
    rotate_left
    · intro w'
      go_simp
      with_reducible rfl
    rotate_left
    · simp only [Act.put, List.setIfInBounds_toArray, List.set_cons_zero, List.set_cons_succ, i64_w, i32_w]
      rfl
    refine pure_ (i := 4) (N := some 10) (v := ?_) (a' := ?_) #[true, false, true, false, true, false, false, false, false, false] rfl rfl (by kernel_rfl) (fun _ _ _ h => h) (Or.inl ⟨by rfl, ?_⟩) ?_ ?_
    rotate_left
    · intro w'
      go_simp
      with_reducible rfl
    rotate_left
    · simp only [Act.put, List.setIfInBounds_toArray, List.set_cons_zero, List.set_cons_succ, i64_w, i32_w]
      rfl
    refine take_ (i := 1) (N := some 7) (v := ?_) (a' := ?_) #[true, true, true, false, true, false, false, false, false, false] rfl rfl (by kernel_rfl) (fun _ _ _ h => h) (Or.inl ⟨by rfl, ?_⟩) hHeld ?_ ?_
    rotate_left
    · rintro w' ⟨s0, s1, s2⟩
      go_simp
      with_reducible rfl
    rotate_left
    · simp only [Act.put, List.setIfInBounds_toArray, List.set_cons_zero, List.set_cons_succ, i64_w, i32_w]
      rfl
    refine take_ (i := 3) (N := some 9) (v := ?_) (a' := ?_) #[true, true, true, true, true, false, false, false, false, false] rfl rfl (by kernel_rfl) (fun _ _ _ h => h) (Or.inl ⟨by rfl, ?_⟩) hHeld ?_ ?_
    rotate_left
    · rintro w' ⟨s0, s1, s2⟩
      go_simp
      with_reducible rfl
    rotate_left
    · simp only [Act.put, List.setIfInBounds_toArray, List.set_cons_zero, List.set_cons_succ, i64_w, i32_w]
      rfl
    refine take_ (i := 5) (N := some 11) (v := ?_) (a' := ?_) #[true, true, true, true, true, true, false, false, false, false] rfl rfl (by kernel_rfl) (fun _ _ _ h => h) (Or.inl ⟨by rfl, ?_⟩) hHeld ?_ ?_
    rotate_left
    · rintro w' ⟨s0, s1, s2⟩
      go_simp
      with_reducible rfl
    rotate_left
    · simp only [Act.put, List.setIfInBounds_toArray, List.set_cons_zero, List.set_cons_succ, i64_w, i32_w]
      rfl
    refine join_ (σ := Option Addr × Nat × Nat) 1 #[true, true, true, true, true, true, true, true, true, false] (fun s => [(12, (.slice s.1 l0_2.length s.2.1)), (13, .agg #[.int .i64 a0_0, .int .i64 a0_1, (.slice s.1 l0_2.length s.2.1), .slice none 0 0]), (3, .pointer (some ⟨s.2.2, 0, none⟩))]) (fun s w' => Kd.R Kd.string 9 w' w.heap.size (fun k_ => k_ ≠ gb231 ∧ k_ ≠ gb232 ∧ k_ ≠ s.2.2) (.slice s.1 l0_2.length s.2.1) l0_2 ∧ w'.heap[s.2.2]? = some (.cells #[.int .i64 0, .int .i64 0, .slice none 0 0, .slice none 0 0] 25) ∧ w'.heap[gb231]? = some (.cells #[.int .i64 a0_0, .int .i64 a0_1, .slice A0_2 l0_2.length c0_2, .slice A0_3 l0_3.length c0_3] 25) ∧ w'.heap[gb232]? = some (.cells #[.int .i64 0, .int .i64 0, .slice none 0 0, .slice none 0 0] 25) ∧ Below w.heap.size w w' ∧ w.heap.size ≤ s.2.2 ∧ gb231 ≠ s.2.2 ∧ gb232 ≠ s.2.2) (fun s w' hF => ?_) (fun hJ => ?_)
    rotate_left
    · refine two_ (i := 6) (j := 8) (Ni := some 12) (Nj := some 3) #[true, true, true, true, true, true, true, false, false, false] #[true, true, true, true, true, true, false, false, true, false] rfl rfl rfl rfl (by kernel_rfl) (by decide) (by decide) (fun K hK => ?_) (fun K hK => ?_)
      · refine Kd.R_append_rows_step Kd.string (w0 := w) w.heap.size (by rfl) (.const (.slice none 0 0)) (.tmp 11) 22 9 (.string ⟨#[]⟩) 16 rfl Tryd.underlying22 info9 rfl (by decide) (by decide) (.slice none 0 0) ([] : List ByteArray) l0_2 _ _ _ (fun k_ => k_ ≠ gb231 ∧ k_ ≠ gb232) (fun _ => False) rfl rfl (Kd.R_nil _ _ _ _ _) HR4.out (fun _ _ h => h) (fun _ h => h.elim) ?hf ?hb ?hba (by simp; omega) ?_
        case hf => intro k hk; have h1 := (blk_lt K231.out); have h2 := (blk_lt K232.out); constructor <;> omega
        case hb => exact HB4.out
        case hba => exact HB4.out.size
        intro v1 w1 hrow hb1 hgrow hat
        obtain ⟨Ax, cx, ex⟩ := Kd.R_slice hrow
        subst ex
        have k1 := blk_grown K231.out hgrow (by simp [Value.ownBlock])
        have k2 := blk_grown K232.out hgrow (by simp [Value.ownBlock])
        have hfar : w4.drew.heap.size ≤ w1.heap.size := hgrow.size
        refine hK.out _ _ ⟨(blk_cell k1 0).trans rfl, (blk_cell k1 1).trans rfl, (blk_cell k1 2).trans rfl⟩ (fun hHeld => ?_)
        clear hK K
        refine norm_ (a' := ?_) ?_ ?_
        rotate_left
        · show Act.put _ (some 12) _ = _
          simp only [Act.put, List.setIfInBounds_toArray, List.set_cons_zero, List.set_cons_succ, i64_w, i32_w]
          rfl
        refine pure_ (i := 7) (N := some 13) (v := ?_) (a' := ?_) #[true, true, true, true, true, true, true, true, false, false] rfl rfl (by kernel_rfl) (fun _ _ _ h => h) (Or.inl ⟨by rfl, ?_⟩) ?_ ?_
        rotate_left
        · intro w'
          go_simp
          with_reducible rfl
        rotate_left
        · simp only [Act.put, List.setIfInBounds_toArray, List.set_cons_zero, List.set_cons_succ, i64_w, i32_w]
          rfl
        refine one_ (i := 8) (N := some 3) #[true, true, true, true, true, true, true, true, true, false] rfl rfl (by kernel_rfl) (by decide) (fun K hK => ?_)
        refine value_ (w1 := ?_) (v := ?_) (by rfl) rfl ?_ ?_
        rotate_left 2
        · go_simp
          constructor
          · rfl
          · rfl
        have z1 := blk_alloc k1 (.cells #[.int .i64 0, .int .i64 0, .slice none 0 0, .slice none 0 0] 25)
        refine hK.out _ _ ⟨(blk_cell z1 0).trans rfl, (blk_cell z1 1).trans rfl, (blk_cell z1 2).trans rfl⟩ (fun hHeld => ?_)
        clear hK K
        refine norm_ (a' := ?_) ?_ ?_
        rotate_left
        · show Act.put _ (some 3) _ = _
          simp only [Act.put, List.setIfInBounds_toArray, List.set_cons_zero, List.set_cons_succ, i64_w, i32_w]
          rfl
        rw [List.nil_append] at hrow
        refine hJ (Ax, cx, w1.heap.size) _ ⟨?_, heap_alloc_new w1 (.cells #[.int .i64 0, .int .i64 0, .slice none 0 0, .slice none 0 0] 25), z1, blk_alloc k2 _, below_alloc hb1 _, hb1.size, Nat.ne_of_lt (blk_lt k1), Nat.ne_of_lt (blk_lt k2)⟩
        exact Kd.R_alloc (Kd.R_mono (Kd.R_bound hrow) (fun k hk => ⟨hk.1.1, hk.1.2, Nat.ne_of_lt hk.2.2.1⟩)) _
      · refine value_ (w1 := ?_) (v := ?_) (by rfl) rfl ?_ ?_
        rotate_left 2
        · go_simp
          constructor
          · rfl
          · rfl
        have k1 := blk_alloc K231.out (.cells #[.int .i64 0, .int .i64 0, .slice none 0 0, .slice none 0 0] 25)
        have k2 := blk_alloc K232.out (.cells #[.int .i64 0, .int .i64 0, .slice none 0 0, .slice none 0 0] 25)
        have k3 := heap_alloc_new w4.drew (.cells #[.int .i64 0, .int .i64 0, .slice none 0 0, .slice none 0 0] 25)
        have hb4 := below_alloc HB4.out (.cells #[.int .i64 0, .int .i64 0, .slice none 0 0, .slice none 0 0] 25)
        refine hK.out _ _ ⟨(blk_cell k1 0).trans rfl, (blk_cell k1 1).trans rfl, (blk_cell k1 2).trans rfl⟩ (fun hHeld => ?_)
        clear hK K
        refine norm_ (a' := ?_) ?_ ?_
        rotate_left
        · show Act.put _ (some 3) _ = _
          simp only [Act.put, List.setIfInBounds_toArray, List.set_cons_zero, List.set_cons_succ, i64_w, i32_w]
          rfl
        refine one_ (i := 6) (N := some 12) #[true, true, true, true, true, true, true, false, true, false] rfl rfl (by kernel_rfl) (by decide) (fun K hK => ?_)
        refine Kd.R_append_rows_step Kd.string (w0 := w) w.heap.size (by rfl) (.const (.slice none 0 0)) (.tmp 11) 22 9 (.string ⟨#[]⟩) 16 rfl Tryd.underlying22 info9 rfl (by decide) (by decide) (.slice none 0 0) ([] : List ByteArray) l0_2 _ _ _ (fun k_ => k_ ≠ gb231 ∧ k_ ≠ gb232 ∧ k_ ≠ w4.drew.heap.size) (fun _ => False) rfl rfl (Kd.R_nil _ _ _ _ _) (Kd.C_alloc HR4.out (.cells #[.int .i64 0, .int .i64 0, .slice none 0 0, .slice none 0 0] 25)) (fun _ _ h => h) (fun _ h => h.elim) ?hf ?hb ?hba (by simp; omega) ?_
        case hf => intro k hk; have h1 := (blk_lt K231.out); have h2 := (blk_lt K232.out); have h3 := blk_lt k3; refine ⟨?_, ?_, ?_⟩ <;> (simp at hk h1 h2 ⊢; omega)
        case hb => exact hb4
        case hba => exact hb4.size
        intro v1 w1 hrow hb1 hgrow hat
        obtain ⟨Ax, cx, ex⟩ := Kd.R_slice hrow
        subst ex
        have z1 := blk_grown k1 hgrow (by simp [Value.ownBlock])
        have z2 := blk_grown k2 hgrow (by simp [Value.ownBlock])
        have z3 := blk_grown k3 hgrow (by simp [Value.ownBlock])
        refine hK.out _ _ ⟨(blk_cell z1 0).trans rfl, (blk_cell z1 1).trans rfl, (blk_cell z1 2).trans rfl⟩ (fun hHeld => ?_)
        clear hK K
        refine norm_ (a' := ?_) ?_ ?_
        rotate_left
        · show Act.put _ (some 12) _ = _
          simp only [Act.put, List.setIfInBounds_toArray, List.set_cons_zero, List.set_cons_succ, i64_w, i32_w]
          rfl
        refine pure_ (i := 7) (N := some 13) (v := ?_) (a' := ?_) #[true, true, true, true, true, true, true, true, true, false] rfl rfl (by kernel_rfl) (fun _ _ _ h => h) (Or.inl ⟨by rfl, ?_⟩) ?_ ?_
        rotate_left
        · intro w'
          go_simp
          with_reducible rfl
        rotate_left
        · simp only [Act.put, List.setIfInBounds_toArray, List.set_cons_zero, List.set_cons_succ, i64_w, i32_w]
          rfl
        rw [List.nil_append] at hrow
        refine hJ (Ax, cx, w4.drew.heap.size) _ ⟨hrow, z3, z1, z2, hb1, HB4.out.size, Nat.ne_of_lt (blk_lt K231.out), Nat.ne_of_lt (blk_lt K232.out)⟩
    clear K231 K232 HB4 HR4
    obtain ⟨Ao12, co12, gb233⟩ := s
    obtain ⟨ho, h233, h231, h232, hb, hge, hn1, hn2⟩ := hF
    have hHeld : w'.cell? ⟨gb231, 0, none⟩ = some (.int .i64 a0_0) ∧ w'.cell? ⟨gb231, 1, none⟩ = some (.int .i64 a0_1) ∧ w'.cell? ⟨gb231, 2, none⟩ = some (.slice A0_2 l0_2.length c0_2) := ⟨(blk_cell h231 0).trans rfl, (blk_cell h231 1).trans rfl, (blk_cell h231 2).trans rfl⟩
    refine norm_ (a' := ?_) ?_ ?_
    rotate_left
    · simp only [putAll, Act.put, List.setIfInBounds_toArray, List.set_cons_zero, List.set_cons_succ]
      rfl
    have hcz13_0 : w'.cell? ⟨gb233, 0, none⟩ = some (.int .i64 0) := (blk_cell h233 0).trans rfl
    have hcz13_1 : w'.cell? ⟨gb233, 1, none⟩ = some (.int .i64 0) := (blk_cell h233 1).trans rfl
    have hcz13_2 : w'.cell? ⟨gb233, 2, none⟩ = some (.slice none 0 0) := (blk_cell h233 2).trans rfl
    have hcz13_3 : w'.cell? ⟨gb233, 3, none⟩ = some (.slice none 0 0) := (blk_cell h233 3).trans rfl
    have hfz13_0 := blk_frozen h233 0
    have hfz13_1 := blk_frozen h233 1
    have hfz13_2 := blk_frozen h233 2
    have hfz13_3 := blk_frozen h233 3
    refine last_ (i := 9) (N := none) #[true, true, true, true, true, true, true, true, true, true] rfl rfl (by kernel_rfl) (by decide) (fun K hK => ?_)
    refine skip_ (w1 := ?_) (by rfl) rfl ?_ ?_
    rotate_left
    · go_simp
      rfl
    refine hK.out _ _ ?_
    clear hK K
    have p0 := blk_put (cs := #[.int .i64 0, .int .i64 0, .slice none 0 0, .slice none 0 0]) h233 0 (.int .i64 a0_0) rfl
    have p1 := blk_put (cs := #[.int .i64 a0_0, .int .i64 0, .slice none 0 0, .slice none 0 0]) p0 1 (.int .i64 a0_1) rfl
    have p2 := blk_put (cs := #[.int .i64 a0_0, .int .i64 a0_1, .slice none 0 0, .slice none 0 0]) p1 2 (.slice Ao12 l0_2.length co12) rfl
    have p3 := blk_put (cs := #[.int .i64 a0_0, .int .i64 a0_1, .slice Ao12 l0_2.length co12, .slice none 0 0]) p2 3 (.slice none 0 0) rfl
    replace hn1 : gb231 ≠ gb233 := hn1
    replace hn2 : gb232 ≠ gb233 := hn2
    replace hge : w.heap.size ≤ gb233 := hge
    have f231 : (((((w'.setCell ⟨gb233, 0, none⟩ (.int .i64 a0_0)).setCell ⟨gb233, 1, none⟩ (.int .i64 a0_1)).setCell ⟨gb233, 2, none⟩ (.slice Ao12 l0_2.length co12)).setCell ⟨gb233, 3, none⟩ (.slice none 0 0))).heap[gb231]? = some (.cells #[.int .i64 a0_0, .int .i64 a0_1, .slice A0_2 l0_2.length c0_2, .slice A0_3 l0_3.length c0_3] 25) := by refine blk_far ?_ hn1 _; refine blk_far ?_ hn1 _; refine blk_far ?_ hn1 _; refine blk_far ?_ hn1 _; exact h231
    have f232 : (((((w'.setCell ⟨gb233, 0, none⟩ (.int .i64 a0_0)).setCell ⟨gb233, 1, none⟩ (.int .i64 a0_1)).setCell ⟨gb233, 2, none⟩ (.slice Ao12 l0_2.length co12)).setCell ⟨gb233, 3, none⟩ (.slice none 0 0))).heap[gb232]? = some (.cells #[.int .i64 0, .int .i64 0, .slice none 0 0, .slice none 0 0] 25) := by refine blk_far ?_ hn2 _; refine blk_far ?_ hn2 _; refine blk_far ?_ hn2 _; refine blk_far ?_ hn2 _; exact h232
    have hb5 : Below w.heap.size w (((((w'.setCell ⟨gb233, 0, none⟩ (.int .i64 a0_0)).setCell ⟨gb233, 1, none⟩ (.int .i64 a0_1)).setCell ⟨gb233, 2, none⟩ (.slice Ao12 l0_2.length co12)).setCell ⟨gb233, 3, none⟩ (.slice none 0 0))) := by refine below_set ?_ hge; refine below_set ?_ hge; refine below_set ?_ hge; refine below_set ?_ hge; exact hb
    have ho5 := (Kd.R_far (p := ⟨gb233, 3, none⟩) (Kd.R_far (p := ⟨gb233, 2, none⟩) (Kd.R_far (p := ⟨gb233, 1, none⟩) (Kd.R_far (p := ⟨gb233, 0, none⟩) ho (fun _ hk => hk.2.2) (.int .i64 a0_0)) (fun _ hk => hk.2.2) (.int .i64 a0_1)) (fun _ hk => hk.2.2) (.slice Ao12 l0_2.length co12)) (fun _ hk => hk.2.2) (.slice none 0 0))
    clear hHeld hcz13_0 hcz13_1 hcz13_2 hcz13_3 hfz13_0 hfz13_1 hfz13_2 hfz13_3 p0 p1 p2 h231 h232 h233 hb ho
    generalize ((((w'.setCell ⟨gb233, 0, none⟩ (.int .i64 a0_0)).setCell ⟨gb233, 1, none⟩ (.int .i64 a0_1)).setCell ⟨gb233, 2, none⟩ (.slice Ao12 l0_2.length co12)).setCell ⟨gb233, 3, none⟩ (.slice none 0 0)) = w5 at *
    refine done_ (by kernel_rfl) ?_
    have NB231_233 := Aside0.mk hn1
    have NB233_231 := Aside0.mk hn1.symm
    have NB232_233 := Aside0.mk hn2
    have NB233_232 := Aside0.mk hn2.symm
    have GW233 := Aside0.mk hge
    have GE233 := Aside0.mk hge
    have BK231 := Aside0.mk f231
    have BK232 := Aside0.mk f232
    have BK233 := Aside0.mk p3
    have HB := Aside0.mk hb5
    have HO236 : Aside0 (Kd.R Kd.string 9 w5 w.heap.size (fun _ => True) (.slice Ao12 l0_2.length co12) l0_2) := ⟨Kd.R_mono ho5 (fun _ _ => trivial)⟩
    clear hn1 hn2 hge f231 f232 p3 hb5 ho5
    have hcz14_0 : w5.cell? ⟨gb231, 0, none⟩ = some (.int .i64 a0_0) := (blk_cell BK231.out 0).trans rfl
    have hcz14_1 : w5.cell? ⟨gb231, 1, none⟩ = some (.int .i64 a0_1) := (blk_cell BK231.out 1).trans rfl
    have hcz14_2 : w5.cell? ⟨gb231, 2, none⟩ = some (.slice A0_2 l0_2.length c0_2) := (blk_cell BK231.out 2).trans rfl
    have hcz14_3 : w5.cell? ⟨gb231, 3, none⟩ = some (.slice A0_3 l0_3.length c0_3) := (blk_cell BK231.out 3).trans rfl
    go_wp2
    go_loopg [17] k (fun kq v17 w' => ∃ (x17_1 : Int) (x234003_1 : List (S25)) (u234003 : Value), v17 = .int .i64 x17_1 ∧ Aside0 (types_copied.l0 kq l0_3 (l0_3.length : Int) x17_1 a0_0 a0_1 l0_2 x234003_1 = some (r1, r2, r3, r4)) ∧ Aside0 (kq ≤ k) ∧ Aside0 (Kd.R Kd.string 9 w' w.heap.size (fun _ => True) (.slice Ao12 l0_2.length co12) l0_2) ∧ Aside0 (Kd.R k25 25 w' w.heap.size (fun k_ => some k_ ≠ ((.slice Ao12 l0_2.length co12) : Value).ownBlock ∧ k_ ≠ gb231 ∧ k_ ≠ gb232 ∧ k_ ≠ gb233) u234003 x234003_1) ∧ Aside0 (w'.heap[gb231]? = some (.cells #[.int .i64 a0_0, .int .i64 a0_1, (.slice A0_2 l0_2.length c0_2), (.slice A0_3 l0_3.length c0_3)] 25 (0, 0))) ∧ Aside0 (w'.heap[gb232]? = some (.cells #[.int .i64 0, .int .i64 0, (.slice none 0 0), (.slice none 0 0)] 25 (0, 0))) ∧ Aside0 (w'.heap[gb233]? = some (.cells #[.int .i64 a0_0, .int .i64 a0_1, (.slice Ao12 l0_2.length co12), u234003] 25 (0, 0))) ∧ Aside0 (Below w.heap.size w w'))
    case atStart => exact ⟨(0), (([] : List (S25))), (.slice none 0 0), rfl, H', ⟨Nat.le_refl _⟩, HO236, ⟨Kd.R_nil _ _ _ _ _⟩, BK231, BK232, BK233, HB⟩
    case round =>
      clear H'
      try clear c2
      try clear p2
      try clear c4
      try clear c6
      try clear c7
      try clear c9
      try clear hcz10_0
      try clear hcz10_1
      try clear hcz10_2
      try clear hcz10_3
      try clear hcz13_0
      try clear hcz13_1
      try clear hcz13_2
      try clear hcz13_3
      try clear hcz14_0
      try clear hcz14_1
      try clear hcz14_2
      try clear hcz14_3
      try clear hcz8_0
      try clear hcz8_1
      try clear hcz8_2
      try clear hcz8_3
      try clear hfz10_0
      try clear hfz10_1
      try clear hfz10_2
      try clear hfz10_3
      try clear hfz13_0
      try clear hfz13_1
      try clear hfz13_2
      try clear hfz13_3
      try clear hfz14_0
      try clear hfz14_1
      try clear hfz14_2
      try clear hfz14_3
      try clear hfz8_0
      try clear hfz8_1
      try clear hfz8_2
      try clear hfz8_3
      obtain ⟨x17_1, x234003_1, u234003, rfl, HA, HK1, HO_234002, HO_234003, BK231, BK232, BK233, HB⟩ := hrel
      cases gk with
      | zero => exact absurd HA.out (by simp [types_copied.l0])
      | succ k1 =>
        have H := HA.out
        clear HA
        simp only [types_copied.l0] at H
        by_cases c15 : x17_1 < (l0_3.length : Int)
        · rw [if_pos c15] at H
          have c15b0 : decide (x17_1 < (l0_3.length : Int)) = true := decide_eq_true c15
          clear c15
          by_cases c16 : 0 ≤ x17_1
          · rw [if_pos c16] at H
            have c16b0 : decide (0 ≤ x17_1) = true := decide_eq_true c16
            clear c16
            by_cases c17 : x17_1 < (l0_3.length : Int)
            · rw [if_pos c17] at H
              have c17b0 : decide (x17_1 < (l0_3.length : Int)) = true := decide_eq_true c17
              clear c17
              replace H := Option.bind_eq_some_iff.mp H
              obtain ⟨⟨t239, t240, t241, t244⟩, A180, H⟩ := H
              replace H : (if x234003_1.length < 2199023255552 then (types_copied.l0 k1 l0_3 (l0_3.length : Int) (wrap64 (x17_1 + 1)) a0_0 a0_1 l0_2 (x234003_1 ++ [(⟨t239, t240, t241, t244⟩ : S25)])) else (none)) = some (r1, r2, r3, r4) := H
              have A18 := Aside0.mk A180
              clear A180
              by_cases c19 : x234003_1.length < 2199023255552
              · rw [if_pos c19] at H
                have LMc19 := Aside0.mk c19
                clear c19
                obtain ⟨y247, hy247⟩ : ∃ y_ : List (S25), y_ = (x234003_1 ++ [(⟨t239, t240, t241, t244⟩ : S25)]) := ⟨_, rfl⟩
                replace H : (types_copied.l0 k1 l0_3 (l0_3.length : Int) (wrap64 (x17_1 + 1)) a0_0 a0_1 l0_2 y247) = some (r1, r2, r3, r4) := by first | (rw [hy247]; with_reducible exact H) | (have H2_ := (Option.bind_some _ _).symm.trans H; rw [hy247]; with_reducible exact H2_) | (have H2_ := (Option.bind_some _ _).symm.trans H; with_reducible exact H2_) | with_reducible exact H | (rw [hy247]; exact H) | exact H
                have Ny247 := Aside0.mk hy247
                clear hy247
                have H' := Aside0.mk H
                clear H
                have p237 : 0 ≤ (x17_1 : Int) := of_decide_eq_true (by first | (with_reducible assumption) | assumption)
                have q237 : x17_1 < (l0_3.length : Int) := of_decide_eq_true (by first | (with_reducible assumption) | assumption)
                obtain ⟨ad237, A237_2, c237_2, A237_3, c237_3, e237, hx237_0, hx237_1, hx237_2, hx237_3, hl237_2, hi237_2, hl237_3, hi237_3⟩ := at_T25 HR0_3.out x17_1 p237 q237
                cases e237
                replace hx237_0 := (HB.out.cell (World.block_lt_of_cell? w _ hx237_0)).trans hx237_0
                replace hx237_1 := (HB.out.cell (World.block_lt_of_cell? w _ hx237_1)).trans hx237_1
                replace hx237_2 := (HB.out.cell (World.block_lt_of_cell? w _ hx237_2)).trans hx237_2
                replace hx237_3 := (HB.out.cell (World.block_lt_of_cell? w _ hx237_3)).trans hx237_3
                have HR237_2 := Aside0.mk hi237_2
                have HC237_2 := Aside0.mk hl237_2
                clear hi237_2 hl237_2
                have HR237_3 := Aside0.mk hi237_3
                have HC237_3 := Aside0.mk hl237_3
                clear hi237_3 hl237_3
                replace p237 := eq_true p237
                replace q237 := eq_true q237
                try go_wp2_with (first | ((with_reducible refine gate_dst (N := 5) rfl ?_); refine box_event ?hg (N := 5) ?hd (cs := #[.int .i64 0, .int .i64 0, .slice none 0 0, .slice none 0 0]) (t := 25) ?hr ?_; (case hd => rfl); (case hg => rfl); (case hr => first | (go_simp; done) | (go_simp; rfl)); intro gb238 hg w20 hbox hb; have n0_ := Aside0.mk (Kd.R_below (by (with_reducible repeat (first | apply Kd.R_alloc | apply Kd.R_drewN | apply Kd.R_drew)); exact HO_234002.out) hb); have n1_ := Aside0.mk (Kd.R_below (Kd.R_elderB (by (with_reducible repeat (first | apply Kd.R_alloc | apply Kd.R_drewN | apply Kd.R_drew)); exact HO_234003.out) gb238 (Nat.le_of_eq hg.symm)) hb); have n2_ := Aside0.mk (blk_below (g := gb231) (o := .cells #[.int .i64 a0_0, .int .i64 a0_1, .slice A0_2 l0_2.length c0_2, .slice (some ad237) l0_3.length c0_3] 25 (0, 0)) (by (with_reducible repeat (first | refine blk_drewN ?_ _ | refine blk_drew ?_ | refine blk_alloc ?_ _)); exact BK231.out) hb); have n3_ := Aside0.mk (blk_below (g := gb232) (o := .cells #[.int .i64 0, .int .i64 0, .slice none 0 0, .slice none 0 0] 25 (0, 0)) (by (with_reducible repeat (first | refine blk_drewN ?_ _ | refine blk_drew ?_ | refine blk_alloc ?_ _)); exact BK232.out) hb); have n4_ := Aside0.mk (blk_below (g := gb233) (o := .cells #[.int .i64 a0_0, .int .i64 a0_1, .slice Ao12 l0_2.length co12, u234003] 25 (0, 0)) (by (with_reducible repeat (first | refine blk_drewN ?_ _ | refine blk_drew ?_ | refine blk_alloc ?_ _)); exact BK233.out) hb); have n5_ := Aside0.mk (below_step (by repeat (first | (with_reducible first | exact HB.out | apply below_alloc | apply pw_below_drewN | apply below_drew1 | refine below_set ?_ GE231.out | refine below_set ?_ GE232.out | refine below_set ?_ GE233.out) | exact HB.out)) hb); have n6_ := Aside0.mk (hbox); have n7_ := Aside0.mk ((by rw [hg]; exact (below_size (by repeat (first | (with_reducible first | exact HB.out | apply below_alloc | apply pw_below_drewN | apply below_drew1 | refine below_set ?_ GE231.out | refine below_set ?_ GE232.out | refine below_set ?_ GE233.out) | exact HB.out))) : w.heap.size ≤ gb238)); have n8_ := Aside0.mk ((by rw [hg]; exact (below_size (by repeat (first | (with_reducible first | exact HB.out | apply below_alloc | apply pw_below_drewN | apply below_drew1 | refine below_set ?_ GE231.out | refine below_set ?_ GE232.out | refine below_set ?_ GE233.out) | exact HB.out))) : w.heap.size ≤ gb238)); have n9_ := Aside0.mk ((by rw [hg]; exact Nat.ne_of_lt (blk_lt (g := gb231) (o := .cells #[.int .i64 a0_0, .int .i64 a0_1, .slice A0_2 l0_2.length c0_2, .slice (some ad237) l0_3.length c0_3] 25 (0, 0)) (by (with_reducible repeat (first | refine blk_drewN ?_ _ | refine blk_drew ?_ | refine blk_alloc ?_ _)); exact BK231.out)) : gb231 ≠ gb238)); have n10_ := Aside0.mk ((by rw [hg]; exact Nat.ne_of_gt (blk_lt (g := gb231) (o := .cells #[.int .i64 a0_0, .int .i64 a0_1, .slice A0_2 l0_2.length c0_2, .slice (some ad237) l0_3.length c0_3] 25 (0, 0)) (by (with_reducible repeat (first | refine blk_drewN ?_ _ | refine blk_drew ?_ | refine blk_alloc ?_ _)); exact BK231.out)) : gb238 ≠ gb231)); have n11_ := Aside0.mk ((by rw [hg]; exact Nat.ne_of_lt (blk_lt (g := gb232) (o := .cells #[.int .i64 0, .int .i64 0, .slice none 0 0, .slice none 0 0] 25 (0, 0)) (by (with_reducible repeat (first | refine blk_drewN ?_ _ | refine blk_drew ?_ | refine blk_alloc ?_ _)); exact BK232.out)) : gb232 ≠ gb238)); have n12_ := Aside0.mk ((by rw [hg]; exact Nat.ne_of_gt (blk_lt (g := gb232) (o := .cells #[.int .i64 0, .int .i64 0, .slice none 0 0, .slice none 0 0] 25 (0, 0)) (by (with_reducible repeat (first | refine blk_drewN ?_ _ | refine blk_drew ?_ | refine blk_alloc ?_ _)); exact BK232.out)) : gb238 ≠ gb232)); have n13_ := Aside0.mk ((by rw [hg]; exact Nat.ne_of_lt (blk_lt (g := gb233) (o := .cells #[.int .i64 a0_0, .int .i64 a0_1, .slice Ao12 l0_2.length co12, u234003] 25 (0, 0)) (by (with_reducible repeat (first | refine blk_drewN ?_ _ | refine blk_drew ?_ | refine blk_alloc ?_ _)); exact BK233.out)) : gb233 ≠ gb238)); have n14_ := Aside0.mk ((by rw [hg]; exact Nat.ne_of_gt (blk_lt (g := gb233) (o := .cells #[.int .i64 a0_0, .int .i64 a0_1, .slice Ao12 l0_2.length co12, u234003] 25 (0, 0)) (by (with_reducible repeat (first | refine blk_drewN ?_ _ | refine blk_drew ?_ | refine blk_alloc ?_ _)); exact BK233.out)) : gb238 ≠ gb233)); clear HO_234002; clear HO_234003; clear BK231; clear BK232; clear BK233; clear HB; have HO_234002 := n0_; have HO_234003 := n1_; have BK231 := n2_; have BK232 := n3_; have BK233 := n4_; have HB := n5_; have BK238 := n6_; have GW238 := n7_; have GE238 := n8_; have NB231_238 := n9_; have NB238_231 := n10_; have NB232_238 := n11_; have NB238_232 := n12_; have NB233_238 := n13_; have NB238_233 := n14_; clear n0_ n1_ n2_ n3_ n4_ n5_ n6_ n7_ n8_ n9_ n10_ n11_ n12_ n13_ n14_; clear hb hbox hg; have hnb21 := NB238_231.out; have hnc21 := NB231_238.out; have hnb22 := NB238_232.out; have hnc22 := NB232_238.out; have hnb23 := NB238_233.out; have hnc23 := NB233_238.out; have hcz24_0 : w20.cell? ⟨gb238, 0, none⟩ = some (.int .i64 0) := (blk_cell BK238.out 0).trans rfl; have hcz24_1 : w20.cell? ⟨gb238, 1, none⟩ = some (.int .i64 0) := (blk_cell BK238.out 1).trans rfl; have hcz24_2 : w20.cell? ⟨gb238, 2, none⟩ = some (.slice none 0 0) := (blk_cell BK238.out 2).trans rfl; have hcz24_3 : w20.cell? ⟨gb238, 3, none⟩ = some (.slice none 0 0) := (blk_cell BK238.out 3).trans rfl; have hfz24_0 := blk_frozen BK238.out 0; have hfz24_1 := blk_frozen BK238.out 1; have hfz24_2 := blk_frozen BK238.out 2; have hfz24_3 := blk_frozen BK238.out 3))
                have n0_ : Aside0 (Kd.R Kd.string 9 ((((w20.setCell ⟨gb238, 0, none⟩ (.int .i64 ((rd_T25 l0_3 x17_1).f0))).setCell ⟨gb238, 1, none⟩ (.int .i64 ((rd_T25 l0_3 x17_1).f1))).setCell ⟨gb238, 2, none⟩ (.slice A237_2 ((rd_T25 l0_3 x17_1).f2).length c237_2)).setCell ⟨gb238, 3, none⟩ (.slice A237_3 ((rd_T25 l0_3 x17_1).f3).length c237_3)) w.heap.size (fun _ => True) (.slice Ao12 l0_2.length co12) l0_2) := ⟨by (with_reducible repeat (first | apply Kd.R_alloc | apply Kd.R_drewN | apply Kd.R_drew)); exact Kd.R_mono (Kd.R_far (p := ⟨gb238, 3, none⟩) (Kd.R_far (p := ⟨gb238, 2, none⟩) (Kd.R_far (p := ⟨gb238, 1, none⟩) (Kd.R_far (p := ⟨gb238, 0, none⟩) (Kd.R_types HO_234002.out BK238.out (by decide)) (fun _ hk => hk.2) (.int .i64 ((rd_T25 l0_3 x17_1).f0))) (fun _ hk => hk.2) (.int .i64 ((rd_T25 l0_3 x17_1).f1))) (fun _ hk => hk.2) (.slice A237_2 ((rd_T25 l0_3 x17_1).f2).length c237_2)) (fun _ hk => hk.2) (.slice A237_3 ((rd_T25 l0_3 x17_1).f3).length c237_3)) (fun _ hk => trivial)⟩
                have n1_ : Aside0 (Kd.R k25 25 ((((w20.setCell ⟨gb238, 0, none⟩ (.int .i64 ((rd_T25 l0_3 x17_1).f0))).setCell ⟨gb238, 1, none⟩ (.int .i64 ((rd_T25 l0_3 x17_1).f1))).setCell ⟨gb238, 2, none⟩ (.slice A237_2 ((rd_T25 l0_3 x17_1).f2).length c237_2)).setCell ⟨gb238, 3, none⟩ (.slice A237_3 ((rd_T25 l0_3 x17_1).f3).length c237_3)) w.heap.size (fun k_ => some k_ ≠ (.slice Ao12 l0_2.length co12 : Value).ownBlock ∧ k_ ≠ gb231 ∧ k_ ≠ gb232 ∧ k_ ≠ gb233 ∧ k_ ≠ gb238) u234003 x234003_1) := ⟨by (with_reducible repeat (first | apply Kd.R_alloc | apply Kd.R_drewN | apply Kd.R_drew)); exact Kd.R_mono (Kd.R_far (p := ⟨gb238, 3, none⟩) (Kd.R_far (p := ⟨gb238, 2, none⟩) (Kd.R_far (p := ⟨gb238, 1, none⟩) (Kd.R_far (p := ⟨gb238, 0, none⟩) (Kd.R_mono HO_234003.out (fun k_ hk => (⟨hk, hk.2⟩ : _ ∧ k_ ≠ gb238))) (fun _ hk => hk.2) (.int .i64 ((rd_T25 l0_3 x17_1).f0))) (fun _ hk => hk.2) (.int .i64 ((rd_T25 l0_3 x17_1).f1))) (fun _ hk => hk.2) (.slice A237_2 ((rd_T25 l0_3 x17_1).f2).length c237_2)) (fun _ hk => hk.2) (.slice A237_3 ((rd_T25 l0_3 x17_1).f3).length c237_3)) (fun _ hk => ⟨hk.1.1.1, ⟨hk.1.1.2.1, ⟨hk.1.1.2.2.1, ⟨hk.1.1.2.2.2, hk.1.2⟩⟩⟩⟩)⟩
                have n2_ : Aside0 (((((w20.setCell ⟨gb238, 0, none⟩ (.int .i64 ((rd_T25 l0_3 x17_1).f0))).setCell ⟨gb238, 1, none⟩ (.int .i64 ((rd_T25 l0_3 x17_1).f1))).setCell ⟨gb238, 2, none⟩ (.slice A237_2 ((rd_T25 l0_3 x17_1).f2).length c237_2)).setCell ⟨gb238, 3, none⟩ (.slice A237_3 ((rd_T25 l0_3 x17_1).f3).length c237_3)).heap[gb231]? = some (.cells #[.int .i64 a0_0, .int .i64 a0_1, .slice A0_2 l0_2.length c0_2, .slice (some ad237) l0_3.length c0_3] 25 (0, 0))) := ⟨by (with_reducible repeat (first | refine blk_drewN ?_ _ | refine blk_drew ?_ | refine blk_alloc ?_ _)); refine blk_far ?_ NB231_238.out _; (with_reducible repeat (first | refine blk_drewN ?_ _ | refine blk_drew ?_ | refine blk_alloc ?_ _)); refine blk_far ?_ NB231_238.out _; (with_reducible repeat (first | refine blk_drewN ?_ _ | refine blk_drew ?_ | refine blk_alloc ?_ _)); refine blk_far ?_ NB231_238.out _; (with_reducible repeat (first | refine blk_drewN ?_ _ | refine blk_drew ?_ | refine blk_alloc ?_ _)); refine blk_far ?_ NB231_238.out _; (with_reducible repeat (first | refine blk_drewN ?_ _ | refine blk_drew ?_ | refine blk_alloc ?_ _)); exact BK231.out⟩
                have n3_ : Aside0 (((((w20.setCell ⟨gb238, 0, none⟩ (.int .i64 ((rd_T25 l0_3 x17_1).f0))).setCell ⟨gb238, 1, none⟩ (.int .i64 ((rd_T25 l0_3 x17_1).f1))).setCell ⟨gb238, 2, none⟩ (.slice A237_2 ((rd_T25 l0_3 x17_1).f2).length c237_2)).setCell ⟨gb238, 3, none⟩ (.slice A237_3 ((rd_T25 l0_3 x17_1).f3).length c237_3)).heap[gb232]? = some (.cells #[.int .i64 0, .int .i64 0, .slice none 0 0, .slice none 0 0] 25 (0, 0))) := ⟨by (with_reducible repeat (first | refine blk_drewN ?_ _ | refine blk_drew ?_ | refine blk_alloc ?_ _)); refine blk_far ?_ NB232_238.out _; (with_reducible repeat (first | refine blk_drewN ?_ _ | refine blk_drew ?_ | refine blk_alloc ?_ _)); refine blk_far ?_ NB232_238.out _; (with_reducible repeat (first | refine blk_drewN ?_ _ | refine blk_drew ?_ | refine blk_alloc ?_ _)); refine blk_far ?_ NB232_238.out _; (with_reducible repeat (first | refine blk_drewN ?_ _ | refine blk_drew ?_ | refine blk_alloc ?_ _)); refine blk_far ?_ NB232_238.out _; (with_reducible repeat (first | refine blk_drewN ?_ _ | refine blk_drew ?_ | refine blk_alloc ?_ _)); exact BK232.out⟩
                have n4_ : Aside0 (((((w20.setCell ⟨gb238, 0, none⟩ (.int .i64 ((rd_T25 l0_3 x17_1).f0))).setCell ⟨gb238, 1, none⟩ (.int .i64 ((rd_T25 l0_3 x17_1).f1))).setCell ⟨gb238, 2, none⟩ (.slice A237_2 ((rd_T25 l0_3 x17_1).f2).length c237_2)).setCell ⟨gb238, 3, none⟩ (.slice A237_3 ((rd_T25 l0_3 x17_1).f3).length c237_3)).heap[gb233]? = some (.cells #[.int .i64 a0_0, .int .i64 a0_1, .slice Ao12 l0_2.length co12, u234003] 25 (0, 0))) := ⟨by (with_reducible repeat (first | refine blk_drewN ?_ _ | refine blk_drew ?_ | refine blk_alloc ?_ _)); refine blk_far ?_ NB233_238.out _; (with_reducible repeat (first | refine blk_drewN ?_ _ | refine blk_drew ?_ | refine blk_alloc ?_ _)); refine blk_far ?_ NB233_238.out _; (with_reducible repeat (first | refine blk_drewN ?_ _ | refine blk_drew ?_ | refine blk_alloc ?_ _)); refine blk_far ?_ NB233_238.out _; (with_reducible repeat (first | refine blk_drewN ?_ _ | refine blk_drew ?_ | refine blk_alloc ?_ _)); refine blk_far ?_ NB233_238.out _; (with_reducible repeat (first | refine blk_drewN ?_ _ | refine blk_drew ?_ | refine blk_alloc ?_ _)); exact BK233.out⟩
                have n5_ : Aside0 (((((w20.setCell ⟨gb238, 0, none⟩ (.int .i64 ((rd_T25 l0_3 x17_1).f0))).setCell ⟨gb238, 1, none⟩ (.int .i64 ((rd_T25 l0_3 x17_1).f1))).setCell ⟨gb238, 2, none⟩ (.slice A237_2 ((rd_T25 l0_3 x17_1).f2).length c237_2)).setCell ⟨gb238, 3, none⟩ (.slice A237_3 ((rd_T25 l0_3 x17_1).f3).length c237_3)).heap[gb238]? = some (.cells #[.int .i64 ((rd_T25 l0_3 x17_1).f0), .int .i64 ((rd_T25 l0_3 x17_1).f1), .slice A237_2 ((rd_T25 l0_3 x17_1).f2).length c237_2, .slice A237_3 ((rd_T25 l0_3 x17_1).f3).length c237_3] 25 (0, 0))) := ⟨by (with_reducible repeat (first | refine blk_drewN ?_ _ | refine blk_drew ?_ | refine blk_alloc ?_ _)); refine blk_put (cs := #[.int .i64 ((rd_T25 l0_3 x17_1).f0), .int .i64 ((rd_T25 l0_3 x17_1).f1), .slice A237_2 ((rd_T25 l0_3 x17_1).f2).length c237_2, .slice none 0 0]) ?_ 3 _ rfl; (with_reducible repeat (first | refine blk_drewN ?_ _ | refine blk_drew ?_ | refine blk_alloc ?_ _)); refine blk_put (cs := #[.int .i64 ((rd_T25 l0_3 x17_1).f0), .int .i64 ((rd_T25 l0_3 x17_1).f1), .slice none 0 0, .slice none 0 0]) ?_ 2 _ rfl; (with_reducible repeat (first | refine blk_drewN ?_ _ | refine blk_drew ?_ | refine blk_alloc ?_ _)); refine blk_put (cs := #[.int .i64 ((rd_T25 l0_3 x17_1).f0), .int .i64 0, .slice none 0 0, .slice none 0 0]) ?_ 1 _ rfl; (with_reducible repeat (first | refine blk_drewN ?_ _ | refine blk_drew ?_ | refine blk_alloc ?_ _)); refine blk_put (cs := #[.int .i64 0, .int .i64 0, .slice none 0 0, .slice none 0 0]) ?_ 0 _ rfl; (with_reducible repeat (first | refine blk_drewN ?_ _ | refine blk_drew ?_ | refine blk_alloc ?_ _)); exact BK238.out⟩
                have n6_ : Aside0 (Below w.heap.size w ((((w20.setCell ⟨gb238, 0, none⟩ (.int .i64 ((rd_T25 l0_3 x17_1).f0))).setCell ⟨gb238, 1, none⟩ (.int .i64 ((rd_T25 l0_3 x17_1).f1))).setCell ⟨gb238, 2, none⟩ (.slice A237_2 ((rd_T25 l0_3 x17_1).f2).length c237_2)).setCell ⟨gb238, 3, none⟩ (.slice A237_3 ((rd_T25 l0_3 x17_1).f3).length c237_3))) := ⟨by repeat (first | (with_reducible first | exact HB.out | apply below_alloc | apply pw_below_drewN | apply below_drew1 | refine below_set ?_ GE231.out | refine below_set ?_ GE232.out | refine below_set ?_ GE233.out | refine below_set ?_ GE238.out) | exact HB.out)⟩
                (try clear HO_234002)
                (try clear HO_234003)
                (try clear BK231)
                (try clear BK232)
                (try clear BK233)
                (try clear BK238)
                (try clear HB)
                generalize ((((w20.setCell ⟨gb238, 0, none⟩ (.int .i64 ((rd_T25 l0_3 x17_1).f0))).setCell ⟨gb238, 1, none⟩ (.int .i64 ((rd_T25 l0_3 x17_1).f1))).setCell ⟨gb238, 2, none⟩ (.slice A237_2 ((rd_T25 l0_3 x17_1).f2).length c237_2)).setCell ⟨gb238, 3, none⟩ (.slice A237_3 ((rd_T25 l0_3 x17_1).f3).length c237_3)) = w25 at n0_ n1_ n2_ n3_ n4_ n5_ n6_ ⊢
                have HO_234002 := n0_
                have HO_234003 := n1_
                have BK231 := n2_
                have BK232 := n3_
                have BK233 := n4_
                have BK238 := n5_
                have HB := n6_
                clear n0_ n1_ n2_ n3_ n4_ n5_ n6_
                have n0_ := Aside0.mk (Kd.R_drew HO_234002.out)
                have n1_ := Aside0.mk (Kd.R_drew HO_234003.out)
                have n2_ := Aside0.mk (blk_drew BK231.out)
                have n3_ := Aside0.mk (blk_drew BK232.out)
                have n4_ := Aside0.mk (blk_drew BK233.out)
                have n5_ := Aside0.mk (blk_drew BK238.out)
                have n6_ := Aside0.mk (below_drew1 HB.out)
                clear HO_234002
                clear HO_234003
                clear BK231
                clear BK232
                clear BK233
                clear BK238
                clear HB
                have HO_234002 := n0_
                have HO_234003 := n1_
                have BK231 := n2_
                have BK232 := n3_
                have BK233 := n4_
                have BK238 := n5_
                have HB := n6_
                clear n0_ n1_ n2_ n3_ n4_ n5_ n6_
                refine start_ (n := 8) (S := fun w' => w'.cell? ⟨gb233, 0, none⟩ = some (.int .i64 a0_0) ∧ w'.cell? ⟨gb233, 1, none⟩ = some (.int .i64 a0_1) ∧ w'.cell? ⟨gb233, 2, none⟩ = some (.slice Ao12 l0_2.length co12) ∧ w'.cell? ⟨gb233, 3, none⟩ = some (u234003) ∧ w'.cell? ⟨gb238, 0, none⟩ = some (.int .i64 ((rd_T25 l0_3 x17_1).f0)) ∧ w'.cell? ⟨gb238, 1, none⟩ = some (.int .i64 ((rd_T25 l0_3 x17_1).f1)) ∧ w'.cell? ⟨gb238, 2, none⟩ = some (.slice A237_2 ((rd_T25 l0_3 x17_1).f2).length c237_2) ∧ w'.cell? ⟨gb238, 3, none⟩ = some (.slice A237_3 ((rd_T25 l0_3 x17_1).f3).length c237_3)) (ds := [7]) #[false, false, false, false, false, false, false, false] (by kernel_rfl) rfl rfl ⟨(blk_cell BK233.out 0).trans rfl, (blk_cell BK233.out 1).trans rfl, (blk_cell BK233.out 2).trans rfl, (blk_cell BK233.out 3).trans rfl, (blk_cell BK238.out 0).trans rfl, (blk_cell BK238.out 1).trans rfl, (blk_cell BK238.out 2).trans rfl, (blk_cell BK238.out 3).trans rfl⟩ (fun hHeld => ?_); refine with_tabW types_copied.tab5 types_copied.bits5 (fun HT_ HW_ => ?_)
                generalize w25.drew = w26 at HO_234002 HO_234003 BK231 BK232 BK233 BK238 HB hHeld ⊢
                refine pure_ (i := 0) (N := some 21) (v := ?_) (a' := ?_) #[true, false, false, false, false, false, false, false] rfl rfl (any_of HT_.out (by kernel_rfl)) (fun _ _ _ h => h) (Or.inl ⟨by rfl, ?_⟩) ?_ ?_
                rotate_left
                · intro w'
                  go_simp
                  with_reducible rfl
                rotate_left
                · simp only [Act.put, List.setIfInBounds_toArray, List.set_cons_zero, List.set_cons_succ, i64_w, i32_w]
                  rfl
                refine take_ (i := 1) (N := some 22) (v := ?_) (a' := ?_) #[true, true, false, false, false, false, false, false] rfl rfl (take_ofW HT_.out HW_.out (by kernel_rfl)) (fun _ _ _ h => h) (Or.inl ⟨by rfl, ?_⟩) hHeld ?_ ?_
                rotate_left
                · rintro w' ⟨s0, s1, s2, s3, s4, s5, s6, s7⟩
                  go_simp
                  with_reducible rfl
                rotate_left
                · simp only [Act.put, List.setIfInBounds_toArray, List.set_cons_zero, List.set_cons_succ, i64_w, i32_w]
                  rfl
                refine take_ (i := 2) (N := some 23) (v := ?_) (a' := ?_) #[true, true, true, false, false, false, false, false] rfl rfl (take_ofW HT_.out HW_.out (by kernel_rfl)) (fun _ _ _ h => h) (Or.inl ⟨by rfl, ?_⟩) hHeld ?_ ?_
                rotate_left
                · rintro w' ⟨s0, s1, s2, s3, s4, s5, s6, s7⟩
                  go_simp
                  with_reducible rfl
                rotate_left
                · simp only [Act.put, List.setIfInBounds_toArray, List.set_cons_zero, List.set_cons_succ, i64_w, i32_w]
                  rfl
                refine one_ (i := 3) (N := some 24) #[true, true, true, true, false, false, false, false] rfl rfl (one_of HT_.out (by kernel_rfl)) (by decide) (fun K hK => ?_)
                refine goes_ Tryd.func45 (by kernel_rfl) rfl #[.agg #[.int .i64 ((rd_T25 l0_3 x17_1).f0), .int .i64 ((rd_T25 l0_3 x17_1).f1), .slice A237_2 ((rd_T25 l0_3 x17_1).f2).length c237_2, .slice A237_3 ((rd_T25 l0_3 x17_1).f3).length c237_3]] (by rfl) rfl rfl (by (try simp only [List.map_toArray, List.map_cons, List.map_nil]); first | done | rfl | (simp only [List.length_drop, List.length_take]; rfl)) ?_
                with_reducible refine (ih k1 (by have := HK1.out; omega) ((rd_T25 l0_3 x17_1).f0) ((rd_T25 l0_3 x17_1).f1) _ _ ((rd_T25 l0_3 x17_1).f2) _ _ ((rd_T25 l0_3 x17_1).f3) t239 t240 t241 t244 _ ?side1 ?side2 ?side3 ?side4 A18.out).mono ?_
                (case side1 => repeat (first | exact (Kd.C_below HR237_2.out HB.out) | (with_reducible refine Kd.C_alloc ?_ _) | (with_reducible refine Kd.C_drewN ?_ _) | (with_reducible refine Kd.C_drew ?_)))
                (case side2 => exact HC237_2.out)
                (case side3 => repeat (first | exact (Kd.C_below HR237_3.out HB.out) | (with_reducible refine Kd.C_alloc ?_ _) | (with_reducible refine Kd.C_drewN ?_ _) | (with_reducible refine Kd.C_drew ?_)))
                (case side4 => exact HC237_3.out)
                rintro e w27 ⟨v242, v245, rfl, ho0, ho1, hb⟩
                refine ⟨_, rfl, ?_⟩
                have n0_ := Aside0.mk (Kd.R_elder' (by (with_reducible repeat (first | apply Kd.R_alloc | apply Kd.R_drewN | apply Kd.R_drew)); exact HO_234002.out) (Kd.R_base ho0) hb)
                have n1_ := Aside0.mk (Kd.R_mono (Kd.R_told (Kd.R_told (Kd.R_old (by (with_reducible repeat (first | apply Kd.R_alloc | apply Kd.R_drewN | apply Kd.R_drew)); exact HO_234003.out) hb) (Kd.R_base ho0)) (Kd.R_base ho1)) (fun _ h_ => h_.1))
                have n2_ := Aside0.mk (Kd.R_lower (Kd.R_new' ho0 (Kd.R_lt (by (with_reducible repeat (first | apply Kd.R_alloc | apply Kd.R_drewN | apply Kd.R_drew)); exact HO_234002.out))) (below_size (by repeat (first | (with_reducible first | exact HB.out | apply below_alloc | apply pw_below_drewN | apply below_drew1 | refine below_set ?_ GE231.out | refine below_set ?_ GE232.out | refine below_set ?_ GE233.out | refine below_set ?_ GE238.out) | exact HB.out))))
                have n3_ := Aside0.mk (Kd.R_lower (Kd.R_newB (Kd.R_newB (Kd.R_newB (Kd.R_newB (Kd.R_new' (Kd.R_new' ho1 (Kd.R_lt (by (with_reducible repeat (first | apply Kd.R_alloc | apply Kd.R_drewN | apply Kd.R_drew)); exact HO_234002.out))) (Kd.R_lt (by (with_reducible repeat (first | apply Kd.R_alloc | apply Kd.R_drewN | apply Kd.R_drew)); exact HO_234003.out))) (g := gb231) (o := .cells #[.int .i64 a0_0, .int .i64 a0_1, .slice A0_2 l0_2.length c0_2, .slice (some ad237) l0_3.length c0_3] 25 (0, 0)) (by (with_reducible repeat (first | refine blk_drewN ?_ _ | refine blk_drew ?_ | refine blk_alloc ?_ _)); exact BK231.out)) (g := gb232) (o := .cells #[.int .i64 0, .int .i64 0, .slice none 0 0, .slice none 0 0] 25 (0, 0)) (by (with_reducible repeat (first | refine blk_drewN ?_ _ | refine blk_drew ?_ | refine blk_alloc ?_ _)); exact BK232.out)) (g := gb233) (o := .cells #[.int .i64 a0_0, .int .i64 a0_1, .slice Ao12 l0_2.length co12, u234003] 25 (0, 0)) (by (with_reducible repeat (first | refine blk_drewN ?_ _ | refine blk_drew ?_ | refine blk_alloc ?_ _)); exact BK233.out)) (g := gb238) (o := .cells #[.int .i64 ((rd_T25 l0_3 x17_1).f0), .int .i64 ((rd_T25 l0_3 x17_1).f1), .slice A237_2 ((rd_T25 l0_3 x17_1).f2).length c237_2, .slice A237_3 ((rd_T25 l0_3 x17_1).f3).length c237_3] 25 (0, 0)) (by (with_reducible repeat (first | refine blk_drewN ?_ _ | refine blk_drew ?_ | refine blk_alloc ?_ _)); exact BK238.out)) (below_size (by repeat (first | (with_reducible first | exact HB.out | apply below_alloc | apply pw_below_drewN | apply below_drew1 | refine below_set ?_ GE231.out | refine below_set ?_ GE232.out | refine below_set ?_ GE233.out | refine below_set ?_ GE238.out) | exact HB.out))))
                have n4_ := Aside0.mk (blk_below (g := gb231) (o := .cells #[.int .i64 a0_0, .int .i64 a0_1, .slice A0_2 l0_2.length c0_2, .slice (some ad237) l0_3.length c0_3] 25 (0, 0)) (by (with_reducible repeat (first | refine blk_drewN ?_ _ | refine blk_drew ?_ | refine blk_alloc ?_ _)); exact BK231.out) hb)
                have n5_ := Aside0.mk (blk_below (g := gb232) (o := .cells #[.int .i64 0, .int .i64 0, .slice none 0 0, .slice none 0 0] 25 (0, 0)) (by (with_reducible repeat (first | refine blk_drewN ?_ _ | refine blk_drew ?_ | refine blk_alloc ?_ _)); exact BK232.out) hb)
                have n6_ := Aside0.mk (blk_below (g := gb233) (o := .cells #[.int .i64 a0_0, .int .i64 a0_1, .slice Ao12 l0_2.length co12, u234003] 25 (0, 0)) (by (with_reducible repeat (first | refine blk_drewN ?_ _ | refine blk_drew ?_ | refine blk_alloc ?_ _)); exact BK233.out) hb)
                have n7_ := Aside0.mk (blk_below (g := gb238) (o := .cells #[.int .i64 ((rd_T25 l0_3 x17_1).f0), .int .i64 ((rd_T25 l0_3 x17_1).f1), .slice A237_2 ((rd_T25 l0_3 x17_1).f2).length c237_2, .slice A237_3 ((rd_T25 l0_3 x17_1).f3).length c237_3] 25 (0, 0)) (by (with_reducible repeat (first | refine blk_drewN ?_ _ | refine blk_drew ?_ | refine blk_alloc ?_ _)); exact BK238.out) hb)
                have n8_ := Aside0.mk (below_step (by repeat (first | (with_reducible first | exact HB.out | apply below_alloc | apply pw_below_drewN | apply below_drew1 | refine below_set ?_ GE231.out | refine below_set ?_ GE232.out | refine below_set ?_ GE233.out | refine below_set ?_ GE238.out) | exact HB.out)) hb)
                clear HO_234002
                clear HO_234003
                clear BK231
                clear BK232
                clear BK233
                clear BK238
                clear HB
                have HO_234002 := n0_
                have HO_234003 := n1_
                have HO243 := n2_
                have HO246 := n3_
                have BK231 := n4_
                have BK232 := n5_
                have BK233 := n6_
                have BK238 := n7_
                have HB := n8_
                clear n0_ n1_ n2_ n3_ n4_ n5_ n6_ n7_ n8_
                (try clear hb)
                (try clear hb2)
                (try clear hk)
                (try clear hi)
                (try clear ho0)
                (try clear ho1)
                obtain ⟨Ao29, co29, eo29⟩ := Kd.R_slice HO243.out
                (first | subst eo29 | (injection eo29 with f1_ f2_ f3_; have f4_ := f1_.symm; have f5_ := f3_.symm; clear f1_ f2_ f3_; subst f4_; subst f5_))
                obtain ⟨Ao30, co30, eo30⟩ := Kd.R_slice HO246.out
                (first | subst eo30 | (injection eo30 with f1_ f2_ f3_; have f4_ := f1_.symm; have f5_ := f3_.symm; clear f1_ f2_ f3_; subst f4_; subst f5_))
                refine hK.out _ _ ⟨(blk_cell BK233.out 0).trans rfl, (blk_cell BK233.out 1).trans rfl, (blk_cell BK233.out 2).trans rfl, (blk_cell BK233.out 3).trans rfl, (blk_cell BK238.out 0).trans rfl, (blk_cell BK238.out 1).trans rfl, (blk_cell BK238.out 2).trans rfl, (blk_cell BK238.out 3).trans rfl⟩ (fun hHeld => ?_)
                clear hK K
                refine norm_ (a' := ?_) ?_ ?_
                rotate_left
                · show Act.put _ (some 24) _ = _
                  simp only [Act.put, List.setIfInBounds_toArray, List.set_cons_zero, List.set_cons_succ, i64_w, i32_w]
                  rfl
                refine one_ (i := 4) (N := some 25) #[true, true, true, true, true, false, false, false] rfl rfl (one_of HT_.out (by kernel_rfl)) (by decide) (fun K hK => ?_)
                refine value_ (w1 := ?_) (v := ?_) (by rfl) rfl ?_ ?_
                rotate_left 2
                · go_simp
                  constructor
                  · rfl
                  · rfl
                refine hK.out _ _ ⟨(blk_cell (blk_alloc BK233.out _) 0).trans rfl, (blk_cell (blk_alloc BK233.out _) 1).trans rfl, (blk_cell (blk_alloc BK233.out _) 2).trans rfl, (blk_cell (blk_alloc BK233.out _) 3).trans rfl, (blk_cell (blk_alloc BK238.out _) 0).trans rfl, (blk_cell (blk_alloc BK238.out _) 1).trans rfl, (blk_cell (blk_alloc BK238.out _) 2).trans rfl, (blk_cell (blk_alloc BK238.out _) 3).trans rfl⟩ (fun hHeld => ?_)
                clear hK K
                refine norm_ (a' := ?_) ?_ ?_
                rotate_left
                · show Act.put _ (some 25) _ = _
                  simp only [Act.put, List.setIfInBounds_toArray, List.set_cons_zero, List.set_cons_succ, i64_w, i32_w]
                  rfl
                refine one_ (i := 5) (N := some 26) #[true, true, true, true, true, true, false, false] rfl rfl (one_of HT_.out (by kernel_rfl)) (by decide) (fun K hK => ?_)
                refine Kd.R_append_step k25 (w0 := w) w.heap.size (by rfl) (.tmp 22) (.tmp 25) 23 25 (.agg #[(.int .i64 0), (.int .i64 0), (.slice none 0 0), (.slice none 0 0)]) 64 rfl Tryd.underlying23 info25 rfl (by decide) (by omega) u234003 x234003_1 (⟨t239, t240, t241, t244⟩ : S25) [.int .i64 t239, .int .i64 t240, .slice Ao29 t241.length co29, .slice Ao30 t244.length co30] (fun k_ => some k_ ≠ (.slice Ao12 l0_2.length co12 : Value).ownBlock ∧ k_ ≠ gb231 ∧ k_ ≠ gb232 ∧ k_ ≠ gb233 ∧ k_ ≠ gb238) (fun k_ => ((fun k_ => some k_ ≠ (.slice Ao12 l0_2.length co12 : Value).ownBlock ∧ k_ ≠ gb231 ∧ k_ ≠ gb232 ∧ k_ ≠ gb233 ∧ k_ ≠ gb238)) k_ ∧ some k_ ≠ (u234003 : Value).ownBlock) rfl rfl ?aP (fun _ hk => hk) ?aF ?aO ?aB ?aS ?aL ?_
                (case aP => exact k25_mkM _ _ _ (⟨t239, t240, t241, t244⟩ : S25) (Kd.R_mono (Kd.R_types (Kd.R_types (Kd.R_types (Kd.R_types (Kd.R_apart' (HO243.out) (Kd.R_typed HO_234003.out) (by decide)) BK231.out (by decide)) BK232.out (by decide)) BK233.out (by decide)) BK238.out (by decide)) (fun k_ hk => ⟨⟨hk.1.1.1.1.1.2, ⟨hk.1.1.1.2, ⟨hk.1.1.2, ⟨hk.1.2, hk.2⟩⟩⟩⟩, hk.1.1.1.1.2⟩)) (Kd.R_mono (HO246.out) (fun k_ hk => ⟨⟨hk.1.1.1.1.1.2, ⟨hk.1.1.1.2, ⟨hk.1.1.2, ⟨hk.1.2, hk.2⟩⟩⟩⟩, hk.1.1.1.1.2⟩)))
                (case aB => exact (by repeat (first | (with_reducible first | exact HB.out | apply below_alloc | apply pw_below_drewN | apply below_drew1 | refine below_set ?_ GE231.out | refine below_set ?_ GE232.out | refine below_set ?_ GE233.out | refine below_set ?_ GE238.out) | exact HB.out)))
                (case aF => exact (fun k_ hk => ⟨Kd.fresh' (Kd.R_lt (by (with_reducible repeat (first | apply Kd.R_alloc | apply Kd.R_drewN | apply Kd.R_drew)); exact HO_234002.out)) k_ hk, Kd.freshB (g := gb231) (o := .cells #[.int .i64 a0_0, .int .i64 a0_1, .slice A0_2 l0_2.length c0_2, .slice (some ad237) l0_3.length c0_3] 25 (0, 0)) (by (with_reducible repeat (first | refine blk_drewN ?_ _ | refine blk_drew ?_ | refine blk_alloc ?_ _)); exact BK231.out) k_ hk, Kd.freshB (g := gb232) (o := .cells #[.int .i64 0, .int .i64 0, .slice none 0 0, .slice none 0 0] 25 (0, 0)) (by (with_reducible repeat (first | refine blk_drewN ?_ _ | refine blk_drew ?_ | refine blk_alloc ?_ _)); exact BK232.out) k_ hk, Kd.freshB (g := gb233) (o := .cells #[.int .i64 a0_0, .int .i64 a0_1, .slice Ao12 l0_2.length co12, u234003] 25 (0, 0)) (by (with_reducible repeat (first | refine blk_drewN ?_ _ | refine blk_drew ?_ | refine blk_alloc ?_ _)); exact BK233.out) k_ hk, Kd.freshB (g := gb238) (o := .cells #[.int .i64 ((rd_T25 l0_3 x17_1).f0), .int .i64 ((rd_T25 l0_3 x17_1).f1), .slice A237_2 ((rd_T25 l0_3 x17_1).f2).length c237_2, .slice A237_3 ((rd_T25 l0_3 x17_1).f3).length c237_3] 25 (0, 0)) (by (with_reducible repeat (first | refine blk_drewN ?_ _ | refine blk_drew ?_ | refine blk_alloc ?_ _)); exact BK238.out) k_ hk⟩))
                (case aO => exact (by (with_reducible repeat (first | apply Kd.R_alloc | apply Kd.R_drewN | apply Kd.R_drew)); exact Kd.R_mono HO_234003.out (fun _ hk => ⟨hk.1.1.1, ⟨hk.1.1.2.1, ⟨hk.1.1.2.2.1, ⟨hk.1.1.2.2.2.1, hk.1.1.2.2.2.2⟩⟩⟩⟩)))
                (case aS => exact (below_size (by repeat (first | (with_reducible first | exact HB.out | apply below_alloc | apply pw_below_drewN | apply below_drew1 | refine below_set ?_ GE231.out | refine below_set ?_ GE232.out | refine below_set ?_ GE233.out | refine below_set ?_ GE238.out) | exact HB.out))))
                (case aL => have := LMc19.out; omega)
                intro v248 w28 ho hb hg hat
                rw [← Ny247.out] at ho
                have n0_ := Aside0.mk (Kd.R_over' (by (with_reducible repeat (first | apply Kd.R_alloc | apply Kd.R_drewN | apply Kd.R_drew)); exact HO_234002.out) (Kd.R_typed (by (with_reducible repeat (first | apply Kd.R_alloc | apply Kd.R_drewN | apply Kd.R_drew)); exact HO_234003.out)) (by decide) hg)
                have n1_ := Aside0.mk (blk_grown (g := gb231) (o := .cells #[.int .i64 a0_0, .int .i64 a0_1, .slice A0_2 l0_2.length c0_2, .slice (some ad237) l0_3.length c0_3] 25 (0, 0)) (by (with_reducible repeat (first | refine blk_drewN ?_ _ | refine blk_drew ?_ | refine blk_alloc ?_ _)); exact BK231.out) hg (Kd.R_away HO_234003.out (fun _ hk => hk.1.1.2.1)))
                have n2_ := Aside0.mk (blk_grown (g := gb232) (o := .cells #[.int .i64 0, .int .i64 0, .slice none 0 0, .slice none 0 0] 25 (0, 0)) (by (with_reducible repeat (first | refine blk_drewN ?_ _ | refine blk_drew ?_ | refine blk_alloc ?_ _)); exact BK232.out) hg (Kd.R_away HO_234003.out (fun _ hk => hk.1.1.2.2.1)))
                have n3_ := Aside0.mk (blk_grown (g := gb233) (o := .cells #[.int .i64 a0_0, .int .i64 a0_1, .slice Ao12 l0_2.length co12, u234003] 25 (0, 0)) (by (with_reducible repeat (first | refine blk_drewN ?_ _ | refine blk_drew ?_ | refine blk_alloc ?_ _)); exact BK233.out) hg (Kd.R_away HO_234003.out (fun _ hk => hk.1.1.2.2.2.1)))
                have n4_ := Aside0.mk (blk_grown (g := gb238) (o := .cells #[.int .i64 ((rd_T25 l0_3 x17_1).f0), .int .i64 ((rd_T25 l0_3 x17_1).f1), .slice A237_2 ((rd_T25 l0_3 x17_1).f2).length c237_2, .slice A237_3 ((rd_T25 l0_3 x17_1).f3).length c237_3] 25 (0, 0)) (by (with_reducible repeat (first | refine blk_drewN ?_ _ | refine blk_drew ?_ | refine blk_alloc ?_ _)); exact BK238.out) hg (Kd.R_away HO_234003.out (fun _ hk => hk.1.1.2.2.2.2)))
                have n5_ := Aside0.mk (hb)
                have n6_ := Aside0.mk (ho)
                clear HO_234002
                clear BK231
                clear BK232
                clear BK233
                clear BK238
                clear HB
                clear HO_234003
                clear HO243
                clear HO246
                have HO_234002 := n0_
                have BK231 := n1_
                have BK232 := n2_
                have BK233 := n3_
                have BK238 := n4_
                have HB := n5_
                have HO249 := n6_
                clear n0_ n1_ n2_ n3_ n4_ n5_ n6_
                clear ho hb hg hat
                obtain ⟨Ao31, co31, eo31⟩ := Kd.R_slice HO249.out
                (first | subst eo31 | (injection eo31 with f1_ f2_ f3_; have f4_ := f1_.symm; have f5_ := f3_.symm; clear f1_ f2_ f3_; subst f4_; subst f5_))
                refine hK.out _ _ ⟨(blk_cell BK233.out 0).trans rfl, (blk_cell BK233.out 1).trans rfl, (blk_cell BK233.out 2).trans rfl, (blk_cell BK233.out 3).trans rfl, (blk_cell BK238.out 0).trans rfl, (blk_cell BK238.out 1).trans rfl, (blk_cell BK238.out 2).trans rfl, (blk_cell BK238.out 3).trans rfl⟩ (fun hHeld => ?_)
                clear hK K
                refine norm_ (a' := ?_) ?_ ?_
                rotate_left
                · show Act.put _ (some 26) _ = _
                  simp only [Act.put, List.setIfInBounds_toArray, List.set_cons_zero, List.set_cons_succ, i64_w, i32_w]
                  rfl
                refine pure_ (i := 6) (N := some 27) (v := ?_) (a' := ?_) #[true, true, true, true, true, true, true, false] rfl rfl (any_of HT_.out (by kernel_rfl)) (fun _ _ _ h => h) (Or.inl ⟨by rfl, ?_⟩) ?_ ?_
                rotate_left
                · intro w'
                  go_simp
                  with_reducible rfl
                rotate_left
                · simp only [Act.put, List.setIfInBounds_toArray, List.set_cons_zero, List.set_cons_succ, i64_w, i32_w]
                  rfl
                refine last_ (i := 7) (N := none) #[true, true, true, true, true, true, true, true] rfl rfl (one_of HT_.out (by kernel_rfl)) (by decide) (fun K hK => ?_)
                have hs32 : w28.cell? ⟨gb233, 3, none⟩ = some (u234003) := (blk_cell BK233.out 3).trans rfl
                have hfs32 := blk_frozen BK233.out 3
                have hns32_0 := NB231_233.out
                have hns32_1 := NB232_233.out
                have hns32_3 := NB238_233.out
                have hms32_0 := NB233_231.out
                have hms32_1 := NB233_232.out
                have hms32_3 := NB233_238.out
                refine skip_ (w1 := ?_) (by rfl) rfl ?_ ?_
                rotate_left
                · go_simp
                  rfl
                refine hK.out _ _ ?_
                clear hK K
                refine done_ (done_of HT_.out (by kernel_rfl)) ?_
                try go_wp2
                go_roundg k1
                case measure => have := HK1.out; omega
                case rel => exact ⟨(wrap64 (x17_1 + 1)), (y247), (.slice Ao31 y247.length co31), (by first | rfl | (simp; done) | (simp [*]; done)), H', ⟨by have := HK1.out; omega⟩, ⟨by (with_reducible repeat (first | apply Kd.R_alloc | apply Kd.R_drewN | apply Kd.R_drew)); exact Kd.R_mono (Kd.R_far (p := ⟨gb233, 3, none⟩) (Kd.R_types HO_234002.out BK233.out (by decide)) (fun _ hk => hk.2) (.slice Ao31 y247.length co31)) (fun _ hk => trivial)⟩, ⟨by (with_reducible repeat (first | apply Kd.R_alloc | apply Kd.R_drewN | apply Kd.R_drew)); exact Kd.R_mono (Kd.R_far (p := ⟨gb233, 3, none⟩) (Kd.R_mono HO249.out (fun k_ hk => (⟨hk, hk.2.2.2.1⟩ : _ ∧ k_ ≠ gb233))) (fun _ hk => hk.2) (.slice Ao31 y247.length co31)) (fun _ hk => ⟨hk.1.1, ⟨hk.1.2.1, ⟨hk.1.2.2.1, hk.1.2.2.2.1⟩⟩⟩)⟩, ⟨by (with_reducible repeat (first | refine blk_drewN ?_ _ | refine blk_drew ?_ | refine blk_alloc ?_ _)); refine blk_far ?_ NB231_233.out _; (with_reducible repeat (first | refine blk_drewN ?_ _ | refine blk_drew ?_ | refine blk_alloc ?_ _)); exact BK231.out⟩, ⟨by (with_reducible repeat (first | refine blk_drewN ?_ _ | refine blk_drew ?_ | refine blk_alloc ?_ _)); refine blk_far ?_ NB232_233.out _; (with_reducible repeat (first | refine blk_drewN ?_ _ | refine blk_drew ?_ | refine blk_alloc ?_ _)); exact BK232.out⟩, ⟨by (with_reducible repeat (first | refine blk_drewN ?_ _ | refine blk_drew ?_ | refine blk_alloc ?_ _)); refine blk_put (cs := #[.int .i64 a0_0, .int .i64 a0_1, .slice Ao12 l0_2.length co12, u234003]) ?_ 3 _ rfl; (with_reducible repeat (first | refine blk_drewN ?_ _ | refine blk_drew ?_ | refine blk_alloc ?_ _)); exact BK233.out⟩, ⟨by repeat (first | (with_reducible first | exact HB.out | apply below_alloc | apply pw_below_drewN | apply below_drew1 | refine below_set ?_ GE231.out | refine below_set ?_ GE232.out | refine below_set ?_ GE233.out | refine below_set ?_ GE238.out) | exact HB.out)⟩⟩
              · rw [if_neg c19] at H
                exact absurd H (by simp)
            · rw [if_neg c17] at H
              exact absurd H (by simp)
          · rw [if_neg c16] at H
            exact absurd H (by simp)
        · rw [if_neg c15] at H
          have c15b0 : decide (x17_1 < (l0_3.length : Int)) = false := decide_eq_false c15
          clear c15
          simp only [Option.some.injEq, Prod.mk.injEq] at H
          obtain ⟨rfl, rfl, rfl, rfl⟩ := H
          have hnb33 := NB233_231.out
          have hnc33 := NB231_233.out
          have hnb34 := NB233_232.out
          have hnc34 := NB232_233.out
          have hcz35_0 : wr.cell? ⟨gb233, 0, none⟩ = some (.int .i64 a0_0) := (blk_cell BK233.out 0).trans rfl
          have hcz35_1 : wr.cell? ⟨gb233, 1, none⟩ = some (.int .i64 a0_1) := (blk_cell BK233.out 1).trans rfl
          have hcz35_2 : wr.cell? ⟨gb233, 2, none⟩ = some (.slice Ao12 l0_2.length co12) := (blk_cell BK233.out 2).trans rfl
          have hcz35_3 : wr.cell? ⟨gb233, 3, none⟩ = some (u234003) := (blk_cell BK233.out 3).trans rfl
          have hfz35_0 := blk_frozen BK233.out 0
          have hfz35_1 := blk_frozen BK233.out 1
          have hfz35_2 := blk_frozen BK233.out 2
          have hfz35_3 := blk_frozen BK233.out 3
          have hnb36 := NB232_231.out
          have hnc36 := NB231_232.out
          have hcz37_0 : wr.cell? ⟨gb232, 0, none⟩ = some (.int .i64 0) := (blk_cell BK232.out 0).trans rfl
          have hcz37_1 : wr.cell? ⟨gb232, 1, none⟩ = some (.int .i64 0) := (blk_cell BK232.out 1).trans rfl
          have hcz37_2 : wr.cell? ⟨gb232, 2, none⟩ = some (.slice none 0 0) := (blk_cell BK232.out 2).trans rfl
          have hcz37_3 : wr.cell? ⟨gb232, 3, none⟩ = some (.slice none 0 0) := (blk_cell BK232.out 3).trans rfl
          have hfz37_0 := blk_frozen BK232.out 0
          have hfz37_1 := blk_frozen BK232.out 1
          have hfz37_2 := blk_frozen BK232.out 2
          have hfz37_3 := blk_frozen BK232.out 3
          obtain ⟨Ao38, co38, eo38⟩ := Kd.R_slice HO_234003.out
          subst eo38
          go_wp2
          refine bodyPost_ret (results_cell_row rfl _ _ gb232 25 #[.int .i64 a0_0, .int .i64 a0_1, .slice Ao12 l0_2.length co12, .slice Ao38 x234003_1.length co38] (0, 0) _ rfl (by (with_reducible repeat (first | refine blk_drewN ?_ _ | refine blk_drew ?_ | refine blk_alloc ?_ _)); refine blk_put (cs := #[.int .i64 a0_0, .int .i64 a0_1, .slice Ao12 l0_2.length co12, .slice none 0 0]) ?_ 3 _ rfl; (with_reducible repeat (first | refine blk_drewN ?_ _ | refine blk_drew ?_ | refine blk_alloc ?_ _)); refine blk_put (cs := #[.int .i64 a0_0, .int .i64 a0_1, .slice none 0 0, .slice none 0 0]) ?_ 2 _ rfl; (with_reducible repeat (first | refine blk_drewN ?_ _ | refine blk_drew ?_ | refine blk_alloc ?_ _)); refine blk_put (cs := #[.int .i64 a0_0, .int .i64 0, .slice none 0 0, .slice none 0 0]) ?_ 1 _ rfl; (with_reducible repeat (first | refine blk_drewN ?_ _ | refine blk_drew ?_ | refine blk_alloc ?_ _)); refine blk_put (cs := #[.int .i64 0, .int .i64 0, .slice none 0 0, .slice none 0 0]) ?_ 0 _ rfl; (with_reducible repeat (first | refine blk_drewN ?_ _ | refine blk_drew ?_ | refine blk_alloc ?_ _)); exact BK232.out) Tryd.underlying25 rfl (by kernel_rfl)) rfl ?_
          exact ⟨_, _, by first | rfl | (simp [errW_none, errW_some] <;> rfl) | (simp [*, errW_none, errW_some] <;> rfl), by (with_reducible repeat (first | apply Kd.R_alloc | apply Kd.R_drewN | apply Kd.R_drew)); exact Kd.R_mono (Kd.R_far (p := ⟨gb232, 3, none⟩) (Kd.R_far (p := ⟨gb232, 2, none⟩) (Kd.R_far (p := ⟨gb232, 1, none⟩) (Kd.R_far (p := ⟨gb232, 0, none⟩) (Kd.R_types HO_234002.out BK232.out (by decide)) (fun _ hk => hk.2) (.int .i64 a0_0)) (fun _ hk => hk.2) (.int .i64 a0_1)) (fun _ hk => hk.2) (.slice Ao12 l0_2.length co12)) (fun _ hk => hk.2) (.slice Ao38 x234003_1.length co38)) (fun _ hk => trivial), by (with_reducible repeat (first | apply Kd.R_alloc | apply Kd.R_drewN | apply Kd.R_drew)); exact Kd.R_mono (Kd.R_far (p := ⟨gb232, 3, none⟩) (Kd.R_far (p := ⟨gb232, 2, none⟩) (Kd.R_far (p := ⟨gb232, 1, none⟩) (Kd.R_far (p := ⟨gb232, 0, none⟩) (Kd.R_mono HO_234003.out (fun k_ hk => (⟨hk, hk.2.2.1⟩ : _ ∧ k_ ≠ gb232))) (fun _ hk => hk.2) (.int .i64 a0_0)) (fun _ hk => hk.2) (.int .i64 a0_1)) (fun _ hk => hk.2) (.slice Ao12 l0_2.length co12)) (fun _ hk => hk.2) (.slice Ao38 x234003_1.length co38)) (fun _ hk => hk.1.1), by repeat (first | (with_reducible first | exact HB.out | apply below_alloc | apply pw_below_drewN | apply below_drew1 | refine below_set ?_ GE231.out | refine below_set ?_ GE232.out | refine below_set ?_ GE233.out) | exact HB.out)⟩
  · rw [if_neg c2] at H
    exact absurd H (by simp)
end Go.Proofs.YtjcajpkgamolkaaDoor.PTyp
namespace Go.Proofs.YtjcajpkgamolkaaDoor.Ty
open Go.RowKit Go.Proofs.YtjcajpkgamolkaaDoor.PTyp Go.Proofs.YtjcajpkgamolkaaDoorW.PrintWords Go.Proofs.YtjcajpkgamolkaaDoorW.PrintLast Go.Proofs.YtjcajpkgamolkaaDoorW.PrintMore
set_option linter.unusedVariables false
set_option linter.unusedSimpArgs false
theorem copied_l (l : List Ty) (x : Int) (y : Int) (ns : List ByteArray) (hw : wTs l ≤ 1099511627776) (IH : ∀ t ∈ l, Ev (fun k => types_copied.f k t.f0 t.f1 t.f2 t.f3) (t.f0, t.f1, t.f2, t.f3)) : ∀ (j i : Nat), i + j = l.length → Ev (fun k => types_copied.l0 k l (l.length : Int) (i : Int) x y ns (l.take i)) (x, y, ns, l) := by
  have hl := wTs_len l
  intro j
  induction j with
  | zero =>
    intro i hi
    rw [List.take_of_length_le (by omega)]
    exact Ev.step (f := fun _ => some _) (fun k => by rw [types_copied.l0, if_neg (by omega)]) (Ev.now _)
  | succ j ih =>
    intro i hi
    have hlt : i < l.length := by omega
    refine Ev.step (f := fun k => (types_copied.f k l[i].f0 l[i].f1 l[i].f2 l[i].f3).bind fun b => types_copied.l0 k l (l.length : Int) ((i + 1 : Nat) : Int) x y ns (l.take i ++ [⟨b.1, b.2.1, b.2.2.1, b.2.2.2⟩])) (fun k => ?_) ?_
    · rw [types_copied.l0, if_pos (by omega), if_pos (by omega), if_pos (by omega), rd_at hlt, wrap_id _ (by omega)]
      congr 1
      funext b
      rw [if_pos (by rw [List.length_take]; omega)]
      rfl
    · refine Ev.bind (f := fun k b => types_copied.l0 k l (l.length : Int) ((i + 1 : Nat) : Int) x y ns (l.take i ++ [⟨b.1, b.2.1, b.2.2.1, b.2.2.2⟩])) (IH _ (List.getElem_mem hlt)) ?_
      have e : l.take i ++ [(⟨l[i].f0, l[i].f1, l[i].f2, l[i].f3⟩ : S25)] = l.take (i + 1) := by rw [eta25, List.take_succ_eq_append_getElem hlt]
      dsimp only
      rw [e]
      exact ih (i + 1) (by omega)
theorem copied_ev (t : Ty) : wT t ≤ 1099511627776 → Ev (fun k => types_copied.f k t.f0 t.f1 t.f2 t.f3) (t.f0, t.f1, t.f2, t.f3) := by
  refine Ty.ind (p := fun t => wT t ≤ 1099511627776 → Ev (fun k => types_copied.f k t.f0 t.f1 t.f2 t.f3) (t.f0, t.f1, t.f2, t.f3)) ?_ t
  intro k n ns l ih hw
  rw [wT_mk] at hw
  have hr := copied_l l k n ([] ++ ns) (by omega) (fun t ht => ih t ht (by have := wTs_mem ht; omega)) l.length 0 (by omega)
  refine Ev.step (f := fun q => types_copied.l0 q l (l.length : Int) 0 k n ([] ++ ns) []) (fun q => ?_) hr
  show types_copied.f (q + 1) k n ns l = _
  rw [types_copied.f, if_pos (by simp; omega)]
theorem twin_l (t : Ty) (ns : List ByteArray) (hw : wTs t.f3 ≤ 1099511627776) (IH : ∀ u ∈ t.f3, Ev (fun k => gussetlaw14_Twin.f k u.f0 u.f1 u.f2 u.f3) (u.f0, u.f1, u.f2, u.f3)) : ∀ (j i : Nat), i + j = t.f3.length → Ev (fun k => gussetlaw14_Twin.l0 k (i : Int) t.f0 t.f1 t.f2 t.f3 t.f0 t.f1 ns (t.f3.take i)) (t.f0, t.f1, ns, t.f3) := by
  have hl := wTs_len t.f3
  intro j
  induction j with
  | zero =>
    intro i hi
    rw [List.take_of_length_le (by omega)]
    exact Ev.step (f := fun _ => some _) (fun k => by rw [gussetlaw14_Twin.l0, if_neg (by omega)]) (Ev.now _)
  | succ j ih =>
    intro i hi
    have hlt : i < t.f3.length := by omega
    refine Ev.step (f := fun k => (gussetlaw14_Twin.f k t.f3[i].f0 t.f3[i].f1 t.f3[i].f2 t.f3[i].f3).bind fun b => gussetlaw14_Twin.l0 k ((i + 1 : Nat) : Int) t.f0 t.f1 t.f2 t.f3 t.f0 t.f1 ns (t.f3.take i ++ [⟨b.1, b.2.1, b.2.2.1, b.2.2.2⟩])) (fun k => ?_) ?_
    · rw [gussetlaw14_Twin.l0, if_pos (by omega), if_pos (by omega), rd_at hlt, wrap_id _ (by omega)]
      congr 1
      funext b
      rw [if_pos (by rw [List.length_take]; omega)]
      rfl
    · refine Ev.bind (f := fun k b => gussetlaw14_Twin.l0 k ((i + 1 : Nat) : Int) t.f0 t.f1 t.f2 t.f3 t.f0 t.f1 ns (t.f3.take i ++ [⟨b.1, b.2.1, b.2.2.1, b.2.2.2⟩])) (IH _ (List.getElem_mem hlt)) ?_
      have e : t.f3.take i ++ [(⟨t.f3[i].f0, t.f3[i].f1, t.f3[i].f2, t.f3[i].f3⟩ : S25)] = t.f3.take (i + 1) := by rw [eta25, List.take_succ_eq_append_getElem hlt]
      dsimp only
      rw [e]
      exact ih (i + 1) (by omega)
theorem twin_ev (t : Ty) : wT t ≤ 1099511627776 → Ev (fun k => gussetlaw14_Twin.f k t.f0 t.f1 t.f2 t.f3) (t.f0, t.f1, t.f2, t.f3) := by
  refine Ty.ind (p := fun t => wT t ≤ 1099511627776 → Ev (fun k => gussetlaw14_Twin.f k t.f0 t.f1 t.f2 t.f3) (t.f0, t.f1, t.f2, t.f3)) ?_ t
  intro k n ns l ih hw
  rw [wT_mk] at hw
  have hr := twin_l ⟨k, n, ns, l⟩ ([] ++ ns) (by show wTs l ≤ _; omega) (fun t ht => ih t ht (by have := wTs_mem (l := l) ht; omega)) l.length 0 (by show 0 + l.length = l.length; omega)
  refine Ev.step (f := fun q => gussetlaw14_Twin.l0 q 0 k n ns l k n ([] ++ ns) []) (fun q => ?_) hr
  show gussetlaw14_Twin.f (q + 1) k n ns l = _
  rw [gussetlaw14_Twin.f, if_pos (by simp; omega)]
end Go.Proofs.YtjcajpkgamolkaaDoor.Ty
