/- PTypx23, as this claim needs it. -/
import Derived.Test.YtjcajpkgamolkaaDoorPTypx0q
namespace Go.Proofs.YtjcajpkgamolkaaDoor.PTyp
open Go.RowKit Go.Proofs.YtjcajpkgamolkaaDoorW.PrintWords Go.Proofs.YtjcajpkgamolkaaDoorW.PrintLast Go.Proofs.YtjcajpkgamolkaaDoorW.PrintMore
attribute [local go_sem] max2_int min2_int max_two min_two max_three min_three max_four min_four   -- for this text's walks alone
set_option linter.unusedVariables false
set_option linter.unusedSimpArgs false
mutual
def gussetlaw14_plain.l0 : Nat → Int → Int → Int → List ByteArray → List (S25) → Option (Bool)
  | 0, _, _, _, _, _ => none
  | k + 1, x3, x446000, x446001, x446002, x446003 => if x3 < (x446002.length : Int) then (if 0 ≤ x3 then (if (rdOf ByteArray.empty x446002 x3).toList = ([] : List UInt8) then (some false) else (gussetlaw14_plain.l1 k x3 0 x446000 x446001 x446002 x446003)) else (none)) else (gussetlaw14_plain.l2 k 0 x446000 x446001 x446002 x446003)
def gussetlaw14_plain.l1 : Nat → Int → Int → Int → Int → List ByteArray → List (S25) → Option (Bool)
  | 0, _, _, _, _, _, _ => none
  | k + 1, x3, x4, x446000, x446001, x446002, x446003 => if 0 ≤ x3 then (if x3 < (x446002.length : Int) then (if x4 < ((rdOf ByteArray.empty x446002 x3).size : Int) then (if 0 ≤ x4 then (if (bt (rdOf ByteArray.empty x446002 x3) x4) < 97 then (some false) else (if (bt (rdOf ByteArray.empty x446002 x3) x4) > 122 then (some false) else (gussetlaw14_plain.l1 k x3 (wrap64 (x4 + 1)) x446000 x446001 x446002 x446003))) else (none)) else (gussetlaw14_plain.l0 k (wrap64 (x3 + 1)) x446000 x446001 x446002 x446003)) else (none)) else (none)
def gussetlaw14_plain.l2 : Nat → Int → Int → Int → List ByteArray → List (S25) → Option (Bool)
  | 0, _, _, _, _, _ => none
  | k + 1, x5, x446000, x446001, x446002, x446003 => if x5 < (x446003.length : Int) then (if 0 ≤ x5 then ((gussetlaw14_plain.f k ((rd_T25 x446003 x5).f0) ((rd_T25 x446003 x5).f1) ((rd_T25 x446003 x5).f2) ((rd_T25 x446003 x5).f3)).bind fun t451 => (if t451 = true then (gussetlaw14_plain.l2 k (wrap64 (x5 + 1)) x446000 x446001 x446002 x446003) else (some false))) else (none)) else (some true)
def gussetlaw14_plain.f : Nat → Int → Int → List ByteArray → List (S25) → Option (Bool)
  | 0, _, _, _, _ => none
  | k + 1, a0_0, a0_1, l0_2, l0_3 => gussetlaw14_plain.l0 k 0 a0_0 a0_1 l0_2 l0_3
end
set_option maxHeartbeats 8000000 in
set_option maxRecDepth 100000 in
theorem gussetlaw14_plain.calls (k : Nat) : ∀ (a0_0 : Int) (a0_1 : Int) (A0_2 : Option Addr) (c0_2 : Nat) (l0_2 : List ByteArray) (A0_3 : Option Addr) (c0_3 : Nat) (l0_3 : List (S25)) (r : Bool) (w : World) (hr0_2 : Kd.C Kd.string w A0_2 l0_2.length l0_2) (hc0_2 : l0_2.length ≤ c0_2) (hr0_3 : Kd.C k25 w A0_3 l0_3.length l0_3) (hc0_3 : l0_3.length ≤ c0_3) (h : gussetlaw14_plain.f k a0_0 a0_1 l0_2 l0_3 = some r),
    Calls Tryd.prog 30 #[.agg #[.int .i64 a0_0, .int .i64 a0_1, .slice A0_2 l0_2.length c0_2, .slice A0_3 l0_3.length c0_3]] w fun e w' => e = .returned (.bool r) ∧ Below w.heap.size w w' := by
  induction k using Nat.strongRecOn with
  | _ k ih =>
  intro a0_0 a0_1 A0_2 c0_2 l0_2 A0_3 c0_3 l0_3 r w hr0_2 hc0_2 hr0_3 hc0_3 h
  cases k with
  | zero => exact absurd h (by simp [gussetlaw14_plain.f])
  | succ k =>
  simp only [gussetlaw14_plain.f] at h
  have hu25 := Tryd.underlying25
  have HR0_2 := Aside0.mk hr0_2
  have HC0_2 := Aside0.mk hc0_2
  clear hr0_2 hc0_2
  have HR0_3 := Aside0.mk hr0_3
  have HC0_3 := Aside0.mk hc0_3
  clear hr0_3 hc0_3
  have HB := Aside0.mk (Below.refl w.heap.size w)
  have H : (gussetlaw14_plain.l0 k 0 a0_0 a0_1 l0_2 l0_3) = some r := h
  clear h
  have H' := Aside0.mk H
  clear H
  go_enter Tryd.func30, Tryd.ntmps30
  go_wp2_with (first | ((with_reducible refine gate_dst (N := 1) rfl ?_); refine box_event ?hg (N := 1) ?hd (cs := #[.int .i64 a0_0, .int .i64 a0_1, .slice A0_2 l0_2.length c0_2, .slice A0_3 l0_3.length c0_3]) (t := 25) ?hr ?_; (case hd => rfl); (case hg => rfl); (case hr => first | (go_simp; done) | (go_simp; rfl)); intro gb445 hg w2 hbox hb; have n0_ := Aside0.mk (below_step (by repeat (first | (with_reducible first | exact HB.out | apply below_alloc | apply pw_below_drewN | apply below_drew1) | exact HB.out)) hb); have n1_ := Aside0.mk (hbox); have n2_ := Aside0.mk ((by rw [hg]; exact (below_size (by repeat (first | (with_reducible first | exact HB.out | apply below_alloc | apply pw_below_drewN | apply below_drew1) | exact HB.out))) : w.heap.size ≤ gb445)); have n3_ := Aside0.mk ((by rw [hg]; exact (below_size (by repeat (first | (with_reducible first | exact HB.out | apply below_alloc | apply pw_below_drewN | apply below_drew1) | exact HB.out))) : w.heap.size ≤ gb445)); clear HB; have HB := n0_; have BK445 := n1_; have GW445 := n2_; have GE445 := n3_; clear n0_ n1_ n2_ n3_; clear hb hbox hg))
  go_loopg [3] k (fun kq v3 w' => ∃ (x3_1 : Int), v3 = .int .i64 x3_1 ∧ Aside0 (gussetlaw14_plain.l0 kq x3_1 a0_0 a0_1 l0_2 l0_3 = some r) ∧ Aside0 (kq ≤ k) ∧ Aside0 (w'.heap[gb445]? = some (.cells #[.int .i64 a0_0, .int .i64 a0_1, (.slice A0_2 l0_2.length c0_2), (.slice A0_3 l0_3.length c0_3)] 25 (0, 0))) ∧ Aside0 (Below w.heap.size w w'))
  case atStart => exact ⟨(0), (by first | rfl | (simp; done) | (simp [*]; done)), H', ⟨Nat.le_refl _⟩, ⟨by (with_reducible repeat (first | refine blk_drewN ?_ _ | refine blk_drew ?_ | refine blk_alloc ?_ _)); exact BK445.out⟩, ⟨by repeat (first | (with_reducible first | exact HB.out | apply below_alloc | apply pw_below_drewN | apply below_drew1 | refine below_set ?_ GE445.out) | exact HB.out)⟩⟩
  case round =>
    clear H'
    try clear p2
    obtain ⟨x3_1, rfl, HA, HK1, BK445, HB⟩ := hrel
    cases gk with
    | zero => exact absurd HA.out (by simp [gussetlaw14_plain.l0])
    | succ k1 =>
      have H := HA.out
      clear HA
      simp only [gussetlaw14_plain.l0] at H
      by_cases c3 : x3_1 < (l0_2.length : Int)
      rotate_left
      ·
       rw [if_neg c3] at H
       have c3b0 : decide (x3_1 < (l0_2.length : Int)) = false := decide_eq_false c3
       clear c3
       have H' := Aside0.mk H
       clear H
       have hcz20_0 : wr.cell? ⟨gb445, 0, none⟩ = some (.int .i64 a0_0) := (blk_cell BK445.out 0).trans rfl
       have hcz20_1 : wr.cell? ⟨gb445, 1, none⟩ = some (.int .i64 a0_1) := (blk_cell BK445.out 1).trans rfl
       have hcz20_2 : wr.cell? ⟨gb445, 2, none⟩ = some (.slice A0_2 l0_2.length c0_2) := (blk_cell BK445.out 2).trans rfl
       have hcz20_3 : wr.cell? ⟨gb445, 3, none⟩ = some (.slice A0_3 l0_3.length c0_3) := (blk_cell BK445.out 3).trans rfl
       have hfz20_0 := blk_frozen BK445.out 0
       have hfz20_1 := blk_frozen BK445.out 1
       have hfz20_2 := blk_frozen BK445.out 2
       have hfz20_3 := blk_frozen BK445.out 3
       go_wp2
       go_loopg [5] k1 (fun kq v5 w' => ∃ (x5_2 : Int), v5 = .int .i64 x5_2 ∧ Aside0 (gussetlaw14_plain.l2 kq x5_2 a0_0 a0_1 l0_2 l0_3 = some r) ∧ Aside0 (kq ≤ k1) ∧ Aside0 (w'.heap[gb445]? = some (.cells #[.int .i64 a0_0, .int .i64 a0_1, (.slice A0_2 l0_2.length c0_2), (.slice A0_3 l0_3.length c0_3)] 25 (0, 0))) ∧ Aside0 (Below w.heap.size w w'))
       case atStart => exact ⟨(0), (by first | rfl | (simp; done) | (simp [*]; done)), H', ⟨Nat.le_refl _⟩, ⟨by (with_reducible repeat (first | refine blk_drewN ?_ _ | refine blk_drew ?_ | refine blk_alloc ?_ _)); exact BK445.out⟩, ⟨by repeat (first | (with_reducible first | exact HB.out | apply below_alloc | apply pw_below_drewN | apply below_drew1 | refine below_set ?_ GE445.out) | exact HB.out)⟩⟩
       case round =>
         clear H'
         try clear c1
         try clear p1
         try clear q1
         try clear hx1
         try clear p2
         try clear c3
         try clear c3b0
         try clear c4
         try clear c4b0
         try clear p4
         try clear q4
         try clear hx4
         try clear c5
         try clear c5b0
         try clear c5b1
         try clear p6
         try clear c8
         try clear c8b0
         try clear c9
         try clear c9b0
         try clear c10
         try clear c10b0
         try clear c11
         try clear c11b0
         try clear p12
         try clear q12
         try clear hx12
         try clear c13
         try clear c13b0
         try clear p15
         try clear q15
         try clear hx15
         try clear c16
         try clear c16b0
         try clear hcz14_0
         try clear hcz14_1
         try clear hcz14_2
         try clear hcz14_3
         try clear hcz17_0
         try clear hcz17_1
         try clear hcz17_2
         try clear hcz17_3
         try clear hcz18_0
         try clear hcz18_1
         try clear hcz18_2
         try clear hcz18_3
         try clear hcz19_0
         try clear hcz19_1
         try clear hcz19_2
         try clear hcz19_3
         try clear hcz20_0
         try clear hcz20_1
         try clear hcz20_2
         try clear hcz20_3
         try clear hcz6_0
         try clear hcz6_1
         try clear hcz6_2
         try clear hcz6_3
         try clear hcz7_0
         try clear hcz7_1
         try clear hcz7_2
         try clear hcz7_3
         try clear hfz14_0
         try clear hfz14_1
         try clear hfz14_2
         try clear hfz14_3
         try clear hfz17_0
         try clear hfz17_1
         try clear hfz17_2
         try clear hfz17_3
         try clear hfz18_0
         try clear hfz18_1
         try clear hfz18_2
         try clear hfz18_3
         try clear hfz19_0
         try clear hfz19_1
         try clear hfz19_2
         try clear hfz19_3
         try clear hfz20_0
         try clear hfz20_1
         try clear hfz20_2
         try clear hfz20_3
         try clear hfz6_0
         try clear hfz6_1
         try clear hfz6_2
         try clear hfz6_3
         try clear hfz7_0
         try clear hfz7_1
         try clear hfz7_2
         try clear hfz7_3
         try clear hx446_0
         try clear hx447_0
         try clear hx448_0
         try clear hx449_0
         try clear p12
         try clear p15
         try clear p2
         try clear p4
         try clear p446
         try clear p447
         try clear p448
         try clear p449
         try clear q12
         try clear q15
         try clear q4
         try clear q446
         try clear q447
         try clear q448
         try clear q449
         obtain ⟨x5_2, rfl, HA, HK2, BK445, HB⟩ := hrel
         cases gk with
         | zero => exact absurd HA.out (by simp [gussetlaw14_plain.l2])
         | succ k2 =>
           have H := HA.out
           clear HA
           simp only [gussetlaw14_plain.l2] at H
           by_cases c21 : x5_2 < (l0_3.length : Int)
           rotate_left
           ·
            rw [if_neg c21] at H
            have c21b0 : decide (x5_2 < (l0_3.length : Int)) = false := decide_eq_false c21
            clear c21
            obtain rfl := Option.some.inj H
            have hcz29_0 : wr.cell? ⟨gb445, 0, none⟩ = some (.int .i64 a0_0) := (blk_cell BK445.out 0).trans rfl
            have hcz29_1 : wr.cell? ⟨gb445, 1, none⟩ = some (.int .i64 a0_1) := (blk_cell BK445.out 1).trans rfl
            have hcz29_2 : wr.cell? ⟨gb445, 2, none⟩ = some (.slice A0_2 l0_2.length c0_2) := (blk_cell BK445.out 2).trans rfl
            have hcz29_3 : wr.cell? ⟨gb445, 3, none⟩ = some (.slice A0_3 l0_3.length c0_3) := (blk_cell BK445.out 3).trans rfl
            have hfz29_0 := blk_frozen BK445.out 0
            have hfz29_1 := blk_frozen BK445.out 1
            have hfz29_2 := blk_frozen BK445.out 2
            have hfz29_3 := blk_frozen BK445.out 3
            go_wp2
            go_ret
            exact ⟨by first | rfl | (simp [errW_none, errW_some] <;> rfl) | (simp [*, errW_none, errW_some] <;> rfl), by repeat (first | (with_reducible first | exact HB.out | apply below_alloc | apply pw_below_drewN | apply below_drew1 | refine below_set ?_ GE445.out) | exact HB.out)⟩
           rw [if_pos c21] at H
           have c21b0 : decide (x5_2 < (l0_3.length : Int)) = true := decide_eq_true c21
           clear c21
           by_cases c22 : 0 ≤ x5_2
           rotate_left
           ·
            rw [if_neg c22] at H
            exact absurd H (by simp)
           rw [if_pos c22] at H
           have c22b0 : decide (0 ≤ x5_2) = true := decide_eq_true c22
           clear c22
           replace H := Option.bind_eq_some_iff.mp H
           obtain ⟨t451, A230, H⟩ := H
           replace H : (if t451 = true then (gussetlaw14_plain.l2 k2 (wrap64 (x5_2 + 1)) a0_0 a0_1 l0_2 l0_3) else (some false)) = some r := H
           have A23 := Aside0.mk A230
           clear A230
           by_cases c24 : t451 = true
           rotate_left
           ·
            replace c24 := Bool.eq_false_iff.mpr c24
            subst c24
            have H1 : (some false) = some r := by rw [if_neg (show ¬ (false = true) by decide)] at H; exact H
            clear H
            have H := H1
            clear H1
            obtain rfl := Option.some.inj H
            have hcz27_0 : wr.cell? ⟨gb445, 0, none⟩ = some (.int .i64 a0_0) := (blk_cell BK445.out 0).trans rfl
            have hcz27_1 : wr.cell? ⟨gb445, 1, none⟩ = some (.int .i64 a0_1) := (blk_cell BK445.out 1).trans rfl
            have hcz27_2 : wr.cell? ⟨gb445, 2, none⟩ = some (.slice A0_2 l0_2.length c0_2) := (blk_cell BK445.out 2).trans rfl
            have hcz27_3 : wr.cell? ⟨gb445, 3, none⟩ = some (.slice A0_3 l0_3.length c0_3) := (blk_cell BK445.out 3).trans rfl
            have hfz27_0 := blk_frozen BK445.out 0
            have hfz27_1 := blk_frozen BK445.out 1
            have hfz27_2 := blk_frozen BK445.out 2
            have hfz27_3 := blk_frozen BK445.out 3
            have p450 : 0 ≤ (x5_2 : Int) := of_decide_eq_true (by first | (with_reducible assumption) | assumption)
            have q450 : x5_2 < (l0_3.length : Int) := of_decide_eq_true (by first | (with_reducible assumption) | assumption)
            obtain ⟨ad450, A450_2, c450_2, A450_3, c450_3, e450, hx450_0, hx450_1, hx450_2, hx450_3, hl450_2, hi450_2, hl450_3, hi450_3⟩ := at_T25 HR0_3.out x5_2 p450 q450
            cases e450
            replace hx450_0 := (HB.out.cell (World.block_lt_of_cell? w _ hx450_0)).trans hx450_0
            replace hx450_1 := (HB.out.cell (World.block_lt_of_cell? w _ hx450_1)).trans hx450_1
            replace hx450_2 := (HB.out.cell (World.block_lt_of_cell? w _ hx450_2)).trans hx450_2
            replace hx450_3 := (HB.out.cell (World.block_lt_of_cell? w _ hx450_3)).trans hx450_3
            have HR450_2 := Aside0.mk hi450_2
            have HC450_2 := Aside0.mk hl450_2
            clear hi450_2 hl450_2
            have HR450_3 := Aside0.mk hi450_3
            have HC450_3 := Aside0.mk hl450_3
            clear hi450_3 hl450_3
            replace p450 := eq_true p450
            replace q450 := eq_true q450
            go_wp2_with (first | ((with_reducible refine gate_callee (f := 30) rfl ?_); refine goesL_ (some 59) rfl rfl Tryd.func30 (by kernel_rfl) rfl #[.agg #[.int .i64 ((rd_T25 l0_3 x5_2).f0), .int .i64 ((rd_T25 l0_3 x5_2).f1), .slice A450_2 ((rd_T25 l0_3 x5_2).f2).length c450_2, .slice A450_3 ((rd_T25 l0_3 x5_2).f3).length c450_3]] rfl (by (try simp only [List.map_toArray, List.map_cons, List.map_nil]); first | done | rfl | (simp only [List.length_drop, List.length_take]; rfl)) ?_; (with_reducible refine (ih k2 (by have := HK1.out; have := HK2.out; omega) ((rd_T25 l0_3 x5_2).f0) ((rd_T25 l0_3 x5_2).f1) _ _ ((rd_T25 l0_3 x5_2).f2) _ _ ((rd_T25 l0_3 x5_2).f3) false _ ?side1 ?side2 ?side3 ?side4 A23.out).mono ?_); (case side1 => repeat (first | exact (Kd.C_below HR450_2.out HB.out) | (with_reducible refine Kd.C_alloc ?_ _) | (with_reducible refine Kd.C_drewN ?_ _) | (with_reducible refine Kd.C_drew ?_))); (case side2 => exact HC450_2.out); (case side3 => repeat (first | exact (Kd.C_below HR450_3.out HB.out) | (with_reducible refine Kd.C_alloc ?_ _) | (with_reducible refine Kd.C_drewN ?_ _) | (with_reducible refine Kd.C_drew ?_))); (case side4 => exact HC450_3.out); rintro e w28 ⟨rfl, hb⟩; refine ⟨_, rfl, ?_⟩; have n0_ := Aside0.mk (blk_below (g := gb445) (o := .cells #[.int .i64 a0_0, .int .i64 a0_1, .slice A0_2 l0_2.length c0_2, .slice (some ad450) l0_3.length c0_3] 25 (0, 0)) (by (with_reducible repeat (first | refine blk_drewN ?_ _ | refine blk_drew ?_ | refine blk_alloc ?_ _)); exact BK445.out) hb); have n1_ := Aside0.mk (below_step (by repeat (first | (with_reducible first | exact HB.out | apply below_alloc | apply pw_below_drewN | apply below_drew1 | refine below_set ?_ GE445.out) | exact HB.out)) hb); clear BK445; clear HB; have BK445 := n0_; have HB := n1_; clear n0_ n1_; (try clear hb); (try clear hb2); (try clear hk); (try clear hi)))
            go_ret
            exact ⟨by first | rfl | (simp [errW_none, errW_some] <;> rfl) | (simp [*, errW_none, errW_some] <;> rfl), by repeat (first | (with_reducible first | exact HB.out | apply below_alloc | apply pw_below_drewN | apply below_drew1 | refine below_set ?_ GE445.out) | exact HB.out)⟩
           subst c24
           have H1 : (gussetlaw14_plain.l2 k2 (wrap64 (x5_2 + 1)) a0_0 a0_1 l0_2 l0_3) = some r := by rw [if_pos rfl] at H; exact H
           clear H
           have H := H1
           clear H1
           have H' := Aside0.mk H
           clear H
           have hcz25_0 : wr.cell? ⟨gb445, 0, none⟩ = some (.int .i64 a0_0) := (blk_cell BK445.out 0).trans rfl
           have hcz25_1 : wr.cell? ⟨gb445, 1, none⟩ = some (.int .i64 a0_1) := (blk_cell BK445.out 1).trans rfl
           have hcz25_2 : wr.cell? ⟨gb445, 2, none⟩ = some (.slice A0_2 l0_2.length c0_2) := (blk_cell BK445.out 2).trans rfl
           have hcz25_3 : wr.cell? ⟨gb445, 3, none⟩ = some (.slice A0_3 l0_3.length c0_3) := (blk_cell BK445.out 3).trans rfl
           have hfz25_0 := blk_frozen BK445.out 0
           have hfz25_1 := blk_frozen BK445.out 1
           have hfz25_2 := blk_frozen BK445.out 2
           have hfz25_3 := blk_frozen BK445.out 3
           have p450 : 0 ≤ (x5_2 : Int) := of_decide_eq_true (by first | (with_reducible assumption) | assumption)
           have q450 : x5_2 < (l0_3.length : Int) := of_decide_eq_true (by first | (with_reducible assumption) | assumption)
           obtain ⟨ad450, A450_2, c450_2, A450_3, c450_3, e450, hx450_0, hx450_1, hx450_2, hx450_3, hl450_2, hi450_2, hl450_3, hi450_3⟩ := at_T25 HR0_3.out x5_2 p450 q450
           cases e450
           replace hx450_0 := (HB.out.cell (World.block_lt_of_cell? w _ hx450_0)).trans hx450_0
           replace hx450_1 := (HB.out.cell (World.block_lt_of_cell? w _ hx450_1)).trans hx450_1
           replace hx450_2 := (HB.out.cell (World.block_lt_of_cell? w _ hx450_2)).trans hx450_2
           replace hx450_3 := (HB.out.cell (World.block_lt_of_cell? w _ hx450_3)).trans hx450_3
           have HR450_2 := Aside0.mk hi450_2
           have HC450_2 := Aside0.mk hl450_2
           clear hi450_2 hl450_2
           have HR450_3 := Aside0.mk hi450_3
           have HC450_3 := Aside0.mk hl450_3
           clear hi450_3 hl450_3
           replace p450 := eq_true p450
           replace q450 := eq_true q450
           go_wp2_with (first | ((with_reducible refine gate_callee (f := 30) rfl ?_); refine goesL_ (some 59) rfl rfl Tryd.func30 (by kernel_rfl) rfl #[.agg #[.int .i64 ((rd_T25 l0_3 x5_2).f0), .int .i64 ((rd_T25 l0_3 x5_2).f1), .slice A450_2 ((rd_T25 l0_3 x5_2).f2).length c450_2, .slice A450_3 ((rd_T25 l0_3 x5_2).f3).length c450_3]] rfl (by (try simp only [List.map_toArray, List.map_cons, List.map_nil]); first | done | rfl | (simp only [List.length_drop, List.length_take]; rfl)) ?_; (with_reducible refine (ih k2 (by have := HK1.out; have := HK2.out; omega) ((rd_T25 l0_3 x5_2).f0) ((rd_T25 l0_3 x5_2).f1) _ _ ((rd_T25 l0_3 x5_2).f2) _ _ ((rd_T25 l0_3 x5_2).f3) true _ ?side1 ?side2 ?side3 ?side4 A23.out).mono ?_); (case side1 => repeat (first | exact (Kd.C_below HR450_2.out HB.out) | (with_reducible refine Kd.C_alloc ?_ _) | (with_reducible refine Kd.C_drewN ?_ _) | (with_reducible refine Kd.C_drew ?_))); (case side2 => exact HC450_2.out); (case side3 => repeat (first | exact (Kd.C_below HR450_3.out HB.out) | (with_reducible refine Kd.C_alloc ?_ _) | (with_reducible refine Kd.C_drewN ?_ _) | (with_reducible refine Kd.C_drew ?_))); (case side4 => exact HC450_3.out); rintro e w26 ⟨rfl, hb⟩; refine ⟨_, rfl, ?_⟩; have n0_ := Aside0.mk (blk_below (g := gb445) (o := .cells #[.int .i64 a0_0, .int .i64 a0_1, .slice A0_2 l0_2.length c0_2, .slice (some ad450) l0_3.length c0_3] 25 (0, 0)) (by (with_reducible repeat (first | refine blk_drewN ?_ _ | refine blk_drew ?_ | refine blk_alloc ?_ _)); exact BK445.out) hb); have n1_ := Aside0.mk (below_step (by repeat (first | (with_reducible first | exact HB.out | apply below_alloc | apply pw_below_drewN | apply below_drew1 | refine below_set ?_ GE445.out) | exact HB.out)) hb); clear BK445; clear HB; have BK445 := n0_; have HB := n1_; clear n0_ n1_; (try clear hb); (try clear hb2); (try clear hk); (try clear hi)))
           go_roundg k2
           case measure => have := HK1.out; have := HK2.out; omega
           case rel => exact ⟨(wrap64 (x5_2 + 1)), (by first | rfl | (simp; done) | (simp [*]; done)), H', ⟨by have := HK1.out; have := HK2.out; omega⟩, ⟨by (with_reducible repeat (first | refine blk_drewN ?_ _ | refine blk_drew ?_ | refine blk_alloc ?_ _)); exact BK445.out⟩, ⟨by repeat (first | (with_reducible first | exact HB.out | apply below_alloc | apply pw_below_drewN | apply below_drew1 | refine below_set ?_ GE445.out) | exact HB.out)⟩⟩
      rw [if_pos c3] at H
      have c3b0 : decide (x3_1 < (l0_2.length : Int)) = true := decide_eq_true c3
      clear c3
      by_cases c4 : 0 ≤ x3_1
      rotate_left
      ·
       rw [if_neg c4] at H
       exact absurd H (by simp)
      rw [if_pos c4] at H
      have c4b0 : decide (0 ≤ x3_1) = true := decide_eq_true c4
      clear c4
      by_cases c5 : (rdOf ByteArray.empty l0_2 x3_1).toList = ([] : List UInt8)
      ·
       rw [if_pos c5] at H
       have c5b0 : ((rdOf ByteArray.empty l0_2 x3_1).toList == ([] : List UInt8)) = true := beq_iff_eq.mpr c5
       have c5b9 : (rdOf ByteArray.empty l0_2 x3_1).toList.isEmpty = true := by simpa using c5
       have c5b1 : ((rdOf ByteArray.empty l0_2 x3_1).toList != ([] : List UInt8)) = false := bne_eq_false_iff_eq.mpr c5
       clear c5
       obtain rfl := Option.some.inj H
       have hcz6_0 : wr.cell? ⟨gb445, 0, none⟩ = some (.int .i64 a0_0) := (blk_cell BK445.out 0).trans rfl
       have hcz6_1 : wr.cell? ⟨gb445, 1, none⟩ = some (.int .i64 a0_1) := (blk_cell BK445.out 1).trans rfl
       have hcz6_2 : wr.cell? ⟨gb445, 2, none⟩ = some (.slice A0_2 l0_2.length c0_2) := (blk_cell BK445.out 2).trans rfl
       have hcz6_3 : wr.cell? ⟨gb445, 3, none⟩ = some (.slice A0_3 l0_3.length c0_3) := (blk_cell BK445.out 3).trans rfl
       have hfz6_0 := blk_frozen BK445.out 0
       have hfz6_1 := blk_frozen BK445.out 1
       have hfz6_2 := blk_frozen BK445.out 2
       have hfz6_3 := blk_frozen BK445.out 3
       have p446 : 0 ≤ (x3_1 : Int) := of_decide_eq_true (by first | (with_reducible assumption) | assumption)
       have q446 : x3_1 < (l0_2.length : Int) := of_decide_eq_true (by first | (with_reducible assumption) | assumption)
       obtain ⟨ad446, e446, hx446_0⟩ := Kd.at_string HR0_2.out x3_1 p446 q446
       cases e446
       replace hx446_0 := (HB.out.cell (World.block_lt_of_cell? w _ hx446_0)).trans hx446_0
       replace p446 := eq_true p446
       replace q446 := eq_true q446
       go_wp2
       go_ret
       exact ⟨by first | rfl | (simp [errW_none, errW_some] <;> rfl) | (simp [*, errW_none, errW_some] <;> rfl), by repeat (first | (with_reducible first | exact HB.out | apply below_alloc | apply pw_below_drewN | apply below_drew1 | refine below_set ?_ GE445.out) | exact HB.out)⟩
      rw [if_neg c5] at H
      have c5b0 : ((rdOf ByteArray.empty l0_2 x3_1).toList == ([] : List UInt8)) = false := beq_eq_false_iff_ne.mpr c5
      have c5b9 : (rdOf ByteArray.empty l0_2 x3_1).toList.isEmpty = false := by simpa using c5
      have c5b1 : ((rdOf ByteArray.empty l0_2 x3_1).toList != ([] : List UInt8)) = true := bne_iff_ne.mpr c5
      have H' := Aside0.mk H
      clear H
      have hcz7_0 : wr.cell? ⟨gb445, 0, none⟩ = some (.int .i64 a0_0) := (blk_cell BK445.out 0).trans rfl
      have hcz7_1 : wr.cell? ⟨gb445, 1, none⟩ = some (.int .i64 a0_1) := (blk_cell BK445.out 1).trans rfl
      have hcz7_2 : wr.cell? ⟨gb445, 2, none⟩ = some (.slice A0_2 l0_2.length c0_2) := (blk_cell BK445.out 2).trans rfl
      have hcz7_3 : wr.cell? ⟨gb445, 3, none⟩ = some (.slice A0_3 l0_3.length c0_3) := (blk_cell BK445.out 3).trans rfl
      have hfz7_0 := blk_frozen BK445.out 0
      have hfz7_1 := blk_frozen BK445.out 1
      have hfz7_2 := blk_frozen BK445.out 2
      have hfz7_3 := blk_frozen BK445.out 3
      have p446 : 0 ≤ (x3_1 : Int) := of_decide_eq_true (by first | (with_reducible assumption) | assumption)
      have q446 : x3_1 < (l0_2.length : Int) := of_decide_eq_true (by first | (with_reducible assumption) | assumption)
      obtain ⟨ad446, e446, hx446_0⟩ := Kd.at_string HR0_2.out x3_1 p446 q446
      cases e446
      replace hx446_0 := (HB.out.cell (World.block_lt_of_cell? w _ hx446_0)).trans hx446_0
      replace p446 := eq_true p446
      replace q446 := eq_true q446
      go_wp2
      go_loopg [4] k1 (fun kq v4 w' => ∃ (x4_2 : Int), v4 = .int .i64 x4_2 ∧ Aside0 (gussetlaw14_plain.l1 kq x3_1 x4_2 a0_0 a0_1 l0_2 l0_3 = some r) ∧ Aside0 (kq ≤ k1) ∧ Aside0 (w'.heap[gb445]? = some (.cells #[.int .i64 a0_0, .int .i64 a0_1, (.slice (some ad446) l0_2.length c0_2), (.slice A0_3 l0_3.length c0_3)] 25 (0, 0))) ∧ Aside0 (Below w.heap.size w w'))
      case atStart => exact ⟨(0), (by first | rfl | (simp; done) | (simp [*]; done)), H', ⟨Nat.le_refl _⟩, ⟨by (with_reducible repeat (first | refine blk_drewN ?_ _ | refine blk_drew ?_ | refine blk_alloc ?_ _)); exact BK445.out⟩, ⟨by repeat (first | (with_reducible first | exact HB.out | apply below_alloc | apply pw_below_drewN | apply below_drew1 | refine below_set ?_ GE445.out) | exact HB.out)⟩⟩
      case round =>
        clear H'
        try clear p2
        try clear c3
        try clear c3b0
        try clear c4
        try clear c4b0
        try clear p4
        try clear q4
        try clear hx4
        try clear c5
        try clear c5b0
        try clear c5b1
        try clear hcz6_0
        try clear hcz6_1
        try clear hcz6_2
        try clear hcz6_3
        try clear hcz7_0
        try clear hcz7_1
        try clear hcz7_2
        try clear hcz7_3
        try clear hfz6_0
        try clear hfz6_1
        try clear hfz6_2
        try clear hfz6_3
        try clear hfz7_0
        try clear hfz7_1
        try clear hfz7_2
        try clear hfz7_3
        try clear hx446_0
        try clear p2
        try clear p446
        try clear q446
        obtain ⟨x4_2, rfl, HA, HK2, BK445, HB⟩ := hrel
        cases gk with
        | zero => exact absurd HA.out (by simp [gussetlaw14_plain.l1])
        | succ k2 =>
          have H := HA.out
          clear HA
          simp only [gussetlaw14_plain.l1] at H
          by_cases c8 : 0 ≤ x3_1
          rotate_left
          ·
           rw [if_neg c8] at H
           exact absurd H (by simp)
          rw [if_pos c8] at H
          have c8b0 : decide (0 ≤ x3_1) = true := decide_eq_true c8
          clear c8
          by_cases c9 : x3_1 < (l0_2.length : Int)
          rotate_left
          ·
           rw [if_neg c9] at H
           exact absurd H (by simp)
          rw [if_pos c9] at H
          have c9b0 : decide (x3_1 < (l0_2.length : Int)) = true := decide_eq_true c9
          clear c9
          by_cases c10 : x4_2 < ((rdOf ByteArray.empty l0_2 x3_1).size : Int)
          rotate_left
          ·
           rw [if_neg c10] at H
           have c10b0 : decide (x4_2 < ((rdOf ByteArray.empty l0_2 x3_1).size : Int)) = false := decide_eq_false c10
           clear c10
           have H' := Aside0.mk H
           clear H
           have hcz19_0 : wr.cell? ⟨gb445, 0, none⟩ = some (.int .i64 a0_0) := (blk_cell BK445.out 0).trans rfl
           have hcz19_1 : wr.cell? ⟨gb445, 1, none⟩ = some (.int .i64 a0_1) := (blk_cell BK445.out 1).trans rfl
           have hcz19_2 : wr.cell? ⟨gb445, 2, none⟩ = some (.slice (some ad446) l0_2.length c0_2) := (blk_cell BK445.out 2).trans rfl
           have hcz19_3 : wr.cell? ⟨gb445, 3, none⟩ = some (.slice A0_3 l0_3.length c0_3) := (blk_cell BK445.out 3).trans rfl
           have hfz19_0 := blk_frozen BK445.out 0
           have hfz19_1 := blk_frozen BK445.out 1
           have hfz19_2 := blk_frozen BK445.out 2
           have hfz19_3 := blk_frozen BK445.out 3
           have p447 : 0 ≤ (x3_1 : Int) := of_decide_eq_true (by first | (with_reducible assumption) | assumption)
           have q447 : x3_1 < (l0_2.length : Int) := of_decide_eq_true (by first | (with_reducible assumption) | assumption)
           obtain ⟨ad447, e447, hx447_0⟩ := Kd.at_string HR0_2.out x3_1 p447 q447
           obtain rfl : ad446 = ad447 := (by injection e447)
           replace hx447_0 := (HB.out.cell (World.block_lt_of_cell? w _ hx447_0)).trans hx447_0
           replace p447 := eq_true p447
           replace q447 := eq_true q447
           go_wp2
           go_roundg k2
           case measure => have := HK1.out; have := HK2.out; omega
           case rel => exact ⟨(wrap64 (x3_1 + 1)), (by first | rfl | (simp; done) | (simp [*]; done)), H', ⟨by have := HK1.out; have := HK2.out; omega⟩, ⟨by (with_reducible repeat (first | refine blk_drewN ?_ _ | refine blk_drew ?_ | refine blk_alloc ?_ _)); exact BK445.out⟩, ⟨by repeat (first | (with_reducible first | exact HB.out | apply below_alloc | apply pw_below_drewN | apply below_drew1 | refine below_set ?_ GE445.out) | exact HB.out)⟩⟩
          rw [if_pos c10] at H
          have c10b0 : decide (x4_2 < ((rdOf ByteArray.empty l0_2 x3_1).size : Int)) = true := decide_eq_true c10
          clear c10
          by_cases c11 : 0 ≤ x4_2
          rotate_left
          ·
           rw [if_neg c11] at H
           exact absurd H (by simp)
          rw [if_pos c11] at H
          have c11b0 : decide (0 ≤ x4_2) = true := decide_eq_true c11
          clear c11
          by_cases c13 : (bt (rdOf ByteArray.empty l0_2 x3_1) x4_2) < 97
          ·
           rw [if_pos c13] at H
           have c13b0 : decide ((bt (rdOf ByteArray.empty l0_2 x3_1) x4_2) < 97) = true := decide_eq_true c13
           clear c13
           obtain rfl := Option.some.inj H
           have hcz14_0 : wr.cell? ⟨gb445, 0, none⟩ = some (.int .i64 a0_0) := (blk_cell BK445.out 0).trans rfl
           have hcz14_1 : wr.cell? ⟨gb445, 1, none⟩ = some (.int .i64 a0_1) := (blk_cell BK445.out 1).trans rfl
           have hcz14_2 : wr.cell? ⟨gb445, 2, none⟩ = some (.slice (some ad446) l0_2.length c0_2) := (blk_cell BK445.out 2).trans rfl
           have hcz14_3 : wr.cell? ⟨gb445, 3, none⟩ = some (.slice A0_3 l0_3.length c0_3) := (blk_cell BK445.out 3).trans rfl
           have hfz14_0 := blk_frozen BK445.out 0
           have hfz14_1 := blk_frozen BK445.out 1
           have hfz14_2 := blk_frozen BK445.out 2
           have hfz14_3 := blk_frozen BK445.out 3
           have p447 : 0 ≤ (x3_1 : Int) := of_decide_eq_true (by first | (with_reducible assumption) | assumption)
           have q447 : x3_1 < (l0_2.length : Int) := of_decide_eq_true (by first | (with_reducible assumption) | assumption)
           obtain ⟨ad447, e447, hx447_0⟩ := Kd.at_string HR0_2.out x3_1 p447 q447
           obtain rfl : ad446 = ad447 := (by injection e447)
           replace hx447_0 := (HB.out.cell (World.block_lt_of_cell? w _ hx447_0)).trans hx447_0
           replace p447 := eq_true p447
           replace q447 := eq_true q447
           have p448 : 0 ≤ (x3_1 : Int) := of_decide_eq_true (by first | (with_reducible assumption) | assumption)
           have q448 : x3_1 < (l0_2.length : Int) := of_decide_eq_true (by first | (with_reducible assumption) | assumption)
           obtain ⟨ad448, e448, hx448_0⟩ := Kd.at_string HR0_2.out x3_1 p448 q448
           obtain rfl : ad446 = ad448 := (by injection e448)
           replace hx448_0 := (HB.out.cell (World.block_lt_of_cell? w _ hx448_0)).trans hx448_0
           replace p448 := eq_true p448
           replace q448 := eq_true q448
           have p12 : 0 ≤ (x4_2 : Int) := of_decide_eq_true (by first | (with_reducible assumption) | assumption)
           have q12 : x4_2 < ((rdOf ByteArray.empty l0_2 x3_1).size : Int) := of_decide_eq_true (by first | (with_reducible assumption) | assumption)
           have hx12 := bt_at (rdOf ByteArray.empty l0_2 x3_1) x4_2
           replace p12 := eq_true p12
           replace q12 := eq_true q12
           go_wp2
           go_ret
           exact ⟨by first | rfl | (simp [errW_none, errW_some] <;> rfl) | (simp [*, errW_none, errW_some] <;> rfl), by repeat (first | (with_reducible first | exact HB.out | apply below_alloc | apply pw_below_drewN | apply below_drew1 | refine below_set ?_ GE445.out) | exact HB.out)⟩
          rw [if_neg c13] at H
          have c13b0 : decide ((bt (rdOf ByteArray.empty l0_2 x3_1) x4_2) < 97) = false := decide_eq_false c13
          clear c13
          by_cases c16 : (bt (rdOf ByteArray.empty l0_2 x3_1) x4_2) > 122
          ·
           rw [if_pos c16] at H
           have c16b0 : decide (122 < (bt (rdOf ByteArray.empty l0_2 x3_1) x4_2)) = true := decide_eq_true c16
           clear c16
           obtain rfl := Option.some.inj H
           have hcz17_0 : wr.cell? ⟨gb445, 0, none⟩ = some (.int .i64 a0_0) := (blk_cell BK445.out 0).trans rfl
           have hcz17_1 : wr.cell? ⟨gb445, 1, none⟩ = some (.int .i64 a0_1) := (blk_cell BK445.out 1).trans rfl
           have hcz17_2 : wr.cell? ⟨gb445, 2, none⟩ = some (.slice (some ad446) l0_2.length c0_2) := (blk_cell BK445.out 2).trans rfl
           have hcz17_3 : wr.cell? ⟨gb445, 3, none⟩ = some (.slice A0_3 l0_3.length c0_3) := (blk_cell BK445.out 3).trans rfl
           have hfz17_0 := blk_frozen BK445.out 0
           have hfz17_1 := blk_frozen BK445.out 1
           have hfz17_2 := blk_frozen BK445.out 2
           have hfz17_3 := blk_frozen BK445.out 3
           have p447 : 0 ≤ (x3_1 : Int) := of_decide_eq_true (by first | (with_reducible assumption) | assumption)
           have q447 : x3_1 < (l0_2.length : Int) := of_decide_eq_true (by first | (with_reducible assumption) | assumption)
           obtain ⟨ad447, e447, hx447_0⟩ := Kd.at_string HR0_2.out x3_1 p447 q447
           obtain rfl : ad446 = ad447 := (by injection e447)
           replace hx447_0 := (HB.out.cell (World.block_lt_of_cell? w _ hx447_0)).trans hx447_0
           replace p447 := eq_true p447
           replace q447 := eq_true q447
           have p448 : 0 ≤ (x3_1 : Int) := of_decide_eq_true (by first | (with_reducible assumption) | assumption)
           have q448 : x3_1 < (l0_2.length : Int) := of_decide_eq_true (by first | (with_reducible assumption) | assumption)
           obtain ⟨ad448, e448, hx448_0⟩ := Kd.at_string HR0_2.out x3_1 p448 q448
           obtain rfl : ad446 = ad448 := (by injection e448)
           replace hx448_0 := (HB.out.cell (World.block_lt_of_cell? w _ hx448_0)).trans hx448_0
           replace p448 := eq_true p448
           replace q448 := eq_true q448
           have p12 : 0 ≤ (x4_2 : Int) := of_decide_eq_true (by first | (with_reducible assumption) | assumption)
           have q12 : x4_2 < ((rdOf ByteArray.empty l0_2 x3_1).size : Int) := of_decide_eq_true (by first | (with_reducible assumption) | assumption)
           have hx12 := bt_at (rdOf ByteArray.empty l0_2 x3_1) x4_2
           replace p12 := eq_true p12
           replace q12 := eq_true q12
           have p449 : 0 ≤ (x3_1 : Int) := of_decide_eq_true (by first | (with_reducible assumption) | assumption)
           have q449 : x3_1 < (l0_2.length : Int) := of_decide_eq_true (by first | (with_reducible assumption) | assumption)
           obtain ⟨ad449, e449, hx449_0⟩ := Kd.at_string HR0_2.out x3_1 p449 q449
           obtain rfl : ad446 = ad449 := (by injection e449)
           replace hx449_0 := (HB.out.cell (World.block_lt_of_cell? w _ hx449_0)).trans hx449_0
           replace p449 := eq_true p449
           replace q449 := eq_true q449
           have p15 : 0 ≤ (x4_2 : Int) := of_decide_eq_true (by first | (with_reducible assumption) | assumption)
           have q15 : x4_2 < ((rdOf ByteArray.empty l0_2 x3_1).size : Int) := of_decide_eq_true (by first | (with_reducible assumption) | assumption)
           have hx15 := bt_at (rdOf ByteArray.empty l0_2 x3_1) x4_2
           replace p15 := eq_true p15
           replace q15 := eq_true q15
           go_wp2
           go_ret
           exact ⟨by first | rfl | (simp [errW_none, errW_some] <;> rfl) | (simp [*, errW_none, errW_some] <;> rfl), by repeat (first | (with_reducible first | exact HB.out | apply below_alloc | apply pw_below_drewN | apply below_drew1 | refine below_set ?_ GE445.out) | exact HB.out)⟩
          rw [if_neg c16] at H
          have c16b0 : decide (122 < (bt (rdOf ByteArray.empty l0_2 x3_1) x4_2)) = false := decide_eq_false c16
          clear c16
          have H' := Aside0.mk H
          clear H
          have hcz18_0 : wr.cell? ⟨gb445, 0, none⟩ = some (.int .i64 a0_0) := (blk_cell BK445.out 0).trans rfl
          have hcz18_1 : wr.cell? ⟨gb445, 1, none⟩ = some (.int .i64 a0_1) := (blk_cell BK445.out 1).trans rfl
          have hcz18_2 : wr.cell? ⟨gb445, 2, none⟩ = some (.slice (some ad446) l0_2.length c0_2) := (blk_cell BK445.out 2).trans rfl
          have hcz18_3 : wr.cell? ⟨gb445, 3, none⟩ = some (.slice A0_3 l0_3.length c0_3) := (blk_cell BK445.out 3).trans rfl
          have hfz18_0 := blk_frozen BK445.out 0
          have hfz18_1 := blk_frozen BK445.out 1
          have hfz18_2 := blk_frozen BK445.out 2
          have hfz18_3 := blk_frozen BK445.out 3
          have p447 : 0 ≤ (x3_1 : Int) := of_decide_eq_true (by first | (with_reducible assumption) | assumption)
          have q447 : x3_1 < (l0_2.length : Int) := of_decide_eq_true (by first | (with_reducible assumption) | assumption)
          obtain ⟨ad447, e447, hx447_0⟩ := Kd.at_string HR0_2.out x3_1 p447 q447
          obtain rfl : ad446 = ad447 := (by injection e447)
          replace hx447_0 := (HB.out.cell (World.block_lt_of_cell? w _ hx447_0)).trans hx447_0
          replace p447 := eq_true p447
          replace q447 := eq_true q447
          have p448 : 0 ≤ (x3_1 : Int) := of_decide_eq_true (by first | (with_reducible assumption) | assumption)
          have q448 : x3_1 < (l0_2.length : Int) := of_decide_eq_true (by first | (with_reducible assumption) | assumption)
          obtain ⟨ad448, e448, hx448_0⟩ := Kd.at_string HR0_2.out x3_1 p448 q448
          obtain rfl : ad446 = ad448 := (by injection e448)
          replace hx448_0 := (HB.out.cell (World.block_lt_of_cell? w _ hx448_0)).trans hx448_0
          replace p448 := eq_true p448
          replace q448 := eq_true q448
          have p12 : 0 ≤ (x4_2 : Int) := of_decide_eq_true (by first | (with_reducible assumption) | assumption)
          have q12 : x4_2 < ((rdOf ByteArray.empty l0_2 x3_1).size : Int) := of_decide_eq_true (by first | (with_reducible assumption) | assumption)
          have hx12 := bt_at (rdOf ByteArray.empty l0_2 x3_1) x4_2
          replace p12 := eq_true p12
          replace q12 := eq_true q12
          have p449 : 0 ≤ (x3_1 : Int) := of_decide_eq_true (by first | (with_reducible assumption) | assumption)
          have q449 : x3_1 < (l0_2.length : Int) := of_decide_eq_true (by first | (with_reducible assumption) | assumption)
          obtain ⟨ad449, e449, hx449_0⟩ := Kd.at_string HR0_2.out x3_1 p449 q449
          obtain rfl : ad446 = ad449 := (by injection e449)
          replace hx449_0 := (HB.out.cell (World.block_lt_of_cell? w _ hx449_0)).trans hx449_0
          replace p449 := eq_true p449
          replace q449 := eq_true q449
          have p15 : 0 ≤ (x4_2 : Int) := of_decide_eq_true (by first | (with_reducible assumption) | assumption)
          have q15 : x4_2 < ((rdOf ByteArray.empty l0_2 x3_1).size : Int) := of_decide_eq_true (by first | (with_reducible assumption) | assumption)
          have hx15 := bt_at (rdOf ByteArray.empty l0_2 x3_1) x4_2
          replace p15 := eq_true p15
          replace q15 := eq_true q15
          go_wp2
          go_roundg k2
          case measure => have := HK1.out; have := HK2.out; omega
          case rel => exact ⟨(wrap64 (x4_2 + 1)), (by first | rfl | (simp; done) | (simp [*]; done)), H', ⟨by have := HK1.out; have := HK2.out; omega⟩, ⟨by (with_reducible repeat (first | refine blk_drewN ?_ _ | refine blk_drew ?_ | refine blk_alloc ?_ _)); exact BK445.out⟩, ⟨by repeat (first | (with_reducible first | exact HB.out | apply below_alloc | apply pw_below_drewN | apply below_drew1 | refine below_set ?_ GE445.out) | exact HB.out)⟩⟩
end Go.Proofs.YtjcajpkgamolkaaDoor.PTyp
