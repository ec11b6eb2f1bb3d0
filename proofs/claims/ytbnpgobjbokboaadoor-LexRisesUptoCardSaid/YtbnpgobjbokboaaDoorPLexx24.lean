/- Contracts: gussetlaw04_LexRises. -/
import Derived.Test.YtbnpgobjbokboaaDoorPLexx0
import Derived.Test.YtbnpgobjbokboaaDoorPLexx5
import Derived.Test.YtbnpgobjbokboaaDoorPLexx8
namespace Go.Proofs.YtbnpgobjbokboaaDoor.PLex
open Go.RowKit Go.Proofs.YtbnpgobjbokboaaDoorW.PrintWords Go.Proofs.YtbnpgobjbokboaaDoorW.PrintLast Go.Proofs.YtbnpgobjbokboaaDoorW.PrintMore
attribute [local go_sem] max2_int min2_int max_two min_two max_three min_three max_four min_four   -- for this text's walks alone
set_option linter.unusedVariables false
set_option linter.unusedSimpArgs false

/-! ### gussetlaw04_LexRises: function 7 -/
mutual
def gussetlaw04_LexRises.l0 : Nat → ByteArray → List (S36) → Int → Int → Int → Option (Bool)
 | 0, _, _, _, _, _ => none
 | k + 1, x0, x5, x6, x8, x9 => if x9 < (x5.length : Int) then (if 0 ≤ x9 then (if ((rd_T36 x5 x9).f3) ≤ x8 then (gussetlaw04_LexRises.j1 k x0 x5 x6 x9 true ((rd_T36 x5 x9).f0) ((rd_T36 x5 x9).f1) ((rd_T36 x5 x9).f2) ((rd_T36 x5 x9).f3)) else (if ((rd_T36 x5 x9).f3) ≥ (x0.size : Int) then (gussetlaw04_LexRises.j1 k x0 x5 x6 x9 true ((rd_T36 x5 x9).f0) ((rd_T36 x5 x9).f1) ((rd_T36 x5 x9).f2) ((rd_T36 x5 x9).f3)) else (if 0 ≤ ((rd_T36 x5 x9).f3) then (if ((rd_T36 x5 x9).f3) < (x0.size : Int) then (gussetlaw04_LexRises.j1 k x0 x5 x6 x9 (decide ((bt x0 ((rd_T36 x5 x9).f3)) ≤ 32)) ((rd_T36 x5 x9).f0) ((rd_T36 x5 x9).f1) ((rd_T36 x5 x9).f2) ((rd_T36 x5 x9).f3)) else (none)) else (none)))) else (none)) else (if x6 = 0 then ((gussetlaw04_sure.f k).bind fun t532 => (some t532)) else (some false))
def gussetlaw04_LexRises.j1 : Nat → ByteArray → List (S36) → Int → Int → Bool → Int → ByteArray → Int → Int → Option (Bool)
 | 0, _, _, _, _, _, _, _, _, _ => none
 | k + 1, x0, x5, x6, x9, x58, x535000, x535001, x535002, x535003 => if x58 = true then (some false) else (if x535000 = 1 then (gussetlaw04_LexRises.j2 k x0 x5 x6 x9 true x535000 x535001 x535002 x535003) else (if x535000 = 2 then (gussetlaw04_LexRises.j2 k x0 x5 x6 x9 true x535000 x535001 x535002 x535003) else (gussetlaw04_LexRises.j2 k x0 x5 x6 x9 (x535000 == 5) x535000 x535001 x535002 x535003)))
def gussetlaw04_LexRises.j2 : Nat → ByteArray → List (S36) → Int → Int → Bool → Int → ByteArray → Int → Int → Option (Bool)
 | 0, _, _, _, _, _, _, _, _, _ => none
 | k + 1, x0, x5, x6, x9, x71, x535000, x535001, x535002, x535003 => if x71 = true then (if (wrap64 ((x0.size : Int) - x535003)) < (x535001.size : Int) then (some false) else (if 0 ≤ x535003 then (if x535003 ≤ (wrap64 (x535003 + (x535001.size : Int))) then (if (wrap64 (x535003 + (x535001.size : Int))) ≤ (x0.size : Int) then (if (x0.extract (x535003 : Int).toNat ((wrap64 (x535003 + (x535001.size : Int))) : Int).toNat).toList = x535001.toList then (gussetlaw04_LexRises.l0 k x0 x5 x6 (wrap64 ((wrap64 (x535003 + (x535001.size : Int))) - 1)) (wrap64 (x9 + 1))) else (some false)) else (none)) else (none)) else (none))) else (gussetlaw04_LexRises.l0 k x0 x5 x6 x535003 (wrap64 (x9 + 1)))
end
def gussetlaw04_LexRises.f (k : Nat) (a0 : ByteArray) (a1 : Bool) : Option (Bool) := (lex_Lex.f k a0 a1).bind fun bt526 => (if bt526.2.2 = 0 then (gussetlaw04_LexRises.l0 k a0 bt526.1 bt526.2.1 (-1) 0) else (if bt526.2.1 ≥ 0 then (if bt526.2.1 < (a0.size : Int) then ((gussetlaw04_sure.f k).bind fun t531 => (some t531)) else (some false)) else (some false)))
theorem gussetlaw04_LexRises.mono_l : ∀ k, (∀ y0 y1 y2 y3 y4, LeO (gussetlaw04_LexRises.l0 k y0 y1 y2 y3 y4) (gussetlaw04_LexRises.l0 (k + 1) y0 y1 y2 y3 y4)) ∧ (∀ y0 y1 y2 y3 y4 y5 y6 y7 y8, LeO (gussetlaw04_LexRises.j1 k y0 y1 y2 y3 y4 y5 y6 y7 y8) (gussetlaw04_LexRises.j1 (k + 1) y0 y1 y2 y3 y4 y5 y6 y7 y8)) ∧ (∀ y0 y1 y2 y3 y4 y5 y6 y7 y8, LeO (gussetlaw04_LexRises.j2 k y0 y1 y2 y3 y4 y5 y6 y7 y8) (gussetlaw04_LexRises.j2 (k + 1) y0 y1 y2 y3 y4 y5 y6 y7 y8))
 | 0 => ⟨fun _ _ _ _ _ r h => by simp [gussetlaw04_LexRises.l0] at h, fun _ _ _ _ _ _ _ _ _ r h => by simp [gussetlaw04_LexRises.j1] at h, fun _ _ _ _ _ _ _ _ _ r h => by simp [gussetlaw04_LexRises.j2] at h⟩
 | k + 1 => by
  obtain ⟨ih0, ih1, ih2⟩ := gussetlaw04_LexRises.mono_l k
  refine ⟨?_, ?_, ?_⟩
  ·
   intro y0 y1 y2 y3 y4
   unfold gussetlaw04_LexRises.l0
   repeat' first
   | (with_reducible exact ih0 _ _ _ _ _)
   | (with_reducible exact ih1 _ _ _ _ _ _ _ _ _)
   | (with_reducible exact ih2 _ _ _ _ _ _ _ _ _)
   | (with_reducible exact gussetlaw04_sure.mono _)
   | (with_reducible exact lex_Lex.mono _ _ _)
   | (with_reducible exact LeO.refl _)
   | (with_reducible exact LeO.none _)
   | (with_reducible refine LeO.ite ?_ ?_)
   | (with_reducible refine LeO.bind ?_ (fun _ => ?_))
   | exact ih0 _ _ _ _ _
   | exact ih1 _ _ _ _ _ _ _ _ _
   | exact ih2 _ _ _ _ _ _ _ _ _
   | exact gussetlaw04_sure.mono _
   | exact lex_Lex.mono _ _ _
   | exact LeO.none _
   | refine LeO.ite ?_ ?_
   | refine LeO.bind ?_ (fun _ => ?_)
  ·
   intro y0 y1 y2 y3 y4 y5 y6 y7 y8
   unfold gussetlaw04_LexRises.j1
   repeat' first
   | (with_reducible exact ih0 _ _ _ _ _)
   | (with_reducible exact ih1 _ _ _ _ _ _ _ _ _)
   | (with_reducible exact ih2 _ _ _ _ _ _ _ _ _)
   | (with_reducible exact gussetlaw04_sure.mono _)
   | (with_reducible exact lex_Lex.mono _ _ _)
   | (with_reducible exact LeO.refl _)
   | (with_reducible exact LeO.none _)
   | (with_reducible refine LeO.ite ?_ ?_)
   | (with_reducible refine LeO.bind ?_ (fun _ => ?_))
   | exact ih0 _ _ _ _ _
   | exact ih1 _ _ _ _ _ _ _ _ _
   | exact ih2 _ _ _ _ _ _ _ _ _
   | exact gussetlaw04_sure.mono _
   | exact lex_Lex.mono _ _ _
   | exact LeO.none _
   | refine LeO.ite ?_ ?_
   | refine LeO.bind ?_ (fun _ => ?_)
  ·
   intro y0 y1 y2 y3 y4 y5 y6 y7 y8
   unfold gussetlaw04_LexRises.j2
   repeat' first
   | (with_reducible exact ih0 _ _ _ _ _)
   | (with_reducible exact ih1 _ _ _ _ _ _ _ _ _)
   | (with_reducible exact ih2 _ _ _ _ _ _ _ _ _)
   | (with_reducible exact gussetlaw04_sure.mono _)
   | (with_reducible exact lex_Lex.mono _ _ _)
   | (with_reducible exact LeO.refl _)
   | (with_reducible exact LeO.none _)
   | (with_reducible refine LeO.ite ?_ ?_)
   | (with_reducible refine LeO.bind ?_ (fun _ => ?_))
   | exact ih0 _ _ _ _ _
   | exact ih1 _ _ _ _ _ _ _ _ _
   | exact ih2 _ _ _ _ _ _ _ _ _
   | exact gussetlaw04_sure.mono _
   | exact lex_Lex.mono _ _ _
   | exact LeO.none _
   | refine LeO.ite ?_ ?_
   | refine LeO.bind ?_ (fun _ => ?_)
theorem gussetlaw04_LexRises.mono : ∀ a0 a1 k, LeO (gussetlaw04_LexRises.f k a0 a1) (gussetlaw04_LexRises.f (k + 1) a0 a1) := by
 intro a0 a1 k
 obtain ⟨ih0, ih1, ih2⟩ := gussetlaw04_LexRises.mono_l k
 unfold gussetlaw04_LexRises.f
 repeat' first
   | (with_reducible exact ih0 _ _ _ _ _)
   | (with_reducible exact ih1 _ _ _ _ _ _ _ _ _)
   | (with_reducible exact ih2 _ _ _ _ _ _ _ _ _)
   | (with_reducible exact gussetlaw04_sure.mono _)
   | (with_reducible exact lex_Lex.mono _ _ _)
   | (with_reducible exact LeO.refl _)
   | (with_reducible exact LeO.none _)
   | (with_reducible refine LeO.ite ?_ ?_)
   | (with_reducible refine LeO.bind ?_ (fun _ => ?_))
   | exact ih0 _ _ _ _ _
   | exact ih1 _ _ _ _ _ _ _ _ _
   | exact ih2 _ _ _ _ _ _ _ _ _
   | exact gussetlaw04_sure.mono _
   | exact lex_Lex.mono _ _ _
   | exact LeO.none _
   | refine LeO.ite ?_ ?_
   | refine LeO.bind ?_ (fun _ => ?_)
set_option maxHeartbeats 8000000 in
set_option maxRecDepth 100000 in
theorem gussetlaw04_LexRises.calls (k : Nat) (a0 : ByteArray) (a1 : Bool) (r : Bool) (w : World) [GW w] (h : gussetlaw04_LexRises.f k a0 a1 = some r) :
  Calls Tryd.prog 7 #[.string a0, .bool a1] w fun e w' => e = .returned (.bool r) ∧ Below w.heap.size w w' := by
 have hu36 := Tryd.underlying36
 have HB := Aside0.mk (Below.refl w.heap.size w)
 have H : ((lex_Lex.f k a0 a1).bind fun bt526 => (if bt526.2.2 = 0 then (gussetlaw04_LexRises.l0 k a0 bt526.1 bt526.2.1 (-1) 0) else (if bt526.2.1 ≥ 0 then (if bt526.2.1 < (a0.size : Int) then ((gussetlaw04_sure.f k).bind fun t531 => (some t531)) else (some false)) else (some false)))) = some r := h
 clear h
 replace H := Option.bind_eq_some_iff.mp H
 obtain ⟨⟨t526, t527, t528⟩, A30, H⟩ := H
 replace H : (if t528 = 0 then (gussetlaw04_LexRises.l0 k a0 t526 t527 (-1) 0) else (if t527 ≥ 0 then (if t527 < (a0.size : Int) then ((gussetlaw04_sure.f k).bind fun t531 => (some t531)) else (some false)) else (some false))) = some r := H
 have A3 := Aside0.mk A30
 clear A30
 by_cases c4 : t528 = 0
 ·
  rw [if_pos c4] at H
  have c4b0 : (t528 == 0) = true := beq_iff_eq.mpr c4
  have c4b1 : (t528 != 0) = false := bne_eq_false_iff_eq.mpr c4
  clear c4
  have H' := Aside0.mk H
  clear H
  go_enter Tryd.func7, Tryd.ntmps7
  go_wp2_with (first | (go_at_call 10; (with_reducible refine (lex_Lex.calls k a0 a1 t526 t527 t528 _ A3.out).mono ?_); rintro e w5 ⟨v529, rfl, ho0, hb⟩; have n0_ := Aside0.mk (Kd.R_lower ho0 (below_size (by repeat (first | (with_reducible first | exact HB.out | apply below_alloc | apply pw_below_drewN | apply below_drew1) | exact HB.out)))); have n1_ := Aside0.mk (below_step (by repeat (first | (with_reducible first | exact HB.out | apply below_alloc | apply pw_below_drewN | apply below_drew1) | exact HB.out)) hb); clear HB; have HO530 := n0_; have HB := n1_; haveI := GW.of HB.out; clear n0_ n1_; (try clear hb); (try clear hb2); (try clear hk); (try clear hi); (try clear ho0)))
  repeat (go_quiet (first | (go_at_call 10; (with_reducible refine (lex_Lex.calls k a0 a1 t526 t527 t528 _ A3.out).mono ?_); rintro e w5 ⟨v529, rfl, ho0, hb⟩; have n0_ := Aside0.mk (Kd.R_lower ho0 (below_size (by repeat (first | (with_reducible first | exact HB.out | apply below_alloc | apply pw_below_drewN | apply below_drew1) | exact HB.out)))); have n1_ := Aside0.mk (below_step (by repeat (first | (with_reducible first | exact HB.out | apply below_alloc | apply pw_below_drewN | apply below_drew1) | exact HB.out)) hb); clear HB; have HO530 := n0_; have HB := n1_; haveI := GW.of HB.out; clear n0_ n1_; (try clear hb); (try clear hb2); (try clear hk); (try clear hi); (try clear ho0))); try go_wp2_with (first | (go_at_call 10; (with_reducible refine (lex_Lex.calls k a0 a1 t526 t527 t528 _ A3.out).mono ?_); rintro e w5 ⟨v529, rfl, ho0, hb⟩; have n0_ := Aside0.mk (Kd.R_lower ho0 (below_size (by repeat (first | (with_reducible first | exact HB.out | apply below_alloc | apply pw_below_drewN | apply below_drew1) | exact HB.out)))); have n1_ := Aside0.mk (below_step (by repeat (first | (with_reducible first | exact HB.out | apply below_alloc | apply pw_below_drewN | apply below_drew1) | exact HB.out)) hb); clear HB; have HO530 := n0_; have HB := n1_; haveI := GW.of HB.out; clear n0_ n1_; (try clear hb); (try clear hb2); (try clear hk); (try clear hi); (try clear ho0))))
  go_loopg [8, 9] k (fun kq v8 v9 w' => ∃ (x8_1 : Int) (x9_1 : Int), v8 = .int .i64 x8_1 ∧ v9 = .int .i64 x9_1 ∧ Aside0 (gussetlaw04_LexRises.l0 kq a0 t526 t527 x8_1 x9_1 = some r) ∧ Aside0 (kq ≤ k) ∧ Aside0 (Kd.R k36 36 w' w.heap.size (fun _ => True) v529 t526) ∧ Aside0 (Below w.heap.size w w'))
  case atStart => exact ⟨((-1)), (0), (by first | rfl | (simp; done) | (simp [*]; done)), (by first | rfl | (simp; done) | (simp [*]; done)), H', ⟨Nat.le_refl _⟩, ⟨by (with_reducible repeat (first | apply Kd.R_alloc | apply Kd.R_drewN | apply Kd.R_drew)); first | exact HO530.out | exact Kd.R_mono HO530.out (fun k_ hk_ h_ => hk_ (h_.trans (ownLen _ _ _ _ _)))⟩, ⟨by repeat (first | (with_reducible first | exact HB.out | apply below_alloc | apply pw_below_drewN | apply below_drew1) | exact HB.out)⟩⟩
  case round =>
   clear H'
   try clear p2
   try clear c4
   try clear c4b0
   try clear c4b1
   obtain ⟨x8_1, x9_1, rfl, rfl, HA, HK1, HO_5, HB⟩ := hrel; haveI := GW.of HB.out
   cases gk with
   | zero => exact absurd HA.out (by simp [gussetlaw04_LexRises.l0])
   | succ k1 =>
    have H := HA.out
    clear HA
    simp only [gussetlaw04_LexRises.l0] at H
    by_cases c6 : x9_1 < (t526.length : Int)
    ·
     rw [if_pos c6] at H
     have c6b0 : decide (x9_1 < (t526.length : Int)) = true := decide_eq_true c6
     clear c6
     by_cases c7 : 0 ≤ x9_1
     ·
      rw [if_pos c7] at H
      have c7b0 : decide (0 ≤ x9_1) = true := decide_eq_true c7
      clear c7
      have HC8 := Aside0.mk H
      clear H
      obtain ⟨Ao9, co9, eo9⟩ := Kd.R_slice HO_5.out
      subst eo9
      have p533 : 0 ≤ (x9_1 : Int) := of_decide_eq_true (by first | (with_reducible assumption) | assumption)
      have q533 : x9_1 < (t526.length : Int) := of_decide_eq_true (by first | (with_reducible assumption) | assumption)
      obtain ⟨ad533, e533, hx533_0, hx533_1, hx533_2, hx533_3⟩ := at_T36 (Kd.R_reads' HO_5.out).2.2 x9_1 p533 q533
      cases e533
      replace p533 := eq_true p533
      replace q533 := eq_true q533
      go_upto_region 9 with (first | ((with_reducible refine gate_dst (N := 10) rfl ?_); (try (refine gate_guard (by rfl) ?_; dsimp only)); refine box_event ?hg (N := 10) ?hd (cs := #[.int .i64 0, .string (⟨#[]⟩ : ByteArray), .int .i64 0, .int .i64 0]) (t := 36) ?hr ?_; (case hd => rfl); (case hg => rfl); (case hr => first | (go_simp; done) | (go_simp; rfl)); intro gb534 hg w10 hbox hb; have n0_ := Aside0.mk (Kd.R_below (Kd.R_elderB (by (with_reducible repeat (first | apply Kd.R_alloc | apply Kd.R_drewN | apply Kd.R_drew)); exact HO_5.out) gb534 (Nat.le_of_eq hg.symm)) hb); have n1_ := Aside0.mk (below_step (by repeat (first | (with_reducible first | exact HB.out | apply below_alloc | apply pw_below_drewN | apply below_drew1) | exact HB.out)) hb); have n2_ := Aside0.mk (hbox); have n3_ := Aside0.mk ((by rw [hg]; exact (below_size (by repeat (first | (with_reducible first | exact HB.out | apply below_alloc | apply pw_below_drewN | apply below_drew1) | exact HB.out))) : w.heap.size ≤ gb534)); have n4_ := Aside0.mk ((by rw [hg]; exact (below_size (by repeat (first | (with_reducible first | exact HB.out | apply below_alloc | apply pw_below_drewN | apply below_drew1) | exact HB.out))) : w.heap.size ≤ gb534)); clear HO_5; clear HB; have HO_5 := n0_; have HB := n1_; haveI := GW.of HB.out; have BK534 := n2_; have GW534 := n3_; have GE534 := n4_; clear n0_ n1_ n2_ n3_ n4_; clear hb hbox hg; have hcz11_0 : w10.cell? ⟨gb534, 0, none⟩ = some (.int .i64 0) := (blk_cell BK534.out 0).trans rfl; have hcz11_1 : w10.cell? ⟨gb534, 1, none⟩ = some (.string (⟨#[]⟩ : ByteArray)) := (blk_cell BK534.out 1).trans rfl; have hcz11_2 : w10.cell? ⟨gb534, 2, none⟩ = some (.int .i64 0) := (blk_cell BK534.out 2).trans rfl; have hcz11_3 : w10.cell? ⟨gb534, 3, none⟩ = some (.int .i64 0) := (blk_cell BK534.out 3).trans rfl; have hfz11_0 := blk_frozen BK534.out 0; have hfz11_1 := blk_frozen BK534.out 1; have hfz11_2 := blk_frozen BK534.out 2; have hfz11_3 := blk_frozen BK534.out 3))
      repeat (go_quiet (first | ((with_reducible refine gate_dst (N := 10) rfl ?_); (try (refine gate_guard (by rfl) ?_; dsimp only)); refine box_event ?hg (N := 10) ?hd (cs := #[.int .i64 0, .string (⟨#[]⟩ : ByteArray), .int .i64 0, .int .i64 0]) (t := 36) ?hr ?_; (case hd => rfl); (case hg => rfl); (case hr => first | (go_simp; done) | (go_simp; rfl)); intro gb534 hg w10 hbox hb; have n0_ := Aside0.mk (Kd.R_below (Kd.R_elderB (by (with_reducible repeat (first | apply Kd.R_alloc | apply Kd.R_drewN | apply Kd.R_drew)); exact HO_5.out) gb534 (Nat.le_of_eq hg.symm)) hb); have n1_ := Aside0.mk (below_step (by repeat (first | (with_reducible first | exact HB.out | apply below_alloc | apply pw_below_drewN | apply below_drew1) | exact HB.out)) hb); have n2_ := Aside0.mk (hbox); have n3_ := Aside0.mk ((by rw [hg]; exact (below_size (by repeat (first | (with_reducible first | exact HB.out | apply below_alloc | apply pw_below_drewN | apply below_drew1) | exact HB.out))) : w.heap.size ≤ gb534)); have n4_ := Aside0.mk ((by rw [hg]; exact (below_size (by repeat (first | (with_reducible first | exact HB.out | apply below_alloc | apply pw_below_drewN | apply below_drew1) | exact HB.out))) : w.heap.size ≤ gb534)); clear HO_5; clear HB; have HO_5 := n0_; have HB := n1_; haveI := GW.of HB.out; have BK534 := n2_; have GW534 := n3_; have GE534 := n4_; clear n0_ n1_ n2_ n3_ n4_; clear hb hbox hg; have hcz11_0 : w10.cell? ⟨gb534, 0, none⟩ = some (.int .i64 0) := (blk_cell BK534.out 0).trans rfl; have hcz11_1 : w10.cell? ⟨gb534, 1, none⟩ = some (.string (⟨#[]⟩ : ByteArray)) := (blk_cell BK534.out 1).trans rfl; have hcz11_2 : w10.cell? ⟨gb534, 2, none⟩ = some (.int .i64 0) := (blk_cell BK534.out 2).trans rfl; have hcz11_3 : w10.cell? ⟨gb534, 3, none⟩ = some (.int .i64 0) := (blk_cell BK534.out 3).trans rfl; have hfz11_0 := blk_frozen BK534.out 0; have hfz11_1 := blk_frozen BK534.out 1; have hfz11_2 := blk_frozen BK534.out 2; have hfz11_3 := blk_frozen BK534.out 3)); go_upto_region 9 with (first | ((with_reducible refine gate_dst (N := 10) rfl ?_); (try (refine gate_guard (by rfl) ?_; dsimp only)); refine box_event ?hg (N := 10) ?hd (cs := #[.int .i64 0, .string (⟨#[]⟩ : ByteArray), .int .i64 0, .int .i64 0]) (t := 36) ?hr ?_; (case hd => rfl); (case hg => rfl); (case hr => first | (go_simp; done) | (go_simp; rfl)); intro gb534 hg w10 hbox hb; have n0_ := Aside0.mk (Kd.R_below (Kd.R_elderB (by (with_reducible repeat (first | apply Kd.R_alloc | apply Kd.R_drewN | apply Kd.R_drew)); exact HO_5.out) gb534 (Nat.le_of_eq hg.symm)) hb); have n1_ := Aside0.mk (below_step (by repeat (first | (with_reducible first | exact HB.out | apply below_alloc | apply pw_below_drewN | apply below_drew1) | exact HB.out)) hb); have n2_ := Aside0.mk (hbox); have n3_ := Aside0.mk ((by rw [hg]; exact (below_size (by repeat (first | (with_reducible first | exact HB.out | apply below_alloc | apply pw_below_drewN | apply below_drew1) | exact HB.out))) : w.heap.size ≤ gb534)); have n4_ := Aside0.mk ((by rw [hg]; exact (below_size (by repeat (first | (with_reducible first | exact HB.out | apply below_alloc | apply pw_below_drewN | apply below_drew1) | exact HB.out))) : w.heap.size ≤ gb534)); clear HO_5; clear HB; have HO_5 := n0_; have HB := n1_; haveI := GW.of HB.out; have BK534 := n2_; have GW534 := n3_; have GE534 := n4_; clear n0_ n1_ n2_ n3_ n4_; clear hb hbox hg; have hcz11_0 : w10.cell? ⟨gb534, 0, none⟩ = some (.int .i64 0) := (blk_cell BK534.out 0).trans rfl; have hcz11_1 : w10.cell? ⟨gb534, 1, none⟩ = some (.string (⟨#[]⟩ : ByteArray)) := (blk_cell BK534.out 1).trans rfl; have hcz11_2 : w10.cell? ⟨gb534, 2, none⟩ = some (.int .i64 0) := (blk_cell BK534.out 2).trans rfl; have hcz11_3 : w10.cell? ⟨gb534, 3, none⟩ = some (.int .i64 0) := (blk_cell BK534.out 3).trans rfl; have hfz11_0 := blk_frozen BK534.out 0; have hfz11_1 := blk_frozen BK534.out 1; have hfz11_2 := blk_frozen BK534.out 2; have hfz11_3 := blk_frozen BK534.out 3)))
      (try simp only [Act.put, List.setIfInBounds_toArray, List.set_cons_zero, List.set_cons_succ])
      go_cut [58] (fun v58 wc => ∃ (kq : Nat) (x58_7 : Bool), v58 = .bool x58_7 ∧ Aside0 (gussetlaw04_LexRises.j1 kq a0 t526 t527 x9_1 x58_7 ((rd_T36 t526 x9_1).f0) ((rd_T36 t526 x9_1).f1) ((rd_T36 t526 x9_1).f2) ((rd_T36 t526 x9_1).f3) = some r) ∧ Aside0 (kq ≤ k1) ∧ Aside0 (Kd.R k36 36 wc w.heap.size (fun k_ => k_ ≠ gb534) (.slice (some ad533) t526.length co9) t526) ∧ Aside0 (wc.heap[gb534]? = some (.cells #[.int .i64 ((rd_T36 t526 x9_1).f0), .string ((rd_T36 t526 x9_1).f1), .int .i64 ((rd_T36 t526 x9_1).f2), .int .i64 ((rd_T36 t526 x9_1).f3)] 36 (0, 0))) ∧ Aside0 (Below w.heap.size w wc))
      case first =>
       have H := HC8.out
       clear HC8
       by_cases c12 : ((rd_T36 t526 x9_1).f3) ≤ x8_1
       ·
        rw [if_pos c12] at H
        have c12b0 : decide (((rd_T36 t526 x9_1).f3) ≤ x8_1) = true := decide_eq_true c12
        clear c12
        (first | rw [c12b0] | (simp only [i64_w, i32_w]; rw [c12b0]) | skip)
        have H' := Aside0.mk H
        clear H
        have hcz13_0 : w10.cell? ⟨gb534, 0, none⟩ = some (.int .i64 0) := (blk_cell BK534.out 0).trans rfl
        have hcz13_1 : w10.cell? ⟨gb534, 1, none⟩ = some (.string (⟨#[]⟩ : ByteArray)) := (blk_cell BK534.out 1).trans rfl
        have hcz13_2 : w10.cell? ⟨gb534, 2, none⟩ = some (.int .i64 0) := (blk_cell BK534.out 2).trans rfl
        have hcz13_3 : w10.cell? ⟨gb534, 3, none⟩ = some (.int .i64 0) := (blk_cell BK534.out 3).trans rfl
        have hfz13_0 := blk_frozen BK534.out 0
        have hfz13_1 := blk_frozen BK534.out 1
        have hfz13_2 := blk_frozen BK534.out 2
        have hfz13_3 := blk_frozen BK534.out 3
        go_wp2
        repeat (go_quiet (fail); try go_wp2)
        go_meet
        case rel => exact ⟨_, (true), (by first | rfl | (simp; done) | (simp [*]; done)), H', ⟨by have := HK1.out; first | omega | exact Nat.le_refl _⟩, ⟨by (with_reducible repeat (first | apply Kd.R_alloc | apply Kd.R_drewN | apply Kd.R_drew)); exact Kd.R_mono (Kd.R_far (p := ⟨gb534, 3, none⟩) (Kd.R_far (p := ⟨gb534, 2, none⟩) (Kd.R_far (p := ⟨gb534, 1, none⟩) (Kd.R_far (p := ⟨gb534, 0, none⟩) (Kd.R_mono HO_5.out (fun k_ hk => (⟨hk, hk.2⟩ : _ ∧ k_ ≠ gb534))) (fun _ hk => hk.2) (.int .i64 ((rd_T36 t526 x9_1).f0))) (fun _ hk => hk.2) (.string ((rd_T36 t526 x9_1).f1))) (fun _ hk => hk.2) (.int .i64 ((rd_T36 t526 x9_1).f2))) (fun _ hk => hk.2) (.int .i64 ((rd_T36 t526 x9_1).f3))) (fun _ hk => hk.1.2)⟩, ⟨by (with_reducible repeat (first | refine blk_drewN ?_ _ | refine blk_drew ?_ | refine blk_alloc ?_ _)); refine blk_put (cs := #[.int .i64 ((rd_T36 t526 x9_1).f0), .string ((rd_T36 t526 x9_1).f1), .int .i64 ((rd_T36 t526 x9_1).f2), .int .i64 0]) ?_ 3 _ rfl; (with_reducible repeat (first | refine blk_drewN ?_ _ | refine blk_drew ?_ | refine blk_alloc ?_ _)); refine blk_put (cs := #[.int .i64 ((rd_T36 t526 x9_1).f0), .string ((rd_T36 t526 x9_1).f1), .int .i64 0, .int .i64 0]) ?_ 2 _ rfl; (with_reducible repeat (first | refine blk_drewN ?_ _ | refine blk_drew ?_ | refine blk_alloc ?_ _)); refine blk_put (cs := #[.int .i64 ((rd_T36 t526 x9_1).f0), .string (⟨#[]⟩ : ByteArray), .int .i64 0, .int .i64 0]) ?_ 1 _ rfl; (with_reducible repeat (first | refine blk_drewN ?_ _ | refine blk_drew ?_ | refine blk_alloc ?_ _)); refine blk_put (cs := #[.int .i64 0, .string (⟨#[]⟩ : ByteArray), .int .i64 0, .int .i64 0]) ?_ 0 _ rfl; (with_reducible repeat (first | refine blk_drewN ?_ _ | refine blk_drew ?_ | refine blk_alloc ?_ _)); exact BK534.out⟩, ⟨by repeat (first | (with_reducible first | exact HB.out | apply below_alloc | apply pw_below_drewN | apply below_drew1 | refine below_set ?_ GE534.out) | exact HB.out)⟩⟩
       ·
        rw [if_neg c12] at H
        have c12b0 : decide (((rd_T36 t526 x9_1).f3) ≤ x8_1) = false := decide_eq_false c12
        clear c12
        (first | rw [c12b0] | (simp only [i64_w, i32_w]; rw [c12b0]) | skip)
        by_cases c14 : ((rd_T36 t526 x9_1).f3) ≥ (a0.size : Int)
        ·
         rw [if_pos c14] at H
         have c14b0 : decide ((a0.size : Int) ≤ ((rd_T36 t526 x9_1).f3)) = true := decide_eq_true c14
         clear c14
         have H' := Aside0.mk H
         clear H
         have hcz15_0 : w10.cell? ⟨gb534, 0, none⟩ = some (.int .i64 0) := (blk_cell BK534.out 0).trans rfl
         have hcz15_1 : w10.cell? ⟨gb534, 1, none⟩ = some (.string (⟨#[]⟩ : ByteArray)) := (blk_cell BK534.out 1).trans rfl
         have hcz15_2 : w10.cell? ⟨gb534, 2, none⟩ = some (.int .i64 0) := (blk_cell BK534.out 2).trans rfl
         have hcz15_3 : w10.cell? ⟨gb534, 3, none⟩ = some (.int .i64 0) := (blk_cell BK534.out 3).trans rfl
         have hfz15_0 := blk_frozen BK534.out 0
         have hfz15_1 := blk_frozen BK534.out 1
         have hfz15_2 := blk_frozen BK534.out 2
         have hfz15_3 := blk_frozen BK534.out 3
         go_wp2
         repeat (go_quiet (fail); try go_wp2)
         go_meet
         case rel => exact ⟨_, (true), (by first | rfl | (simp; done) | (simp [*]; done)), H', ⟨by have := HK1.out; first | omega | exact Nat.le_refl _⟩, ⟨by (with_reducible repeat (first | apply Kd.R_alloc | apply Kd.R_drewN | apply Kd.R_drew)); exact Kd.R_mono (Kd.R_far (p := ⟨gb534, 3, none⟩) (Kd.R_far (p := ⟨gb534, 2, none⟩) (Kd.R_far (p := ⟨gb534, 1, none⟩) (Kd.R_far (p := ⟨gb534, 0, none⟩) (Kd.R_mono HO_5.out (fun k_ hk => (⟨hk, hk.2⟩ : _ ∧ k_ ≠ gb534))) (fun _ hk => hk.2) (.int .i64 ((rd_T36 t526 x9_1).f0))) (fun _ hk => hk.2) (.string ((rd_T36 t526 x9_1).f1))) (fun _ hk => hk.2) (.int .i64 ((rd_T36 t526 x9_1).f2))) (fun _ hk => hk.2) (.int .i64 ((rd_T36 t526 x9_1).f3))) (fun _ hk => hk.1.2)⟩, ⟨by (with_reducible repeat (first | refine blk_drewN ?_ _ | refine blk_drew ?_ | refine blk_alloc ?_ _)); refine blk_put (cs := #[.int .i64 ((rd_T36 t526 x9_1).f0), .string ((rd_T36 t526 x9_1).f1), .int .i64 ((rd_T36 t526 x9_1).f2), .int .i64 0]) ?_ 3 _ rfl; (with_reducible repeat (first | refine blk_drewN ?_ _ | refine blk_drew ?_ | refine blk_alloc ?_ _)); refine blk_put (cs := #[.int .i64 ((rd_T36 t526 x9_1).f0), .string ((rd_T36 t526 x9_1).f1), .int .i64 0, .int .i64 0]) ?_ 2 _ rfl; (with_reducible repeat (first | refine blk_drewN ?_ _ | refine blk_drew ?_ | refine blk_alloc ?_ _)); refine blk_put (cs := #[.int .i64 ((rd_T36 t526 x9_1).f0), .string (⟨#[]⟩ : ByteArray), .int .i64 0, .int .i64 0]) ?_ 1 _ rfl; (with_reducible repeat (first | refine blk_drewN ?_ _ | refine blk_drew ?_ | refine blk_alloc ?_ _)); refine blk_put (cs := #[.int .i64 0, .string (⟨#[]⟩ : ByteArray), .int .i64 0, .int .i64 0]) ?_ 0 _ rfl; (with_reducible repeat (first | refine blk_drewN ?_ _ | refine blk_drew ?_ | refine blk_alloc ?_ _)); exact BK534.out⟩, ⟨by repeat (first | (with_reducible first | exact HB.out | apply below_alloc | apply pw_below_drewN | apply below_drew1 | refine below_set ?_ GE534.out) | exact HB.out)⟩⟩
        ·
         rw [if_neg c14] at H
         have c14b0 : decide ((a0.size : Int) ≤ ((rd_T36 t526 x9_1).f3)) = false := decide_eq_false c14
         clear c14
         by_cases c16 : 0 ≤ ((rd_T36 t526 x9_1).f3)
         ·
          rw [if_pos c16] at H
          have c16b0 : decide (0 ≤ ((rd_T36 t526 x9_1).f3)) = true := decide_eq_true c16
          clear c16
          by_cases c17 : ((rd_T36 t526 x9_1).f3) < (a0.size : Int)
          ·
           rw [if_pos c17] at H
           have c17b0 : decide (((rd_T36 t526 x9_1).f3) < (a0.size : Int)) = true := decide_eq_true c17
           clear c17
           have H' := Aside0.mk H
           clear H
           have hcz19_0 : w10.cell? ⟨gb534, 0, none⟩ = some (.int .i64 0) := (blk_cell BK534.out 0).trans rfl
           have hcz19_1 : w10.cell? ⟨gb534, 1, none⟩ = some (.string (⟨#[]⟩ : ByteArray)) := (blk_cell BK534.out 1).trans rfl
           have hcz19_2 : w10.cell? ⟨gb534, 2, none⟩ = some (.int .i64 0) := (blk_cell BK534.out 2).trans rfl
           have hcz19_3 : w10.cell? ⟨gb534, 3, none⟩ = some (.int .i64 0) := (blk_cell BK534.out 3).trans rfl
           have hfz19_0 := blk_frozen BK534.out 0
           have hfz19_1 := blk_frozen BK534.out 1
           have hfz19_2 := blk_frozen BK534.out 2
           have hfz19_3 := blk_frozen BK534.out 3
           have p18 : 0 ≤ (((rd_T36 t526 x9_1).f3) : Int) := of_decide_eq_true (by first | (with_reducible assumption) | assumption)
           have q18 : ((rd_T36 t526 x9_1).f3) < (a0.size : Int) := of_decide_eq_true (by first | (with_reducible assumption) | assumption)
           have hx18 := bt_at a0 ((rd_T36 t526 x9_1).f3)
           replace p18 := eq_true p18
           replace q18 := eq_true q18
           go_wp2
           repeat (go_quiet (fail); try go_wp2)
           go_meet
           case rel => exact ⟨_, (decide ((bt a0 ((rd_T36 t526 x9_1).f3)) ≤ 32)), (by first | rfl | (simp; done) | (simp [*]; done)), H', ⟨by have := HK1.out; first | omega | exact Nat.le_refl _⟩, ⟨by (with_reducible repeat (first | apply Kd.R_alloc | apply Kd.R_drewN | apply Kd.R_drew)); exact Kd.R_mono (Kd.R_far (p := ⟨gb534, 3, none⟩) (Kd.R_far (p := ⟨gb534, 2, none⟩) (Kd.R_far (p := ⟨gb534, 1, none⟩) (Kd.R_far (p := ⟨gb534, 0, none⟩) (Kd.R_mono HO_5.out (fun k_ hk => (⟨hk, hk.2⟩ : _ ∧ k_ ≠ gb534))) (fun _ hk => hk.2) (.int .i64 ((rd_T36 t526 x9_1).f0))) (fun _ hk => hk.2) (.string ((rd_T36 t526 x9_1).f1))) (fun _ hk => hk.2) (.int .i64 ((rd_T36 t526 x9_1).f2))) (fun _ hk => hk.2) (.int .i64 ((rd_T36 t526 x9_1).f3))) (fun _ hk => hk.1.2)⟩, ⟨by (with_reducible repeat (first | refine blk_drewN ?_ _ | refine blk_drew ?_ | refine blk_alloc ?_ _)); refine blk_put (cs := #[.int .i64 ((rd_T36 t526 x9_1).f0), .string ((rd_T36 t526 x9_1).f1), .int .i64 ((rd_T36 t526 x9_1).f2), .int .i64 0]) ?_ 3 _ rfl; (with_reducible repeat (first | refine blk_drewN ?_ _ | refine blk_drew ?_ | refine blk_alloc ?_ _)); refine blk_put (cs := #[.int .i64 ((rd_T36 t526 x9_1).f0), .string ((rd_T36 t526 x9_1).f1), .int .i64 0, .int .i64 0]) ?_ 2 _ rfl; (with_reducible repeat (first | refine blk_drewN ?_ _ | refine blk_drew ?_ | refine blk_alloc ?_ _)); refine blk_put (cs := #[.int .i64 ((rd_T36 t526 x9_1).f0), .string (⟨#[]⟩ : ByteArray), .int .i64 0, .int .i64 0]) ?_ 1 _ rfl; (with_reducible repeat (first | refine blk_drewN ?_ _ | refine blk_drew ?_ | refine blk_alloc ?_ _)); refine blk_put (cs := #[.int .i64 0, .string (⟨#[]⟩ : ByteArray), .int .i64 0, .int .i64 0]) ?_ 0 _ rfl; (with_reducible repeat (first | refine blk_drewN ?_ _ | refine blk_drew ?_ | refine blk_alloc ?_ _)); exact BK534.out⟩, ⟨by repeat (first | (with_reducible first | exact HB.out | apply below_alloc | apply pw_below_drewN | apply below_drew1 | refine below_set ?_ GE534.out) | exact HB.out)⟩⟩
          ·
           rw [if_neg c17] at H
           exact absurd H (by simp)
         ·
          rw [if_neg c16] at H
          exact absurd H (by simp)
      case rest =>
       clear HC8
       try clear c1
       try clear p1
       try clear q1
       try clear hx1
       try clear p2
       try clear c4
       try clear c4b0
       try clear c4b1
       try clear p5
       try clear q5
       try clear hx5
       try clear c6
       try clear c6b0
       try clear c7
       try clear c7b0
       try clear c12
       try clear c12b0
       try clear c14
       try clear c14b0
       try clear c16
       try clear c16b0
       try clear c17
       try clear c17b0
       try clear p18
       try clear q18
       try clear hx18
       try clear hcz11_0
       try clear hcz11_1
       try clear hcz11_2
       try clear hcz11_3
       try clear hcz13_0
       try clear hcz13_1
       try clear hcz13_2
       try clear hcz13_3
       try clear hcz15_0
       try clear hcz15_1
       try clear hcz15_2
       try clear hcz15_3
       try clear hcz19_0
       try clear hcz19_1
       try clear hcz19_2
       try clear hcz19_3
       try clear hfz11_0
       try clear hfz11_1
       try clear hfz11_2
       try clear hfz11_3
       try clear hfz13_0
       try clear hfz13_1
       try clear hfz13_2
       try clear hfz13_3
       try clear hfz15_0
       try clear hfz15_1
       try clear hfz15_2
       try clear hfz15_3
       try clear hfz19_0
       try clear hfz19_1
       try clear hfz19_2
       try clear hfz19_3
       try clear hx533_0
       try clear hx533_1
       try clear hx533_2
       try clear hx533_3
       try clear p18
       try clear p2
       try clear p533
       try clear q18
       try clear q533
       obtain ⟨kq, x58_7, rfl, HA, HJ7, HO_5, BK534, HB⟩ := hcut; haveI := GW.of HB.out
       cases kq with
       | zero => exact absurd HA.out (by simp [gussetlaw04_LexRises.j1])
       | succ kj7 =>
        have H := HA.out
        clear HA
        simp only [gussetlaw04_LexRises.j1] at H
        by_cases c20 : x58_7 = true
        ·
         subst c20
         have H1 : (some false) = some r := by rw [if_pos rfl] at H; exact H
         clear H
         have H := H1
         clear H1
         obtain rfl := Option.some.inj H
         go_wp2
         repeat (go_quiet (fail); try go_wp2)
         go_ret
         exact ⟨by first | rfl | (simp [errW_none, errW_some] <;> rfl) | (simp [*, errW_none, errW_some] <;> rfl), by repeat (first | (with_reducible first | exact HB.out | apply below_alloc | apply pw_below_drewN | apply below_drew1 | refine below_set ?_ GE534.out) | exact HB.out)⟩
        ·
         replace c20 := Bool.eq_false_iff.mpr c20
         subst c20
         have H1 : (if ((rd_T36 t526 x9_1).f0) = 1 then (gussetlaw04_LexRises.j2 kj7 a0 t526 t527 x9_1 true ((rd_T36 t526 x9_1).f0) ((rd_T36 t526 x9_1).f1) ((rd_T36 t526 x9_1).f2) ((rd_T36 t526 x9_1).f3)) else (if ((rd_T36 t526 x9_1).f0) = 2 then (gussetlaw04_LexRises.j2 kj7 a0 t526 t527 x9_1 true ((rd_T36 t526 x9_1).f0) ((rd_T36 t526 x9_1).f1) ((rd_T36 t526 x9_1).f2) ((rd_T36 t526 x9_1).f3)) else (gussetlaw04_LexRises.j2 kj7 a0 t526 t527 x9_1 (((rd_T36 t526 x9_1).f0) == 5) ((rd_T36 t526 x9_1).f0) ((rd_T36 t526 x9_1).f1) ((rd_T36 t526 x9_1).f2) ((rd_T36 t526 x9_1).f3)))) = some r := by rw [if_neg (show ¬ (false = true) by decide)] at H; exact H
         clear H
         have H := H1
         clear H1
         have HC21 := Aside0.mk H
         clear H
         go_upto_region 11 with (fail)
         repeat (go_quiet (fail); go_upto_region 11 with (fail))
         go_cut [71] (fun v71 wc => ∃ (kq : Nat) (x71_20 : Bool), v71 = .bool x71_20 ∧ Aside0 (gussetlaw04_LexRises.j2 kq a0 t526 t527 x9_1 x71_20 ((rd_T36 t526 x9_1).f0) ((rd_T36 t526 x9_1).f1) ((rd_T36 t526 x9_1).f2) ((rd_T36 t526 x9_1).f3) = some r) ∧ Aside0 (kq ≤ kj7) ∧ Aside0 (Kd.R k36 36 wc w.heap.size (fun k_ => k_ ≠ gb534) (.slice (some ad533) t526.length co9) t526) ∧ Aside0 (wc.heap[gb534]? = some (.cells #[.int .i64 ((rd_T36 t526 x9_1).f0), .string ((rd_T36 t526 x9_1).f1), .int .i64 ((rd_T36 t526 x9_1).f2), .int .i64 ((rd_T36 t526 x9_1).f3)] 36 (0, 0))) ∧ Aside0 (Below w.heap.size w wc))
         case first =>
          have H := HC21.out
          clear HC21
          by_cases c22 : ((rd_T36 t526 x9_1).f0) = 1
          ·
           rw [if_pos c22] at H
           have c22b0 : (((rd_T36 t526 x9_1).f0) == 1) = true := beq_iff_eq.mpr c22
           have c22b1 : (((rd_T36 t526 x9_1).f0) != 1) = false := bne_eq_false_iff_eq.mpr c22
           clear c22
           (first | rw [c22b0] | (simp only [i64_w, i32_w]; rw [c22b0]) | skip)
           have H' := Aside0.mk H
           clear H
           have hcz23_0 : wc.cell? ⟨gb534, 0, none⟩ = some (.int .i64 ((rd_T36 t526 x9_1).f0)) := (blk_cell BK534.out 0).trans rfl
           have hcz23_1 : wc.cell? ⟨gb534, 1, none⟩ = some (.string ((rd_T36 t526 x9_1).f1)) := (blk_cell BK534.out 1).trans rfl
           have hcz23_2 : wc.cell? ⟨gb534, 2, none⟩ = some (.int .i64 ((rd_T36 t526 x9_1).f2)) := (blk_cell BK534.out 2).trans rfl
           have hcz23_3 : wc.cell? ⟨gb534, 3, none⟩ = some (.int .i64 ((rd_T36 t526 x9_1).f3)) := (blk_cell BK534.out 3).trans rfl
           have hfz23_0 := blk_frozen BK534.out 0
           have hfz23_1 := blk_frozen BK534.out 1
           have hfz23_2 := blk_frozen BK534.out 2
           have hfz23_3 := blk_frozen BK534.out 3
           go_wp2
           repeat (go_quiet (fail); try go_wp2)
           go_meet
           case rel => exact ⟨_, (true), (by first | rfl | (simp; done) | (simp [*]; done)), H', ⟨by have := HK1.out; have := HJ7.out; first | omega | exact Nat.le_refl _⟩, ⟨by (with_reducible repeat (first | apply Kd.R_alloc | apply Kd.R_drewN | apply Kd.R_drew)); first | exact HO_5.out | exact Kd.R_mono HO_5.out (fun k_ hk_ h_ => hk_ (h_.trans (ownLen _ _ _ _ _)))⟩, ⟨by (with_reducible repeat (first | refine blk_drewN ?_ _ | refine blk_drew ?_ | refine blk_alloc ?_ _)); exact BK534.out⟩, ⟨by repeat (first | (with_reducible first | exact HB.out | apply below_alloc | apply pw_below_drewN | apply below_drew1 | refine below_set ?_ GE534.out) | exact HB.out)⟩⟩
          ·
           rw [if_neg c22] at H
           have c22b0 : (((rd_T36 t526 x9_1).f0) == 1) = false := beq_eq_false_iff_ne.mpr c22
           have c22b1 : (((rd_T36 t526 x9_1).f0) != 1) = true := bne_iff_ne.mpr c22
           (first | rw [c22b0] | (simp only [i64_w, i32_w]; rw [c22b0]) | skip)
           by_cases c24 : ((rd_T36 t526 x9_1).f0) = 2
           ·
            rw [if_pos c24] at H
            have c24b0 : (((rd_T36 t526 x9_1).f0) == 2) = true := beq_iff_eq.mpr c24
            have c24b1 : (((rd_T36 t526 x9_1).f0) != 2) = false := bne_eq_false_iff_eq.mpr c24
            clear c24
            have H' := Aside0.mk H
            clear H
            have hcz25_0 : wc.cell? ⟨gb534, 0, none⟩ = some (.int .i64 ((rd_T36 t526 x9_1).f0)) := (blk_cell BK534.out 0).trans rfl
            have hcz25_1 : wc.cell? ⟨gb534, 1, none⟩ = some (.string ((rd_T36 t526 x9_1).f1)) := (blk_cell BK534.out 1).trans rfl
            have hcz25_2 : wc.cell? ⟨gb534, 2, none⟩ = some (.int .i64 ((rd_T36 t526 x9_1).f2)) := (blk_cell BK534.out 2).trans rfl
            have hcz25_3 : wc.cell? ⟨gb534, 3, none⟩ = some (.int .i64 ((rd_T36 t526 x9_1).f3)) := (blk_cell BK534.out 3).trans rfl
            have hfz25_0 := blk_frozen BK534.out 0
            have hfz25_1 := blk_frozen BK534.out 1
            have hfz25_2 := blk_frozen BK534.out 2
            have hfz25_3 := blk_frozen BK534.out 3
            go_wp2
            repeat (go_quiet (fail); try go_wp2)
            go_meet
            case rel => exact ⟨_, (true), (by first | rfl | (simp; done) | (simp [*]; done)), H', ⟨by have := HK1.out; have := HJ7.out; first | omega | exact Nat.le_refl _⟩, ⟨by (with_reducible repeat (first | apply Kd.R_alloc | apply Kd.R_drewN | apply Kd.R_drew)); first | exact HO_5.out | exact Kd.R_mono HO_5.out (fun k_ hk_ h_ => hk_ (h_.trans (ownLen _ _ _ _ _)))⟩, ⟨by (with_reducible repeat (first | refine blk_drewN ?_ _ | refine blk_drew ?_ | refine blk_alloc ?_ _)); exact BK534.out⟩, ⟨by repeat (first | (with_reducible first | exact HB.out | apply below_alloc | apply pw_below_drewN | apply below_drew1 | refine below_set ?_ GE534.out) | exact HB.out)⟩⟩
           ·
            rw [if_neg c24] at H
            have c24b0 : (((rd_T36 t526 x9_1).f0) == 2) = false := beq_eq_false_iff_ne.mpr c24
            have c24b1 : (((rd_T36 t526 x9_1).f0) != 2) = true := bne_iff_ne.mpr c24
            have H' := Aside0.mk H
            clear H
            have hcz26_0 : wc.cell? ⟨gb534, 0, none⟩ = some (.int .i64 ((rd_T36 t526 x9_1).f0)) := (blk_cell BK534.out 0).trans rfl
            have hcz26_1 : wc.cell? ⟨gb534, 1, none⟩ = some (.string ((rd_T36 t526 x9_1).f1)) := (blk_cell BK534.out 1).trans rfl
            have hcz26_2 : wc.cell? ⟨gb534, 2, none⟩ = some (.int .i64 ((rd_T36 t526 x9_1).f2)) := (blk_cell BK534.out 2).trans rfl
            have hcz26_3 : wc.cell? ⟨gb534, 3, none⟩ = some (.int .i64 ((rd_T36 t526 x9_1).f3)) := (blk_cell BK534.out 3).trans rfl
            have hfz26_0 := blk_frozen BK534.out 0
            have hfz26_1 := blk_frozen BK534.out 1
            have hfz26_2 := blk_frozen BK534.out 2
            have hfz26_3 := blk_frozen BK534.out 3
            go_wp2
            repeat (go_quiet (fail); try go_wp2)
            go_meet
            case rel => exact ⟨_, ((((rd_T36 t526 x9_1).f0) == 5)), (by first | rfl | (simp; done) | (simp [*]; done)), H', ⟨by have := HK1.out; have := HJ7.out; first | omega | exact Nat.le_refl _⟩, ⟨by (with_reducible repeat (first | apply Kd.R_alloc | apply Kd.R_drewN | apply Kd.R_drew)); first | exact HO_5.out | exact Kd.R_mono HO_5.out (fun k_ hk_ h_ => hk_ (h_.trans (ownLen _ _ _ _ _)))⟩, ⟨by (with_reducible repeat (first | refine blk_drewN ?_ _ | refine blk_drew ?_ | refine blk_alloc ?_ _)); exact BK534.out⟩, ⟨by repeat (first | (with_reducible first | exact HB.out | apply below_alloc | apply pw_below_drewN | apply below_drew1 | refine below_set ?_ GE534.out) | exact HB.out)⟩⟩
         case rest =>
          clear HC21
          try clear c1
          try clear p1
          try clear q1
          try clear hx1
          try clear c2
          try clear p2
          try clear c4
          try clear c4b0
          try clear c4b1
          try clear p5
          try clear q5
          try clear hx5
          try clear c6
          try clear c6b0
          try clear c7
          try clear c7b0
          try clear c12
          try clear c12b0
          try clear c14
          try clear c14b0
          try clear c16
          try clear c16b0
          try clear c17
          try clear c17b0
          try clear p18
          try clear q18
          try clear hx18
          try clear c20
          try clear c22
          try clear c22b0
          try clear c22b1
          try clear c24
          try clear c24b0
          try clear c24b1
          try clear hcz11_0
          try clear hcz11_1
          try clear hcz11_2
          try clear hcz11_3
          try clear hcz13_0
          try clear hcz13_1
          try clear hcz13_2
          try clear hcz13_3
          try clear hcz15_0
          try clear hcz15_1
          try clear hcz15_2
          try clear hcz15_3
          try clear hcz19_0
          try clear hcz19_1
          try clear hcz19_2
          try clear hcz19_3
          try clear hcz23_0
          try clear hcz23_1
          try clear hcz23_2
          try clear hcz23_3
          try clear hcz25_0
          try clear hcz25_1
          try clear hcz25_2
          try clear hcz25_3
          try clear hcz26_0
          try clear hcz26_1
          try clear hcz26_2
          try clear hcz26_3
          try clear hfz11_0
          try clear hfz11_1
          try clear hfz11_2
          try clear hfz11_3
          try clear hfz13_0
          try clear hfz13_1
          try clear hfz13_2
          try clear hfz13_3
          try clear hfz15_0
          try clear hfz15_1
          try clear hfz15_2
          try clear hfz15_3
          try clear hfz19_0
          try clear hfz19_1
          try clear hfz19_2
          try clear hfz19_3
          try clear hfz23_0
          try clear hfz23_1
          try clear hfz23_2
          try clear hfz23_3
          try clear hfz25_0
          try clear hfz25_1
          try clear hfz25_2
          try clear hfz25_3
          try clear hfz26_0
          try clear hfz26_1
          try clear hfz26_2
          try clear hfz26_3
          try clear hx533_0
          try clear hx533_1
          try clear hx533_2
          try clear hx533_3
          try clear p1
          try clear p18
          try clear p2
          try clear p5
          try clear p533
          try clear q1
          try clear q18
          try clear q5
          try clear q533
          obtain ⟨kq, x71_20, rfl, HA, HJ20, HO_5, BK534, HB⟩ := hcut; haveI := GW.of HB.out
          cases kq with
          | zero => exact absurd HA.out (by simp [gussetlaw04_LexRises.j2])
          | succ kj20 =>
           have H := HA.out
           clear HA
           simp only [gussetlaw04_LexRises.j2] at H
           by_cases c27 : x71_20 = true
           ·
            subst c27
            have H1 : (if (wrap64 ((a0.size : Int) - ((rd_T36 t526 x9_1).f3))) < (((rd_T36 t526 x9_1).f1).size : Int) then (some false) else (if 0 ≤ ((rd_T36 t526 x9_1).f3) then (if ((rd_T36 t526 x9_1).f3) ≤ (wrap64 (((rd_T36 t526 x9_1).f3) + (((rd_T36 t526 x9_1).f1).size : Int))) then (if (wrap64 (((rd_T36 t526 x9_1).f3) + (((rd_T36 t526 x9_1).f1).size : Int))) ≤ (a0.size : Int) then (if (a0.extract (((rd_T36 t526 x9_1).f3) : Int).toNat ((wrap64 (((rd_T36 t526 x9_1).f3) + (((rd_T36 t526 x9_1).f1).size : Int))) : Int).toNat).toList = ((rd_T36 t526 x9_1).f1).toList then (gussetlaw04_LexRises.l0 kj20 a0 t526 t527 (wrap64 ((wrap64 (((rd_T36 t526 x9_1).f3) + (((rd_T36 t526 x9_1).f1).size : Int))) - 1)) (wrap64 (x9_1 + 1))) else (some false)) else (none)) else (none)) else (none))) = some r := by rw [if_pos rfl] at H; exact H
            clear H
            have H := H1
            clear H1
            by_cases c28 : (wrap64 ((a0.size : Int) - ((rd_T36 t526 x9_1).f3))) < (((rd_T36 t526 x9_1).f1).size : Int)
            ·
             rw [if_pos c28] at H
             have c28b0 : decide ((wrap64 ((a0.size : Int) - ((rd_T36 t526 x9_1).f3))) < (((rd_T36 t526 x9_1).f1).size : Int)) = true := decide_eq_true c28
             clear c28
             obtain rfl := Option.some.inj H
             have hcz29_0 : wc.cell? ⟨gb534, 0, none⟩ = some (.int .i64 ((rd_T36 t526 x9_1).f0)) := (blk_cell BK534.out 0).trans rfl
             have hcz29_1 : wc.cell? ⟨gb534, 1, none⟩ = some (.string ((rd_T36 t526 x9_1).f1)) := (blk_cell BK534.out 1).trans rfl
             have hcz29_2 : wc.cell? ⟨gb534, 2, none⟩ = some (.int .i64 ((rd_T36 t526 x9_1).f2)) := (blk_cell BK534.out 2).trans rfl
             have hcz29_3 : wc.cell? ⟨gb534, 3, none⟩ = some (.int .i64 ((rd_T36 t526 x9_1).f3)) := (blk_cell BK534.out 3).trans rfl
             have hfz29_0 := blk_frozen BK534.out 0
             have hfz29_1 := blk_frozen BK534.out 1
             have hfz29_2 := blk_frozen BK534.out 2
             have hfz29_3 := blk_frozen BK534.out 3
             go_wp2
             repeat (go_quiet (fail); try go_wp2)
             go_ret
             exact ⟨by first | rfl | (simp [errW_none, errW_some] <;> rfl) | (simp [*, errW_none, errW_some] <;> rfl), by repeat (first | (with_reducible first | exact HB.out | apply below_alloc | apply pw_below_drewN | apply below_drew1 | refine below_set ?_ GE534.out) | exact HB.out)⟩
            ·
             rw [if_neg c28] at H
             have c28b0 : decide ((wrap64 ((a0.size : Int) - ((rd_T36 t526 x9_1).f3))) < (((rd_T36 t526 x9_1).f1).size : Int)) = false := decide_eq_false c28
             clear c28
             by_cases c30 : 0 ≤ ((rd_T36 t526 x9_1).f3)
             ·
              rw [if_pos c30] at H
              have c30b0 := eq_true c30
              have c30b1 : decide (0 ≤ ((rd_T36 t526 x9_1).f3)) = true := decide_eq_true c30
              clear c30
              by_cases c31 : ((rd_T36 t526 x9_1).f3) ≤ (wrap64 (((rd_T36 t526 x9_1).f3) + (((rd_T36 t526 x9_1).f1).size : Int)))
              ·
               rw [if_pos c31] at H
               have c31b0 := eq_true c31
               have c31b1 : decide (((rd_T36 t526 x9_1).f3) ≤ (wrap64 (((rd_T36 t526 x9_1).f3) + (((rd_T36 t526 x9_1).f1).size : Int)))) = true := decide_eq_true c31
               by_cases c32 : (wrap64 (((rd_T36 t526 x9_1).f3) + (((rd_T36 t526 x9_1).f1).size : Int))) ≤ (a0.size : Int)
               ·
                rw [if_pos c32] at H
                have c32b0 := eq_true c32
                have c32b1 : decide ((wrap64 (((rd_T36 t526 x9_1).f3) + (((rd_T36 t526 x9_1).f1).size : Int))) ≤ (a0.size : Int)) = true := decide_eq_true c32
                by_cases c33 : (a0.extract (((rd_T36 t526 x9_1).f3) : Int).toNat ((wrap64 (((rd_T36 t526 x9_1).f3) + (((rd_T36 t526 x9_1).f1).size : Int))) : Int).toNat).toList = ((rd_T36 t526 x9_1).f1).toList
                ·
                 rw [if_pos c33] at H
                 have c33b0 : ((a0.extract (((rd_T36 t526 x9_1).f3) : Int).toNat ((wrap64 (((rd_T36 t526 x9_1).f3) + (((rd_T36 t526 x9_1).f1).size : Int))) : Int).toNat).toList == ((rd_T36 t526 x9_1).f1).toList) = true := beq_iff_eq.mpr c33
                 have c33b1 : ((a0.extract (((rd_T36 t526 x9_1).f3) : Int).toNat ((wrap64 (((rd_T36 t526 x9_1).f3) + (((rd_T36 t526 x9_1).f1).size : Int))) : Int).toNat).toList != ((rd_T36 t526 x9_1).f1).toList) = false := bne_eq_false_iff_eq.mpr c33
                 clear c33
                 have H' := Aside0.mk H
                 clear H
                 have hcz34_0 : wc.cell? ⟨gb534, 0, none⟩ = some (.int .i64 ((rd_T36 t526 x9_1).f0)) := (blk_cell BK534.out 0).trans rfl
                 have hcz34_1 : wc.cell? ⟨gb534, 1, none⟩ = some (.string ((rd_T36 t526 x9_1).f1)) := (blk_cell BK534.out 1).trans rfl
                 have hcz34_2 : wc.cell? ⟨gb534, 2, none⟩ = some (.int .i64 ((rd_T36 t526 x9_1).f2)) := (blk_cell BK534.out 2).trans rfl
                 have hcz34_3 : wc.cell? ⟨gb534, 3, none⟩ = some (.int .i64 ((rd_T36 t526 x9_1).f3)) := (blk_cell BK534.out 3).trans rfl
                 have hfz34_0 := blk_frozen BK534.out 0
                 have hfz34_1 := blk_frozen BK534.out 1
                 have hfz34_2 := blk_frozen BK534.out 2
                 have hfz34_3 := blk_frozen BK534.out 3
                 go_wp2
                 repeat (go_quiet (fail); try go_wp2)
                 go_roundg kj20
                 case measure => have := HK1.out; have := HJ7.out; have := HJ20.out; omega
                 case rel => exact ⟨(wrap64 ((wrap64 (((rd_T36 t526 x9_1).f3) + (((rd_T36 t526 x9_1).f1).size : Int))) - 1)), (wrap64 (x9_1 + 1)), (by first | rfl | (simp; done) | (simp [*]; done)), (by first | rfl | (simp; done) | (simp [*]; done)), H', ⟨by have := HK1.out; have := HJ7.out; have := HJ20.out; omega⟩, ⟨by (with_reducible repeat (first | apply Kd.R_alloc | apply Kd.R_drewN | apply Kd.R_drew)); exact Kd.R_mono HO_5.out (fun _ hk => trivial)⟩, ⟨by repeat (first | (with_reducible first | exact HB.out | apply below_alloc | apply pw_below_drewN | apply below_drew1 | refine below_set ?_ GE534.out) | exact HB.out)⟩⟩
                ·
                 rw [if_neg c33] at H
                 have c33b0 : ((a0.extract (((rd_T36 t526 x9_1).f3) : Int).toNat ((wrap64 (((rd_T36 t526 x9_1).f3) + (((rd_T36 t526 x9_1).f1).size : Int))) : Int).toNat).toList == ((rd_T36 t526 x9_1).f1).toList) = false := beq_eq_false_iff_ne.mpr c33
                 have c33b1 : ((a0.extract (((rd_T36 t526 x9_1).f3) : Int).toNat ((wrap64 (((rd_T36 t526 x9_1).f3) + (((rd_T36 t526 x9_1).f1).size : Int))) : Int).toNat).toList != ((rd_T36 t526 x9_1).f1).toList) = true := bne_iff_ne.mpr c33
                 obtain rfl := Option.some.inj H
                 have hcz35_0 : wc.cell? ⟨gb534, 0, none⟩ = some (.int .i64 ((rd_T36 t526 x9_1).f0)) := (blk_cell BK534.out 0).trans rfl
                 have hcz35_1 : wc.cell? ⟨gb534, 1, none⟩ = some (.string ((rd_T36 t526 x9_1).f1)) := (blk_cell BK534.out 1).trans rfl
                 have hcz35_2 : wc.cell? ⟨gb534, 2, none⟩ = some (.int .i64 ((rd_T36 t526 x9_1).f2)) := (blk_cell BK534.out 2).trans rfl
                 have hcz35_3 : wc.cell? ⟨gb534, 3, none⟩ = some (.int .i64 ((rd_T36 t526 x9_1).f3)) := (blk_cell BK534.out 3).trans rfl
                 have hfz35_0 := blk_frozen BK534.out 0
                 have hfz35_1 := blk_frozen BK534.out 1
                 have hfz35_2 := blk_frozen BK534.out 2
                 have hfz35_3 := blk_frozen BK534.out 3
                 go_wp2
                 repeat (go_quiet (fail); try go_wp2)
                 go_ret
                 exact ⟨by first | rfl | (simp [errW_none, errW_some] <;> rfl) | (simp [*, errW_none, errW_some] <;> rfl), by repeat (first | (with_reducible first | exact HB.out | apply below_alloc | apply pw_below_drewN | apply below_drew1 | refine below_set ?_ GE534.out) | exact HB.out)⟩
               ·
                rw [if_neg c32] at H
                exact absurd H (by simp)
              ·
               rw [if_neg c31] at H
               exact absurd H (by simp)
             ·
              rw [if_neg c30] at H
              exact absurd H (by simp)
           ·
            replace c27 := Bool.eq_false_iff.mpr c27
            subst c27
            have H1 : (gussetlaw04_LexRises.l0 kj20 a0 t526 t527 ((rd_T36 t526 x9_1).f3) (wrap64 (x9_1 + 1))) = some r := by rw [if_neg (show ¬ (false = true) by decide)] at H; exact H
            clear H
            have H := H1
            clear H1
            have H' := Aside0.mk H
            clear H
            have hcz36_0 : wc.cell? ⟨gb534, 0, none⟩ = some (.int .i64 ((rd_T36 t526 x9_1).f0)) := (blk_cell BK534.out 0).trans rfl
            have hcz36_1 : wc.cell? ⟨gb534, 1, none⟩ = some (.string ((rd_T36 t526 x9_1).f1)) := (blk_cell BK534.out 1).trans rfl
            have hcz36_2 : wc.cell? ⟨gb534, 2, none⟩ = some (.int .i64 ((rd_T36 t526 x9_1).f2)) := (blk_cell BK534.out 2).trans rfl
            have hcz36_3 : wc.cell? ⟨gb534, 3, none⟩ = some (.int .i64 ((rd_T36 t526 x9_1).f3)) := (blk_cell BK534.out 3).trans rfl
            have hfz36_0 := blk_frozen BK534.out 0
            have hfz36_1 := blk_frozen BK534.out 1
            have hfz36_2 := blk_frozen BK534.out 2
            have hfz36_3 := blk_frozen BK534.out 3
            go_wp2
            repeat (go_quiet (fail); try go_wp2)
            go_roundg kj20
            case measure => have := HK1.out; have := HJ7.out; have := HJ20.out; omega
            case rel => exact ⟨(((rd_T36 t526 x9_1).f3)), (wrap64 (x9_1 + 1)), (by first | rfl | (simp; done) | (simp [*]; done)), (by first | rfl | (simp; done) | (simp [*]; done)), H', ⟨by have := HK1.out; have := HJ7.out; have := HJ20.out; omega⟩, ⟨by (with_reducible repeat (first | apply Kd.R_alloc | apply Kd.R_drewN | apply Kd.R_drew)); exact Kd.R_mono HO_5.out (fun _ hk => trivial)⟩, ⟨by repeat (first | (with_reducible first | exact HB.out | apply below_alloc | apply pw_below_drewN | apply below_drew1 | refine below_set ?_ GE534.out) | exact HB.out)⟩⟩
     ·
      rw [if_neg c7] at H
      exact absurd H (by simp)
    ·
     rw [if_neg c6] at H
     have c6b0 : decide (x9_1 < (t526.length : Int)) = false := decide_eq_false c6
     clear c6
     by_cases c37 : t527 = 0
     ·
      rw [if_pos c37] at H
      have c37b0 : (t527 == 0) = true := beq_iff_eq.mpr c37
      have c37b1 : (t527 != 0) = false := bne_eq_false_iff_eq.mpr c37
      clear c37
      replace H := Option.bind_eq_some_iff.mp H
      obtain ⟨t532, A380, H⟩ := H
      replace H : (some t532) = some r := H
      have A38 := Aside0.mk A380
      clear A380
      obtain rfl := Option.some.inj H
      obtain ⟨Ao39, co39, eo39⟩ := Kd.R_slice HO_5.out
      subst eo39
      go_wp2_with (first | (go_at_call 13; (with_reducible refine (gussetlaw04_sure.calls k1  t532 _ A38.out).mono ?_); rintro e w40 ⟨rfl, hb⟩; have n0_ := Aside0.mk (Kd.R_below (by (with_reducible repeat (first | apply Kd.R_alloc | apply Kd.R_drewN | apply Kd.R_drew)); exact HO_5.out) hb); have n1_ := Aside0.mk (below_step (by repeat (first | (with_reducible first | exact HB.out | apply below_alloc | apply pw_below_drewN | apply below_drew1) | exact HB.out)) hb); clear HO_5; clear HB; have HO_5 := n0_; have HB := n1_; haveI := GW.of HB.out; clear n0_ n1_; (try clear hb); (try clear hb2); (try clear hk); (try clear hi)))
      repeat (go_quiet (first | (go_at_call 13; (with_reducible refine (gussetlaw04_sure.calls k1  t532 _ A38.out).mono ?_); rintro e w40 ⟨rfl, hb⟩; have n0_ := Aside0.mk (Kd.R_below (by (with_reducible repeat (first | apply Kd.R_alloc | apply Kd.R_drewN | apply Kd.R_drew)); exact HO_5.out) hb); have n1_ := Aside0.mk (below_step (by repeat (first | (with_reducible first | exact HB.out | apply below_alloc | apply pw_below_drewN | apply below_drew1) | exact HB.out)) hb); clear HO_5; clear HB; have HO_5 := n0_; have HB := n1_; haveI := GW.of HB.out; clear n0_ n1_; (try clear hb); (try clear hb2); (try clear hk); (try clear hi))); try go_wp2_with (first | (go_at_call 13; (with_reducible refine (gussetlaw04_sure.calls k1  t532 _ A38.out).mono ?_); rintro e w40 ⟨rfl, hb⟩; have n0_ := Aside0.mk (Kd.R_below (by (with_reducible repeat (first | apply Kd.R_alloc | apply Kd.R_drewN | apply Kd.R_drew)); exact HO_5.out) hb); have n1_ := Aside0.mk (below_step (by repeat (first | (with_reducible first | exact HB.out | apply below_alloc | apply pw_below_drewN | apply below_drew1) | exact HB.out)) hb); clear HO_5; clear HB; have HO_5 := n0_; have HB := n1_; haveI := GW.of HB.out; clear n0_ n1_; (try clear hb); (try clear hb2); (try clear hk); (try clear hi))))
      go_ret
      exact ⟨by first | rfl | (simp [errW_none, errW_some] <;> rfl) | (simp [*, errW_none, errW_some] <;> rfl), by repeat (first | (with_reducible first | exact HB.out | apply below_alloc | apply pw_below_drewN | apply below_drew1) | exact HB.out)⟩
     ·
      rw [if_neg c37] at H
      have c37b0 : (t527 == 0) = false := beq_eq_false_iff_ne.mpr c37
      have c37b1 : (t527 != 0) = true := bne_iff_ne.mpr c37
      obtain rfl := Option.some.inj H
      obtain ⟨Ao41, co41, eo41⟩ := Kd.R_slice HO_5.out
      subst eo41
      go_wp2
      repeat (go_quiet (fail); try go_wp2)
      go_ret
      exact ⟨by first | rfl | (simp [errW_none, errW_some] <;> rfl) | (simp [*, errW_none, errW_some] <;> rfl), by repeat (first | (with_reducible first | exact HB.out | apply below_alloc | apply pw_below_drewN | apply below_drew1) | exact HB.out)⟩
 ·
  rw [if_neg c4] at H
  have c4b0 : (t528 == 0) = false := beq_eq_false_iff_ne.mpr c4
  have c4b1 : (t528 != 0) = true := bne_iff_ne.mpr c4
  by_cases c42 : t527 ≥ 0
  ·
   rw [if_pos c42] at H
   have c42b0 : decide (0 ≤ t527) = true := decide_eq_true c42
   clear c42
   by_cases c43 : t527 < (a0.size : Int)
   ·
    rw [if_pos c43] at H
    have c43b0 : decide (t527 < (a0.size : Int)) = true := decide_eq_true c43
    clear c43
    replace H := Option.bind_eq_some_iff.mp H
    obtain ⟨t531, A440, H⟩ := H
    replace H : (some t531) = some r := H
    have A44 := Aside0.mk A440
    clear A440
    obtain rfl := Option.some.inj H
    go_enter Tryd.func7, Tryd.ntmps7
    go_wp2_with (first | (go_at_call 10; (with_reducible refine (lex_Lex.calls k a0 a1 t526 t527 t528 _ A3.out).mono ?_); rintro e w45 ⟨v529, rfl, ho0, hb⟩; have n0_ := Aside0.mk (Kd.R_lower ho0 (below_size (by repeat (first | (with_reducible first | exact HB.out | apply below_alloc | apply pw_below_drewN | apply below_drew1) | exact HB.out)))); have n1_ := Aside0.mk (below_step (by repeat (first | (with_reducible first | exact HB.out | apply below_alloc | apply pw_below_drewN | apply below_drew1) | exact HB.out)) hb); clear HB; have HO530 := n0_; have HB := n1_; haveI := GW.of HB.out; clear n0_ n1_; (try clear hb); (try clear hb2); (try clear hk); (try clear hi); (try clear ho0)) | (go_at_call 13; (with_reducible refine (gussetlaw04_sure.calls k  t531 _ A44.out).mono ?_); rintro e w46 ⟨rfl, hb⟩; have n0_ := Aside0.mk (Kd.R_below (by (with_reducible repeat (first | apply Kd.R_alloc | apply Kd.R_drewN | apply Kd.R_drew)); exact HO530.out) hb); have n1_ := Aside0.mk (below_step (by repeat (first | (with_reducible first | exact HB.out | apply below_alloc | apply pw_below_drewN | apply below_drew1) | exact HB.out)) hb); clear HO530; clear HB; have HO530 := n0_; have HB := n1_; haveI := GW.of HB.out; clear n0_ n1_; (try clear hb); (try clear hb2); (try clear hk); (try clear hi)))
    repeat (go_quiet (first | (go_at_call 10; (with_reducible refine (lex_Lex.calls k a0 a1 t526 t527 t528 _ A3.out).mono ?_); rintro e w45 ⟨v529, rfl, ho0, hb⟩; have n0_ := Aside0.mk (Kd.R_lower ho0 (below_size (by repeat (first | (with_reducible first | exact HB.out | apply below_alloc | apply pw_below_drewN | apply below_drew1) | exact HB.out)))); have n1_ := Aside0.mk (below_step (by repeat (first | (with_reducible first | exact HB.out | apply below_alloc | apply pw_below_drewN | apply below_drew1) | exact HB.out)) hb); clear HB; have HO530 := n0_; have HB := n1_; haveI := GW.of HB.out; clear n0_ n1_; (try clear hb); (try clear hb2); (try clear hk); (try clear hi); (try clear ho0)) | (go_at_call 13; (with_reducible refine (gussetlaw04_sure.calls k  t531 _ A44.out).mono ?_); rintro e w46 ⟨rfl, hb⟩; have n0_ := Aside0.mk (Kd.R_below (by (with_reducible repeat (first | apply Kd.R_alloc | apply Kd.R_drewN | apply Kd.R_drew)); exact HO530.out) hb); have n1_ := Aside0.mk (below_step (by repeat (first | (with_reducible first | exact HB.out | apply below_alloc | apply pw_below_drewN | apply below_drew1) | exact HB.out)) hb); clear HO530; clear HB; have HO530 := n0_; have HB := n1_; haveI := GW.of HB.out; clear n0_ n1_; (try clear hb); (try clear hb2); (try clear hk); (try clear hi))); try go_wp2_with (first | (go_at_call 10; (with_reducible refine (lex_Lex.calls k a0 a1 t526 t527 t528 _ A3.out).mono ?_); rintro e w45 ⟨v529, rfl, ho0, hb⟩; have n0_ := Aside0.mk (Kd.R_lower ho0 (below_size (by repeat (first | (with_reducible first | exact HB.out | apply below_alloc | apply pw_below_drewN | apply below_drew1) | exact HB.out)))); have n1_ := Aside0.mk (below_step (by repeat (first | (with_reducible first | exact HB.out | apply below_alloc | apply pw_below_drewN | apply below_drew1) | exact HB.out)) hb); clear HB; have HO530 := n0_; have HB := n1_; haveI := GW.of HB.out; clear n0_ n1_; (try clear hb); (try clear hb2); (try clear hk); (try clear hi); (try clear ho0)) | (go_at_call 13; (with_reducible refine (gussetlaw04_sure.calls k  t531 _ A44.out).mono ?_); rintro e w46 ⟨rfl, hb⟩; have n0_ := Aside0.mk (Kd.R_below (by (with_reducible repeat (first | apply Kd.R_alloc | apply Kd.R_drewN | apply Kd.R_drew)); exact HO530.out) hb); have n1_ := Aside0.mk (below_step (by repeat (first | (with_reducible first | exact HB.out | apply below_alloc | apply pw_below_drewN | apply below_drew1) | exact HB.out)) hb); clear HO530; clear HB; have HO530 := n0_; have HB := n1_; haveI := GW.of HB.out; clear n0_ n1_; (try clear hb); (try clear hb2); (try clear hk); (try clear hi))))
    go_ret
    exact ⟨by first | rfl | (simp [errW_none, errW_some] <;> rfl) | (simp [*, errW_none, errW_some] <;> rfl), by repeat (first | (with_reducible first | exact HB.out | apply below_alloc | apply pw_below_drewN | apply below_drew1) | exact HB.out)⟩
   ·
    rw [if_neg c43] at H
    have c43b0 : decide (t527 < (a0.size : Int)) = false := decide_eq_false c43
    clear c43
    obtain rfl := Option.some.inj H
    go_enter Tryd.func7, Tryd.ntmps7
    go_wp2_with (first | (go_at_call 10; (with_reducible refine (lex_Lex.calls k a0 a1 t526 t527 t528 _ A3.out).mono ?_); rintro e w47 ⟨v529, rfl, ho0, hb⟩; have n0_ := Aside0.mk (Kd.R_lower ho0 (below_size (by repeat (first | (with_reducible first | exact HB.out | apply below_alloc | apply pw_below_drewN | apply below_drew1) | exact HB.out)))); have n1_ := Aside0.mk (below_step (by repeat (first | (with_reducible first | exact HB.out | apply below_alloc | apply pw_below_drewN | apply below_drew1) | exact HB.out)) hb); clear HB; have HO530 := n0_; have HB := n1_; haveI := GW.of HB.out; clear n0_ n1_; (try clear hb); (try clear hb2); (try clear hk); (try clear hi); (try clear ho0)))
    repeat (go_quiet (first | (go_at_call 10; (with_reducible refine (lex_Lex.calls k a0 a1 t526 t527 t528 _ A3.out).mono ?_); rintro e w47 ⟨v529, rfl, ho0, hb⟩; have n0_ := Aside0.mk (Kd.R_lower ho0 (below_size (by repeat (first | (with_reducible first | exact HB.out | apply below_alloc | apply pw_below_drewN | apply below_drew1) | exact HB.out)))); have n1_ := Aside0.mk (below_step (by repeat (first | (with_reducible first | exact HB.out | apply below_alloc | apply pw_below_drewN | apply below_drew1) | exact HB.out)) hb); clear HB; have HO530 := n0_; have HB := n1_; haveI := GW.of HB.out; clear n0_ n1_; (try clear hb); (try clear hb2); (try clear hk); (try clear hi); (try clear ho0))); try go_wp2_with (first | (go_at_call 10; (with_reducible refine (lex_Lex.calls k a0 a1 t526 t527 t528 _ A3.out).mono ?_); rintro e w47 ⟨v529, rfl, ho0, hb⟩; have n0_ := Aside0.mk (Kd.R_lower ho0 (below_size (by repeat (first | (with_reducible first | exact HB.out | apply below_alloc | apply pw_below_drewN | apply below_drew1) | exact HB.out)))); have n1_ := Aside0.mk (below_step (by repeat (first | (with_reducible first | exact HB.out | apply below_alloc | apply pw_below_drewN | apply below_drew1) | exact HB.out)) hb); clear HB; have HO530 := n0_; have HB := n1_; haveI := GW.of HB.out; clear n0_ n1_; (try clear hb); (try clear hb2); (try clear hk); (try clear hi); (try clear ho0))))
    go_ret
    exact ⟨by first | rfl | (simp [errW_none, errW_some] <;> rfl) | (simp [*, errW_none, errW_some] <;> rfl), by repeat (first | (with_reducible first | exact HB.out | apply below_alloc | apply pw_below_drewN | apply below_drew1) | exact HB.out)⟩
  ·
   rw [if_neg c42] at H
   have c42b0 : decide (0 ≤ t527) = false := decide_eq_false c42
   clear c42
   obtain rfl := Option.some.inj H
   go_enter Tryd.func7, Tryd.ntmps7
   go_wp2_with (first | (go_at_call 10; (with_reducible refine (lex_Lex.calls k a0 a1 t526 t527 t528 _ A3.out).mono ?_); rintro e w48 ⟨v529, rfl, ho0, hb⟩; have n0_ := Aside0.mk (Kd.R_lower ho0 (below_size (by repeat (first | (with_reducible first | exact HB.out | apply below_alloc | apply pw_below_drewN | apply below_drew1) | exact HB.out)))); have n1_ := Aside0.mk (below_step (by repeat (first | (with_reducible first | exact HB.out | apply below_alloc | apply pw_below_drewN | apply below_drew1) | exact HB.out)) hb); clear HB; have HO530 := n0_; have HB := n1_; haveI := GW.of HB.out; clear n0_ n1_; (try clear hb); (try clear hb2); (try clear hk); (try clear hi); (try clear ho0)))
   repeat (go_quiet (first | (go_at_call 10; (with_reducible refine (lex_Lex.calls k a0 a1 t526 t527 t528 _ A3.out).mono ?_); rintro e w48 ⟨v529, rfl, ho0, hb⟩; have n0_ := Aside0.mk (Kd.R_lower ho0 (below_size (by repeat (first | (with_reducible first | exact HB.out | apply below_alloc | apply pw_below_drewN | apply below_drew1) | exact HB.out)))); have n1_ := Aside0.mk (below_step (by repeat (first | (with_reducible first | exact HB.out | apply below_alloc | apply pw_below_drewN | apply below_drew1) | exact HB.out)) hb); clear HB; have HO530 := n0_; have HB := n1_; haveI := GW.of HB.out; clear n0_ n1_; (try clear hb); (try clear hb2); (try clear hk); (try clear hi); (try clear ho0))); try go_wp2_with (first | (go_at_call 10; (with_reducible refine (lex_Lex.calls k a0 a1 t526 t527 t528 _ A3.out).mono ?_); rintro e w48 ⟨v529, rfl, ho0, hb⟩; have n0_ := Aside0.mk (Kd.R_lower ho0 (below_size (by repeat (first | (with_reducible first | exact HB.out | apply below_alloc | apply pw_below_drewN | apply below_drew1) | exact HB.out)))); have n1_ := Aside0.mk (below_step (by repeat (first | (with_reducible first | exact HB.out | apply below_alloc | apply pw_below_drewN | apply below_drew1) | exact HB.out)) hb); clear HB; have HO530 := n0_; have HB := n1_; haveI := GW.of HB.out; clear n0_ n1_; (try clear hb); (try clear hb2); (try clear hk); (try clear hi); (try clear ho0))))
   go_ret
   exact ⟨by first | rfl | (simp [errW_none, errW_some] <;> rfl) | (simp [*, errW_none, errW_some] <;> rfl), by repeat (first | (with_reducible first | exact HB.out | apply below_alloc | apply pw_below_drewN | apply below_drew1) | exact HB.out)⟩

/-- THE ONE PURE STATEMENT of gussetlaw04_LexRises: yours. -/
def gussetlaw04_LexRises.Pure : Prop := ∀ (a0 : ByteArray) (a1 : Bool), a0.size ≤ 140737488351232 → ∃ k, gussetlaw04_LexRises.f k a0 a1 = some true
theorem gussetlaw04_LexRises.walk (P : gussetlaw04_LexRises.Pure) (a0 : ByteArray) (a1 : Bool) (w : World) [GW w] (w0 : a0.size ≤ 140737488351232) :
  Calls Tryd.prog 7 #[.string a0, .bool a1] w fun e w' => e = .returned (.bool true) ∧ Below w.heap.size w w' := by
 obtain ⟨k, h⟩ := P a0 a1 w0
 refine (gussetlaw04_LexRises.calls k a0 a1 true w h).mono ?_
 rintro e w' ⟨rfl, hd⟩
 exact ⟨rfl, hd⟩


end Go.Proofs.YtbnpgobjbokboaaDoor.PLex
