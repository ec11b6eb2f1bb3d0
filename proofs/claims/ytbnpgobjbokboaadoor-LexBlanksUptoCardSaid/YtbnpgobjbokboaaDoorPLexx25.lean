/- Contracts: gussetlaw04_LexBlanks. -/
import Derived.Test.YtbnpgobjbokboaaDoorPLexx0
import Derived.Test.YtbnpgobjbokboaaDoorPLexx5
import Derived.Test.YtbnpgobjbokboaaDoorPLexx8
import Derived.Test.YtbnpgobjbokboaaDoorPLexx9
namespace Go.Proofs.YtbnpgobjbokboaaDoor.PLex
open Go.RowKit Go.Proofs.YtbnpgobjbokboaaDoorW.PrintWords Go.Proofs.YtbnpgobjbokboaaDoorW.PrintLast Go.Proofs.YtbnpgobjbokboaaDoorW.PrintMore
attribute [local go_sem] max2_int min2_int max_two min_two max_three min_three max_four min_four   -- for this text's walks alone
set_option linter.unusedVariables false
set_option linter.unusedSimpArgs false

/-! ### gussetlaw04_LexBlanks: function 8 -/
mutual
def gussetlaw04_LexBlanks.j0 : Nat → ByteArray → Int → ByteArray → List (S36) → Bool → Option (Bool)
 | 0, _, _, _, _, _ => none
 | k + 1, x0, x1, x2, x7, x28 => if x28 = true then ((gussetlaw04_sure.f k).bind fun t540 => (some t540)) else (gussetlaw04_LexBlanks.l0 k x0 (mx 0 (mn x1 (wrap64 ((x7.length : Int) - 1)))) x2 x7 (⟨#[32, 9, 10]⟩ : ByteArray) 0)
def gussetlaw04_LexBlanks.l0 : Nat → ByteArray → Int → ByteArray → List (S36) → ByteArray → Int → Option (Bool)
 | 0, _, _, _, _, _, _ => none
 | k + 1, x0, x1, x2, x7, x10, x11 => if x11 < (x2.size : Int) then (if 0 ≤ x11 then (if (bt x2 x11) = 42 then (gussetlaw04_LexBlanks.l0 k x0 x1 (⟨#[]⟩ : ByteArray) x7 x10 (wrap64 (x11 + 1))) else (if (bt x2 x11) = 47 then (gussetlaw04_LexBlanks.l0 k x0 x1 (⟨#[]⟩ : ByteArray) x7 x10 (wrap64 (x11 + 1))) else (gussetlaw04_LexBlanks.l0 k x0 x1 x2 x7 x10 (wrap64 (x11 + 1))))) else (none)) else (if x10.size + 2 ≤ 9223372036854775807 then (if (x10 ++ (⟨#[47, 42]⟩ : ByteArray)).size + x2.size ≤ 9223372036854775807 then (if ((x10 ++ (⟨#[47, 42]⟩ : ByteArray)) ++ x2).size + 2 ≤ 9223372036854775807 then (if 0 ≤ x1 then (if x1 < (x7.length : Int) then (if 0 ≤ ((rd_T36 x7 x1).f3) then (if ((rd_T36 x7 x1).f3) ≤ (x0.size : Int) then (if (x0.extract 0 (((rd_T36 x7 x1).f3) : Int).toNat).size + (((x10 ++ (⟨#[47, 42]⟩ : ByteArray)) ++ x2) ++ (⟨#[42, 47]⟩ : ByteArray)).size ≤ 9223372036854775807 then (if ((x0.extract 0 (((rd_T36 x7 x1).f3) : Int).toNat) ++ (((x10 ++ (⟨#[47, 42]⟩ : ByteArray)) ++ x2) ++ (⟨#[42, 47]⟩ : ByteArray))).size + (x0.extract (((rd_T36 x7 x1).f3) : Int).toNat x0.size).size ≤ 9223372036854775807 then ((lex_Lex.f k (((x0.extract 0 (((rd_T36 x7 x1).f3) : Int).toNat) ++ (((x10 ++ (⟨#[47, 42]⟩ : ByteArray)) ++ x2) ++ (⟨#[42, 47]⟩ : ByteArray))) ++ (x0.extract (((rd_T36 x7 x1).f3) : Int).toNat x0.size)) true).bind fun bt542 => (if bt542.2.2 = 0 then ((gussetref04_Same.f k bt542.1 x7).bind fun t547 => (if t547 = true then ((gussetlaw04_sure.f k).bind fun t548 => (some t548)) else (some false))) else (some false))) else (none)) else (none)) else (none)) else (none)) else (none)) else (none)) else (none)) else (none)) else (none))
end
def gussetlaw04_LexBlanks.f (k : Nat) (a0 : ByteArray) (a1 : Int) (a2 : ByteArray) : Option (Bool) := (lex_Lex.f k a0 true).bind fun bt535 => (if bt535.2.2 = 0 then (gussetlaw04_LexBlanks.j0 k a0 a1 a2 bt535.1 ((bt535.1.length : Int) == 0)) else (gussetlaw04_LexBlanks.j0 k a0 a1 a2 bt535.1 true))
theorem gussetlaw04_LexBlanks.mono_l : ∀ k, (∀ y0 y1 y2 y3 y4, LeO (gussetlaw04_LexBlanks.j0 k y0 y1 y2 y3 y4) (gussetlaw04_LexBlanks.j0 (k + 1) y0 y1 y2 y3 y4)) ∧ (∀ y0 y1 y2 y3 y4 y5, LeO (gussetlaw04_LexBlanks.l0 k y0 y1 y2 y3 y4 y5) (gussetlaw04_LexBlanks.l0 (k + 1) y0 y1 y2 y3 y4 y5))
 | 0 => ⟨fun _ _ _ _ _ r h => by simp [gussetlaw04_LexBlanks.j0] at h, fun _ _ _ _ _ _ r h => by simp [gussetlaw04_LexBlanks.l0] at h⟩
 | k + 1 => by
  obtain ⟨ih0, ih1⟩ := gussetlaw04_LexBlanks.mono_l k
  refine ⟨?_, ?_⟩
  ·
   intro y0 y1 y2 y3 y4
   unfold gussetlaw04_LexBlanks.j0
   repeat' first
   | (with_reducible exact ih0 _ _ _ _ _)
   | (with_reducible exact ih1 _ _ _ _ _ _)
   | (with_reducible exact gussetlaw04_sure.mono _)
   | (with_reducible exact gussetref04_Same.mono _ _ _)
   | (with_reducible exact lex_Lex.mono _ _ _)
   | (with_reducible exact LeO.refl _)
   | (with_reducible exact LeO.none _)
   | (with_reducible refine LeO.ite ?_ ?_)
   | (with_reducible refine LeO.bind ?_ (fun _ => ?_))
   | exact ih0 _ _ _ _ _
   | exact ih1 _ _ _ _ _ _
   | exact gussetlaw04_sure.mono _
   | exact gussetref04_Same.mono _ _ _
   | exact lex_Lex.mono _ _ _
   | exact LeO.none _
   | refine LeO.ite ?_ ?_
   | refine LeO.bind ?_ (fun _ => ?_)
  ·
   intro y0 y1 y2 y3 y4 y5
   unfold gussetlaw04_LexBlanks.l0
   repeat' first
   | (with_reducible exact ih0 _ _ _ _ _)
   | (with_reducible exact ih1 _ _ _ _ _ _)
   | (with_reducible exact gussetlaw04_sure.mono _)
   | (with_reducible exact gussetref04_Same.mono _ _ _)
   | (with_reducible exact lex_Lex.mono _ _ _)
   | (with_reducible exact LeO.refl _)
   | (with_reducible exact LeO.none _)
   | (with_reducible refine LeO.ite ?_ ?_)
   | (with_reducible refine LeO.bind ?_ (fun _ => ?_))
   | exact ih0 _ _ _ _ _
   | exact ih1 _ _ _ _ _ _
   | exact gussetlaw04_sure.mono _
   | exact gussetref04_Same.mono _ _ _
   | exact lex_Lex.mono _ _ _
   | exact LeO.none _
   | refine LeO.ite ?_ ?_
   | refine LeO.bind ?_ (fun _ => ?_)
theorem gussetlaw04_LexBlanks.mono : ∀ a0 a1 a2 k, LeO (gussetlaw04_LexBlanks.f k a0 a1 a2) (gussetlaw04_LexBlanks.f (k + 1) a0 a1 a2) := by
 intro a0 a1 a2 k
 obtain ⟨ih0, ih1⟩ := gussetlaw04_LexBlanks.mono_l k
 unfold gussetlaw04_LexBlanks.f
 repeat' first
   | (with_reducible exact ih0 _ _ _ _ _)
   | (with_reducible exact ih1 _ _ _ _ _ _)
   | (with_reducible exact gussetlaw04_sure.mono _)
   | (with_reducible exact gussetref04_Same.mono _ _ _)
   | (with_reducible exact lex_Lex.mono _ _ _)
   | (with_reducible exact LeO.refl _)
   | (with_reducible exact LeO.none _)
   | (with_reducible refine LeO.ite ?_ ?_)
   | (with_reducible refine LeO.bind ?_ (fun _ => ?_))
   | exact ih0 _ _ _ _ _
   | exact ih1 _ _ _ _ _ _
   | exact gussetlaw04_sure.mono _
   | exact gussetref04_Same.mono _ _ _
   | exact lex_Lex.mono _ _ _
   | exact LeO.none _
   | refine LeO.ite ?_ ?_
   | refine LeO.bind ?_ (fun _ => ?_)
def gussetlaw04_LexBlanks.T13 : Bool × List (List Nat × List Nat) := (true, [([], []), ([], []), ([0, 1], [0, 1]), ([], []), ([2, 3], [2, 3]), ([], []), ([], []), ([5, 6], [5, 6]), ([4, 7], [4, 7]), ([8], [8]), ([9], [9]), ([10], [10]), ([10], [10]), ([10], [10]), ([11, 9, 0, 1, 2, 3, 4, 5, 6, 7, 8, 9, 10, 11], [11]), ([12, 14, 0, 1, 2, 3, 4, 5, 6, 7, 8, 9, 10, 11, 12, 14], [12]), ([13, 15, 0, 1, 2, 3, 4, 5, 6, 7, 8, 9, 10, 11, 12, 13, 14, 15], [13])])
def gussetlaw04_LexBlanks.B13 : List Nat := [0, 0, 3, 0, 15, 0, 0, 96, 255, 511, 1023, 2047, 2047, 2047, 4095, 24575, 65535]
theorem gussetlaw04_LexBlanks.tab13 : rtab .any (opsOf Tryd.f8 13) = gussetlaw04_LexBlanks.T13 := by kernel_rfl
theorem gussetlaw04_LexBlanks.bits13 : waitsOk gussetlaw04_LexBlanks.T13.2 gussetlaw04_LexBlanks.B13 = true := by kernel_rfl
set_option maxHeartbeats 8000000 in
set_option maxRecDepth 100000 in
theorem gussetlaw04_LexBlanks.calls (k : Nat) (a0 : ByteArray) (a1 : Int) (a2 : ByteArray) (r : Bool) (w : World) [GW w] (h : gussetlaw04_LexBlanks.f k a0 a1 a2 = some r) :
  Calls Tryd.prog 8 #[.string a0, .int .i64 a1, .string a2] w fun e w' => e = .returned (.bool r) ∧ Below w.heap.size w w' := by
 have HB := Aside0.mk (Below.refl w.heap.size w)
 have H : ((lex_Lex.f k a0 true).bind fun bt535 => (if bt535.2.2 = 0 then (gussetlaw04_LexBlanks.j0 k a0 a1 a2 bt535.1 ((bt535.1.length : Int) == 0)) else (gussetlaw04_LexBlanks.j0 k a0 a1 a2 bt535.1 true))) = some r := h
 clear h
 replace H := Option.bind_eq_some_iff.mp H
 obtain ⟨⟨t535, t536, t537⟩, A40, H⟩ := H
 replace H : (if t537 = 0 then (gussetlaw04_LexBlanks.j0 k a0 a1 a2 t535 ((t535.length : Int) == 0)) else (gussetlaw04_LexBlanks.j0 k a0 a1 a2 t535 true)) = some r := H
 have A4 := Aside0.mk A40
 clear A40
 have HC5 := Aside0.mk H
 clear H
 go_enter Tryd.func8, Tryd.ntmps8
 go_upto_region 2 with (first | ((with_reducible refine gate_callee (f := 10) rfl ?_); refine goesL_ (some 18) rfl rfl Tryd.func10 (by kernel_rfl) rfl #[.string a0, .bool true] rfl (by (try simp only [List.map_toArray, List.map_cons, List.map_nil]); first | done | rfl | (simp only [List.length_drop, List.length_take]; rfl)) ?_; (with_reducible refine (lex_Lex.calls k a0 true t535 t536 t537 _ A4.out).mono ?_); rintro e w6 ⟨v538, rfl, ho0, hb⟩; refine ⟨_, rfl, ?_⟩; have n0_ := Aside0.mk (Kd.R_lower ho0 (below_size (by repeat (first | (with_reducible first | exact HB.out | apply below_alloc | apply pw_below_drewN | apply below_drew1) | exact HB.out)))); have n1_ := Aside0.mk (below_step (by repeat (first | (with_reducible first | exact HB.out | apply below_alloc | apply pw_below_drewN | apply below_drew1) | exact HB.out)) hb); clear HB; have HO539 := n0_; have HB := n1_; haveI := GW.of HB.out; clear n0_ n1_; (try clear hb); (try clear hb2); (try clear hk); (try clear hi); (try clear ho0)))
 (try simp only [Act.put, List.setIfInBounds_toArray, List.set_cons_zero, List.set_cons_succ])
 go_cut [28] (fun v28 wc => ∃ (kq : Nat) (x28_4 : Bool), v28 = .bool x28_4 ∧ Aside0 (gussetlaw04_LexBlanks.j0 kq a0 a1 a2 t535 x28_4 = some r) ∧ Aside0 (kq ≤ k) ∧ Aside0 (Kd.R k36 36 wc w.heap.size (fun _ => True) v538 t535) ∧ Aside0 (Below w.heap.size w wc))
 case first =>
  have H := HC5.out
  clear HC5
  by_cases c7 : t537 = 0
  ·
   rw [if_pos c7] at H
   have c7b0 : (t537 == 0) = true := beq_iff_eq.mpr c7
   have c7b1 : (t537 != 0) = false := bne_eq_false_iff_eq.mpr c7
   clear c7
   (first | rw [c7b0] | (simp only [i64_w, i32_w]; rw [c7b0]) | skip)
   have H' := Aside0.mk H
   clear H
   obtain ⟨Ao8, co8, eo8⟩ := Kd.R_slice HO539.out
   subst eo8
   go_wp2
   go_meet
   case rel => exact ⟨_, (((t535.length : Int) == 0)), (by first | rfl | (simp; done) | (simp [*]; done)), H', ⟨by first | omega | exact Nat.le_refl _⟩, ⟨by (with_reducible repeat (first | apply Kd.R_alloc | apply Kd.R_drewN | apply Kd.R_drew)); first | exact HO539.out | exact Kd.R_mono HO539.out (fun k_ hk_ h_ => hk_ (h_.trans (ownLen _ _ _ _ _)))⟩, ⟨by repeat (first | (with_reducible first | exact HB.out | apply below_alloc | apply pw_below_drewN | apply below_drew1) | exact HB.out)⟩⟩
  ·
   rw [if_neg c7] at H
   have c7b0 : (t537 == 0) = false := beq_eq_false_iff_ne.mpr c7
   have c7b1 : (t537 != 0) = true := bne_iff_ne.mpr c7
   (first | rw [c7b0] | (simp only [i64_w, i32_w]; rw [c7b0]) | skip)
   have H' := Aside0.mk H
   clear H
   go_wp2
   go_meet
   case rel => exact ⟨_, (true), (by first | rfl | (simp; done) | (simp [*]; done)), H', ⟨by first | omega | exact Nat.le_refl _⟩, ⟨by (with_reducible repeat (first | apply Kd.R_alloc | apply Kd.R_drewN | apply Kd.R_drew)); first | exact HO539.out | exact Kd.R_mono HO539.out (fun k_ hk_ h_ => hk_ (h_.trans (ownLen _ _ _ _ _)))⟩, ⟨by repeat (first | (with_reducible first | exact HB.out | apply below_alloc | apply pw_below_drewN | apply below_drew1) | exact HB.out)⟩⟩
 case rest =>
  clear HC5
  try clear c1
  try clear p2
  try clear c7
  try clear c7b0
  try clear c7b1
  try clear c8
  obtain ⟨kq, x28_4, rfl, HA, HJ4, HO_7, HB⟩ := hcut; haveI := GW.of HB.out
  cases kq with
  | zero => exact absurd HA.out (by simp [gussetlaw04_LexBlanks.j0])
  | succ kj4 =>
   have H := HA.out
   clear HA
   simp only [gussetlaw04_LexBlanks.j0] at H
   by_cases c9 : x28_4 = true
   ·
    subst c9
    have H1 : ((gussetlaw04_sure.f kj4).bind fun t540 => (some t540)) = some r := by rw [if_pos rfl] at H; exact H
    clear H
    have H := H1
    clear H1
    replace H := Option.bind_eq_some_iff.mp H
    obtain ⟨t540, A100, H⟩ := H
    replace H : (some t540) = some r := H
    have A10 := Aside0.mk A100
    clear A100
    obtain rfl := Option.some.inj H
    go_wp2_with (first | ((with_reducible refine gate_callee (f := 13) rfl ?_); refine goesL_ (some 29) rfl rfl Tryd.func13 (by kernel_rfl) rfl #[] rfl (by (try simp only [List.map_toArray, List.map_cons, List.map_nil]); first | done | rfl | (simp only [List.length_drop, List.length_take]; rfl)) ?_; (with_reducible refine (gussetlaw04_sure.calls kj4  t540 _ A10.out).mono ?_); rintro e w11 ⟨rfl, hb⟩; refine ⟨_, rfl, ?_⟩; have n0_ := Aside0.mk (Kd.R_below (by (with_reducible repeat (first | apply Kd.R_alloc | apply Kd.R_drewN | apply Kd.R_drew)); exact HO_7.out) hb); have n1_ := Aside0.mk (below_step (by repeat (first | (with_reducible first | exact HB.out | apply below_alloc | apply pw_below_drewN | apply below_drew1) | exact HB.out)) hb); clear HO_7; clear HB; have HO_7 := n0_; have HB := n1_; haveI := GW.of HB.out; clear n0_ n1_; (try clear hb); (try clear hb2); (try clear hk); (try clear hi)))
    go_ret
    exact ⟨by first | rfl | (simp [errW_none, errW_some] <;> rfl) | (simp [*, errW_none, errW_some] <;> rfl), by repeat (first | (with_reducible first | exact HB.out | apply below_alloc | apply pw_below_drewN | apply below_drew1) | exact HB.out)⟩
   ·
    replace c9 := Bool.eq_false_iff.mpr c9
    subst c9
    have H1 : (gussetlaw04_LexBlanks.l0 kj4 a0 (mx 0 (mn a1 (wrap64 ((t535.length : Int) - 1)))) a2 t535 (⟨#[32, 9, 10]⟩ : ByteArray) 0) = some r := by rw [if_neg (show ¬ (false = true) by decide)] at H; exact H
    clear H
    have H := H1
    clear H1
    obtain ⟨ji12, hji12⟩ : ∃ j_ : Int, (mn a1 (wrap64 ((t535.length : Int) - 1))) = j_ := ⟨_, rfl⟩
    replace H : (gussetlaw04_LexBlanks.l0 kj4 a0 (mx 0 (ji12)) a2 t535 (⟨#[32, 9, 10]⟩ : ByteArray) 0) = some r := by first | (rw [hji12] at H; exact H) | (simp only [hji12] at H ⊢; exact H)
    have hji12_ : (if (wrap64 ((t535.length : Int) - 1)) < a1 then (wrap64 ((t535.length : Int) - 1)) else a1) = ji12 := hji12
    obtain ⟨ji13, hji13⟩ : ∃ j_ : Int, (mx 0 (ji12)) = j_ := ⟨_, rfl⟩
    replace H : (gussetlaw04_LexBlanks.l0 kj4 a0 ji13 a2 t535 (⟨#[32, 9, 10]⟩ : ByteArray) 0) = some r := by first | (rw [hji13] at H; exact H) | (simp only [hji13] at H ⊢; exact H)
    have hji13_ : (if 0 < (ji12) then (ji12) else 0) = ji13 := hji13
    have H' := Aside0.mk H
    clear H
    obtain ⟨Ao14, co14, eo14⟩ := Kd.R_slice HO_7.out
    subst eo14
    go_wp2
    go_loopg [2, 11] kj4 (fun kq v2 v11 w' => ∃ (x2_2 : ByteArray) (x11_2 : Int), v2 = .string x2_2 ∧ v11 = .int .i64 x11_2 ∧ Aside0 (gussetlaw04_LexBlanks.l0 kq a0 ji13 x2_2 t535 (⟨#[32, 9, 10]⟩ : ByteArray) x11_2 = some r) ∧ Aside0 (kq ≤ kj4) ∧ Aside0 (Kd.R k36 36 w' w.heap.size (fun _ => True) (.slice Ao14 t535.length co14) t535) ∧ Aside0 (Below w.heap.size w w'))
    case atStart => exact ⟨(a2), (0), (by first | rfl | (simp; done) | (simp [*]; done)), (by first | rfl | (simp; done) | (simp [*]; done)), H', ⟨Nat.le_refl _⟩, ⟨by (with_reducible repeat (first | apply Kd.R_alloc | apply Kd.R_drewN | apply Kd.R_drew)); first | exact HO_7.out | exact Kd.R_mono HO_7.out (fun k_ hk_ h_ => hk_ (h_.trans (ownLen _ _ _ _ _)))⟩, ⟨by repeat (first | (with_reducible first | exact HB.out | apply below_alloc | apply pw_below_drewN | apply below_drew1) | exact HB.out)⟩⟩
    case round =>
     clear H'
     try clear c1
     try clear p2
     try clear p6
     try clear c7
     try clear c7b0
     try clear c7b1
     try clear c8
     try clear c9
     try clear c10
     try clear c13
     try clear p2
     obtain ⟨x2_2, x11_2, rfl, rfl, HA, HK2, HO_7, HB⟩ := hrel; haveI := GW.of HB.out
     cases gk with
     | zero => exact absurd HA.out (by simp [gussetlaw04_LexBlanks.l0])
     | succ k2 =>
      have H := HA.out
      clear HA
      simp only [gussetlaw04_LexBlanks.l0] at H
      by_cases c15 : x11_2 < (x2_2.size : Int)
      ·
       rw [if_pos c15] at H
       have c15b0 : decide (x11_2 < (x2_2.size : Int)) = true := decide_eq_true c15
       clear c15
       by_cases c16 : 0 ≤ x11_2
       ·
        rw [if_pos c16] at H
        have c16b0 : decide (0 ≤ x11_2) = true := decide_eq_true c16
        clear c16
        by_cases c18 : (bt x2_2 x11_2) = 42
        ·
         rw [if_pos c18] at H
         have c18b0 : ((bt x2_2 x11_2) == 42) = true := beq_iff_eq.mpr c18
         have c18b1 : ((bt x2_2 x11_2) != 42) = false := bne_eq_false_iff_eq.mpr c18
         clear c18
         have H' := Aside0.mk H
         clear H
         have p17 : 0 ≤ (x11_2 : Int) := of_decide_eq_true (by first | (with_reducible assumption) | assumption)
         have q17 : x11_2 < (x2_2.size : Int) := of_decide_eq_true (by first | (with_reducible assumption) | assumption)
         have hx17 := bt_at x2_2 x11_2
         replace p17 := eq_true p17
         replace q17 := eq_true q17
         go_wp2
         go_roundg k2
         case measure => have := HJ4.out; have := HK2.out; omega
         case rel => exact ⟨((⟨#[]⟩ : ByteArray)), (wrap64 (x11_2 + 1)), (by first | rfl | (simp; done) | (simp [*]; done)), (by first | rfl | (simp; done) | (simp [*]; done)), H', ⟨by have := HJ4.out; have := HK2.out; omega⟩, ⟨by (with_reducible repeat (first | apply Kd.R_alloc | apply Kd.R_drewN | apply Kd.R_drew)); first | exact HO_7.out | exact Kd.R_mono HO_7.out (fun k_ hk_ h_ => hk_ (h_.trans (ownLen _ _ _ _ _)))⟩, ⟨by repeat (first | (with_reducible first | exact HB.out | apply below_alloc | apply pw_below_drewN | apply below_drew1) | exact HB.out)⟩⟩
        ·
         rw [if_neg c18] at H
         have c18b0 : ((bt x2_2 x11_2) == 42) = false := beq_eq_false_iff_ne.mpr c18
         have c18b1 : ((bt x2_2 x11_2) != 42) = true := bne_iff_ne.mpr c18
         by_cases c20 : (bt x2_2 x11_2) = 47
         ·
          rw [if_pos c20] at H
          have c20b0 : ((bt x2_2 x11_2) == 47) = true := beq_iff_eq.mpr c20
          have c20b1 : ((bt x2_2 x11_2) != 47) = false := bne_eq_false_iff_eq.mpr c20
          clear c20
          have H' := Aside0.mk H
          clear H
          have p17 : 0 ≤ (x11_2 : Int) := of_decide_eq_true (by first | (with_reducible assumption) | assumption)
          have q17 : x11_2 < (x2_2.size : Int) := of_decide_eq_true (by first | (with_reducible assumption) | assumption)
          have hx17 := bt_at x2_2 x11_2
          replace p17 := eq_true p17
          replace q17 := eq_true q17
          have p19 : 0 ≤ (x11_2 : Int) := of_decide_eq_true (by first | (with_reducible assumption) | assumption)
          have q19 : x11_2 < (x2_2.size : Int) := of_decide_eq_true (by first | (with_reducible assumption) | assumption)
          have hx19 := bt_at x2_2 x11_2
          replace p19 := eq_true p19
          replace q19 := eq_true q19
          go_wp2
          go_roundg k2
          case measure => have := HJ4.out; have := HK2.out; omega
          case rel => exact ⟨((⟨#[]⟩ : ByteArray)), (wrap64 (x11_2 + 1)), (by first | rfl | (simp; done) | (simp [*]; done)), (by first | rfl | (simp; done) | (simp [*]; done)), H', ⟨by have := HJ4.out; have := HK2.out; omega⟩, ⟨by (with_reducible repeat (first | apply Kd.R_alloc | apply Kd.R_drewN | apply Kd.R_drew)); first | exact HO_7.out | exact Kd.R_mono HO_7.out (fun k_ hk_ h_ => hk_ (h_.trans (ownLen _ _ _ _ _)))⟩, ⟨by repeat (first | (with_reducible first | exact HB.out | apply below_alloc | apply pw_below_drewN | apply below_drew1) | exact HB.out)⟩⟩
         ·
          rw [if_neg c20] at H
          have c20b0 : ((bt x2_2 x11_2) == 47) = false := beq_eq_false_iff_ne.mpr c20
          have c20b1 : ((bt x2_2 x11_2) != 47) = true := bne_iff_ne.mpr c20
          have H' := Aside0.mk H
          clear H
          have p17 : 0 ≤ (x11_2 : Int) := of_decide_eq_true (by first | (with_reducible assumption) | assumption)
          have q17 : x11_2 < (x2_2.size : Int) := of_decide_eq_true (by first | (with_reducible assumption) | assumption)
          have hx17 := bt_at x2_2 x11_2
          replace p17 := eq_true p17
          replace q17 := eq_true q17
          have p19 : 0 ≤ (x11_2 : Int) := of_decide_eq_true (by first | (with_reducible assumption) | assumption)
          have q19 : x11_2 < (x2_2.size : Int) := of_decide_eq_true (by first | (with_reducible assumption) | assumption)
          have hx19 := bt_at x2_2 x11_2
          replace p19 := eq_true p19
          replace q19 := eq_true q19
          go_wp2
          go_roundg k2
          case measure => have := HJ4.out; have := HK2.out; omega
          case rel => exact ⟨(x2_2), (wrap64 (x11_2 + 1)), (by first | rfl | (simp; done) | (simp [*]; done)), (by first | rfl | (simp; done) | (simp [*]; done)), H', ⟨by have := HJ4.out; have := HK2.out; omega⟩, ⟨by (with_reducible repeat (first | apply Kd.R_alloc | apply Kd.R_drewN | apply Kd.R_drew)); first | exact HO_7.out | exact Kd.R_mono HO_7.out (fun k_ hk_ h_ => hk_ (h_.trans (ownLen _ _ _ _ _)))⟩, ⟨by repeat (first | (with_reducible first | exact HB.out | apply below_alloc | apply pw_below_drewN | apply below_drew1) | exact HB.out)⟩⟩
       ·
        rw [if_neg c16] at H
        exact absurd H (by simp)
      ·
       rw [if_neg c15] at H
       have c15b0 : decide (x11_2 < (x2_2.size : Int)) = false := decide_eq_false c15
       clear c15
       by_cases c21 : (⟨#[32, 9, 10]⟩ : ByteArray).size + 2 ≤ 9223372036854775807
       ·
        rw [if_pos c21] at H
        have c21b0 := eq_true c21
        have c21b1 : decide ((⟨#[32, 9, 10]⟩ : ByteArray).size + 2 ≤ 9223372036854775807) = true := decide_eq_true c21
        try have c21b2 : (9223372036854775807 < (⟨#[32, 9, 10]⟩ : ByteArray).size + 2) = False := eq_false (Nat.not_lt.2 c21)
        by_cases c22 : ((⟨#[32, 9, 10]⟩ : ByteArray) ++ (⟨#[47, 42]⟩ : ByteArray)).size + x2_2.size ≤ 9223372036854775807
        ·
         rw [if_pos c22] at H
         have c22b0 := eq_true c22
         have c22b9 := c22
         (try simp [size_mk_] at c22b9)
         (try have c22b8 := eq_false (Nat.not_lt.2 c22b9))
         have c22b1 : decide (((⟨#[32, 9, 10]⟩ : ByteArray) ++ (⟨#[47, 42]⟩ : ByteArray)).size + x2_2.size ≤ 9223372036854775807) = true := decide_eq_true c22
         try have c22b2 : (9223372036854775807 < ((⟨#[32, 9, 10]⟩ : ByteArray) ++ (⟨#[47, 42]⟩ : ByteArray)).size + x2_2.size) = False := eq_false (Nat.not_lt.2 c22)
         by_cases c23 : (((⟨#[32, 9, 10]⟩ : ByteArray) ++ (⟨#[47, 42]⟩ : ByteArray)) ++ x2_2).size + 2 ≤ 9223372036854775807
         ·
          rw [if_pos c23] at H
          have c23b0 := eq_true c23
          have c23b9 := c23
          (try simp [size_mk_] at c23b9)
          (try have c23b8 := eq_false (Nat.not_lt.2 c23b9))
          have c23b1 : decide ((((⟨#[32, 9, 10]⟩ : ByteArray) ++ (⟨#[47, 42]⟩ : ByteArray)) ++ x2_2).size + 2 ≤ 9223372036854775807) = true := decide_eq_true c23
          try have c23b2 : (9223372036854775807 < (((⟨#[32, 9, 10]⟩ : ByteArray) ++ (⟨#[47, 42]⟩ : ByteArray)) ++ x2_2).size + 2) = False := eq_false (Nat.not_lt.2 c23)
          by_cases c24 : 0 ≤ ji13
          ·
           rw [if_pos c24] at H
           have c24b0 : decide (0 ≤ ji13) = true := decide_eq_true c24
           clear c24
           by_cases c25 : ji13 < (t535.length : Int)
           ·
            rw [if_pos c25] at H
            have c25b0 : decide (ji13 < (t535.length : Int)) = true := decide_eq_true c25
            clear c25
            by_cases c26 : 0 ≤ ((rd_T36 t535 ji13).f3)
            ·
             rw [if_pos c26] at H
             have c26b0 := eq_true c26
             have c26b1 : decide (0 ≤ ((rd_T36 t535 ji13).f3)) = true := decide_eq_true c26
             clear c26
             by_cases c27 : ((rd_T36 t535 ji13).f3) ≤ (a0.size : Int)
             ·
              rw [if_pos c27] at H
              have c27b0 := eq_true c27
              have c27b1 : decide (((rd_T36 t535 ji13).f3) ≤ (a0.size : Int)) = true := decide_eq_true c27
              clear c27
              by_cases c28 : (a0.extract 0 (((rd_T36 t535 ji13).f3) : Int).toNat).size + ((((⟨#[32, 9, 10]⟩ : ByteArray) ++ (⟨#[47, 42]⟩ : ByteArray)) ++ x2_2) ++ (⟨#[42, 47]⟩ : ByteArray)).size ≤ 9223372036854775807
              ·
               rw [if_pos c28] at H
               have c28b0 := eq_true c28
               have c28b9 := c28
               (try simp [size_mk_] at c28b9)
               (try have c28b8 := eq_false (Nat.not_lt.2 c28b9))
               have c28b6 := c28b9
               rw [Nat.min_eq_left (show ((rd_T36 t535 ji13).f3).toNat ≤ a0.size by have := of_decide_eq_true c27b1; omega)] at c28b6
               replace c28b6 := eq_false (Nat.not_lt.2 c28b6)
               have c28b1 : decide ((a0.extract 0 (((rd_T36 t535 ji13).f3) : Int).toNat).size + ((((⟨#[32, 9, 10]⟩ : ByteArray) ++ (⟨#[47, 42]⟩ : ByteArray)) ++ x2_2) ++ (⟨#[42, 47]⟩ : ByteArray)).size ≤ 9223372036854775807) = true := decide_eq_true c28
               try have c28b2 : (9223372036854775807 < (a0.extract 0 (((rd_T36 t535 ji13).f3) : Int).toNat).size + ((((⟨#[32, 9, 10]⟩ : ByteArray) ++ (⟨#[47, 42]⟩ : ByteArray)) ++ x2_2) ++ (⟨#[42, 47]⟩ : ByteArray)).size) = False := eq_false (Nat.not_lt.2 c28)
               have c29b0 := eq_true (of_decide_eq_true (by first | (with_reducible assumption) | assumption) : 0 ≤ ((rd_T36 t535 ji13).f3))
               have c30b0 := eq_true (of_decide_eq_true (by first | (with_reducible assumption) | assumption) : ((rd_T36 t535 ji13).f3) ≤ (a0.size : Int))
               by_cases c31 : ((a0.extract 0 (((rd_T36 t535 ji13).f3) : Int).toNat) ++ ((((⟨#[32, 9, 10]⟩ : ByteArray) ++ (⟨#[47, 42]⟩ : ByteArray)) ++ x2_2) ++ (⟨#[42, 47]⟩ : ByteArray))).size + (a0.extract (((rd_T36 t535 ji13).f3) : Int).toNat a0.size).size ≤ 9223372036854775807
               ·
                rw [if_pos c31] at H
                have c31b0 := eq_true c31
                have c31b9 := c31
                (try simp [size_mk_] at c31b9)
                (try have c31b8 := eq_false (Nat.not_lt.2 c31b9))
                have c31b6 := c31b9
                rw [Nat.min_eq_left (show ((rd_T36 t535 ji13).f3).toNat ≤ a0.size by have := of_decide_eq_true c27b1; omega)] at c31b6
                replace c31b6 := eq_false (Nat.not_lt.2 c31b6)
                have c31b1 : decide (((a0.extract 0 (((rd_T36 t535 ji13).f3) : Int).toNat) ++ ((((⟨#[32, 9, 10]⟩ : ByteArray) ++ (⟨#[47, 42]⟩ : ByteArray)) ++ x2_2) ++ (⟨#[42, 47]⟩ : ByteArray))).size + (a0.extract (((rd_T36 t535 ji13).f3) : Int).toNat a0.size).size ≤ 9223372036854775807) = true := decide_eq_true c31
                try have c31b2 : (9223372036854775807 < ((a0.extract 0 (((rd_T36 t535 ji13).f3) : Int).toNat) ++ ((((⟨#[32, 9, 10]⟩ : ByteArray) ++ (⟨#[47, 42]⟩ : ByteArray)) ++ x2_2) ++ (⟨#[42, 47]⟩ : ByteArray))).size + (a0.extract (((rd_T36 t535 ji13).f3) : Int).toNat a0.size).size) = False := eq_false (Nat.not_lt.2 c31)
                replace H := Option.bind_eq_some_iff.mp H
                obtain ⟨⟨t542, t543, t544⟩, A320, H⟩ := H
                replace H : (if t544 = 0 then ((gussetref04_Same.f k2 t542 t535).bind fun t547 => (if t547 = true then ((gussetlaw04_sure.f k2).bind fun t548 => (some t548)) else (some false))) else (some false)) = some r := H
                have A32 := Aside0.mk A320
                clear A320
                by_cases c33 : t544 = 0
                ·
                 rw [if_pos c33] at H
                 have c33b0 : (t544 == 0) = true := beq_iff_eq.mpr c33
                 have c33b1 : (t544 != 0) = false := bne_eq_false_iff_eq.mpr c33
                 clear c33
                 replace H := Option.bind_eq_some_iff.mp H
                 obtain ⟨t547, A340, H⟩ := H
                 replace H : (if t547 = true then ((gussetlaw04_sure.f k2).bind fun t548 => (some t548)) else (some false)) = some r := H
                 have A34 := Aside0.mk A340
                 clear A340
                 by_cases c35 : t547 = true
                 ·
                  subst c35
                  have H1 : ((gussetlaw04_sure.f k2).bind fun t548 => (some t548)) = some r := by rw [if_pos rfl] at H; exact H
                  clear H
                  have H := H1
                  clear H1
                  replace H := Option.bind_eq_some_iff.mp H
                  obtain ⟨t548, A360, H⟩ := H
                  replace H : (some t548) = some r := H
                  have A36 := Aside0.mk A360
                  clear A360
                  obtain rfl := Option.some.inj H
                  have p541 : 0 ≤ (ji13 : Int) := of_decide_eq_true (by first | (with_reducible assumption) | assumption)
                  have q541 : ji13 < (t535.length : Int) := of_decide_eq_true (by first | (with_reducible assumption) | assumption)
                  obtain ⟨ad541, e541, hx541_0, hx541_1, hx541_2, hx541_3⟩ := at_T36 (Kd.R_reads' HO_7.out).2.2 ji13 p541 q541
                  cases e541
                  replace p541 := eq_true p541
                  replace q541 := eq_true q541
                  try go_wp2
                  have n0_ := Aside0.mk (Kd.R_drew HO_7.out)
                  have n1_ := Aside0.mk (below_drew1 HB.out)
                  clear HO_7
                  clear HB
                  have HO_7 := n0_
                  have HB := n1_; haveI := GW.of HB.out
                  clear n0_ n1_
                  refine start_ (n := 17) (S := fun w' => True) (ds := []) #[false, false, false, false, false, false, false, false, false, false, false, false, false, false, false, false, false] (by kernel_rfl) rfl rfl trivial (fun hHeld => ?_); refine with_tabW gussetlaw04_LexBlanks.tab13 gussetlaw04_LexBlanks.bits13 (fun HT_ HW_ => ?_)
                  generalize wr.drew = w37 at HO_7 HB hHeld ⊢
                  haveI := GW.of HB.out
                  refine pure_ (i := 0) (N := some 63) (v := ?_) (a' := ?_) #[true, false, false, false, false, false, false, false, false, false, false, false, false, false, false, false, false] rfl rfl (any_of HT_.out (by kernel_rfl)) (fun _ _ _ h => h) (Or.inl ⟨by rfl, ?_⟩) ?_ ?_
                  rotate_left
                  ·
                   intro w'
                   go_simp
                   with_reducible rfl
                  rotate_left
                  ·
                   simp only [Act.put, List.setIfInBounds_toArray, List.set_cons_zero, List.set_cons_succ, i64_w, i32_w]
                   rfl
                  refine pure_ (i := 1) (N := some 64) (v := ?_) (a' := ?_) #[true, true, false, false, false, false, false, false, false, false, false, false, false, false, false, false, false] rfl rfl (any_of HT_.out (by kernel_rfl)) (fun _ _ _ h => h) (Or.inl ⟨by rfl, ?_⟩) ?_ ?_
                  rotate_left
                  ·
                   intro w'
                   go_simp
                   with_reducible rfl
                  rotate_left
                  ·
                   simp only [Act.put, List.setIfInBounds_toArray, List.set_cons_zero, List.set_cons_succ, i64_w, i32_w]
                   rfl
                  refine pure_ (i := 2) (N := some 65) (v := ?_) (a' := ?_) #[true, true, true, false, false, false, false, false, false, false, false, false, false, false, false, false, false] rfl rfl (any_of HT_.out (by kernel_rfl)) (fun _ _ _ h => h) (Or.inl ⟨by rfl, ?_⟩) ?_ ?_
                  rotate_left
                  ·
                   intro w'
                   go_simp
                   with_reducible rfl
                  rotate_left
                  ·
                   simp only [Act.put, List.setIfInBounds_toArray, List.set_cons_zero, List.set_cons_succ, i64_w, i32_w]
                   rfl
                  refine pure_ (i := 3) (N := some 66) (v := ?_) (a' := ?_) #[true, true, true, true, false, false, false, false, false, false, false, false, false, false, false, false, false] rfl rfl (any_of HT_.out (by kernel_rfl)) (fun _ _ _ h => h) (Or.inl ⟨by rfl, ?_⟩) ?_ ?_
                  rotate_left
                  ·
                   intro w'
                   go_simp
                   with_reducible rfl
                  rotate_left
                  ·
                   simp only [Act.put, List.setIfInBounds_toArray, List.set_cons_zero, List.set_cons_succ, i64_w, i32_w]
                   rfl
                  refine pure_ (i := 4) (N := some 67) (v := ?_) (a' := ?_) #[true, true, true, true, true, false, false, false, false, false, false, false, false, false, false, false, false] rfl rfl (any_of HT_.out (by kernel_rfl)) (fun _ _ _ h => h) (Or.inl ⟨by rfl, ?_⟩) ?_ ?_
                  rotate_left
                  ·
                   intro w'
                   go_simp
                   with_reducible rfl
                  rotate_left
                  ·
                   simp only [Act.put, List.setIfInBounds_toArray, List.set_cons_zero, List.set_cons_succ, i64_w, i32_w]
                   rfl
                  refine pure_ (i := 5) (N := some 68) (v := ?_) (a' := ?_) #[true, true, true, true, true, true, false, false, false, false, false, false, false, false, false, false, false] rfl rfl (any_of HT_.out (by kernel_rfl)) (fun _ _ _ h => h) (Or.inl ⟨by rfl, ?_⟩) ?_ ?_
                  rotate_left
                  ·
                   intro w'
                   go_simp
                   with_reducible rfl
                  rotate_left
                  ·
                   simp only [Act.put, List.setIfInBounds_toArray, List.set_cons_zero, List.set_cons_succ, i64_w, i32_w]
                   rfl
                  refine pure_ (i := 6) (N := some 69) (v := ?_) (a' := ?_) #[true, true, true, true, true, true, true, false, false, false, false, false, false, false, false, false, false] rfl rfl (any_of HT_.out (by kernel_rfl)) (fun _ _ _ h => h) (Or.inl ⟨by rfl, ?_⟩) ?_ ?_
                  rotate_left
                  ·
                   intro w'
                   go_simp
                   with_reducible rfl
                  rotate_left
                  ·
                   simp only [Act.put, List.setIfInBounds_toArray, List.set_cons_zero, List.set_cons_succ, i64_w, i32_w]
                   rfl
                  refine pure_ (i := 7) (N := some 70) (v := ?_) (a' := ?_) #[true, true, true, true, true, true, true, true, false, false, false, false, false, false, false, false, false] rfl rfl (any_of HT_.out (by kernel_rfl)) (fun _ _ _ h => h) (Or.inl ⟨by rfl, ?_⟩) ?_ ?_
                  rotate_left
                  ·
                   intro w'
                   go_simp
                   with_reducible rfl
                  rotate_left
                  ·
                   simp only [Act.put, List.setIfInBounds_toArray, List.set_cons_zero, List.set_cons_succ, i64_w, i32_w]
                   rfl
                  refine pure_ (i := 8) (N := some 71) (v := ?_) (a' := ?_) #[true, true, true, true, true, true, true, true, true, false, false, false, false, false, false, false, false] rfl rfl (any_of HT_.out (by kernel_rfl)) (fun _ _ _ h => h) (Or.inl ⟨by rfl, ?_⟩) ?_ ?_
                  rotate_left
                  ·
                   intro w'
                   go_simp
                   with_reducible rfl
                  rotate_left
                  ·
                   simp only [Act.put, List.setIfInBounds_toArray, List.set_cons_zero, List.set_cons_succ, i64_w, i32_w]
                   rfl
                  refine one_ (i := 9) (N := some 72) #[true, true, true, true, true, true, true, true, true, true, false, false, false, false, false, false, false] rfl rfl (one_of HT_.out (by kernel_rfl)) (by decide) (fun K hK => ?_)
                  refine goes_ Tryd.func10 (by kernel_rfl) rfl #[.string (((a0.extract 0 (((rd_T36 t535 ji13).f3) : Int).toNat) ++ ((((⟨#[32, 9, 10]⟩ : ByteArray) ++ (⟨#[47, 42]⟩ : ByteArray)) ++ x2_2) ++ (⟨#[42, 47]⟩ : ByteArray))) ++ (a0.extract (((rd_T36 t535 ji13).f3) : Int).toNat a0.size)), .bool true] (by rfl) rfl rfl (by (try simp only [List.map_toArray, List.map_cons, List.map_nil]); first | done | (simp only [hji13]; rfl) | rfl | (simp only [List.length_drop, List.length_take]; rfl)) ?_
                  with_reducible refine (lex_Lex.calls k2 (((a0.extract 0 (((rd_T36 t535 ji13).f3) : Int).toNat) ++ ((((⟨#[32, 9, 10]⟩ : ByteArray) ++ (⟨#[47, 42]⟩ : ByteArray)) ++ x2_2) ++ (⟨#[42, 47]⟩ : ByteArray))) ++ (a0.extract (((rd_T36 t535 ji13).f3) : Int).toNat a0.size)) true t542 t543 t544 _ A32.out).mono ?_
                  rintro e w38 ⟨v545, rfl, ho0, hb⟩
                  refine ⟨_, rfl, ?_⟩
                  have n0_ := Aside0.mk (Kd.R_elder' (by (with_reducible repeat (first | apply Kd.R_alloc | apply Kd.R_drewN | apply Kd.R_drew)); exact HO_7.out) (Kd.R_base ho0) hb)
                  have n1_ := Aside0.mk (Kd.R_lower (Kd.R_new' ho0 (Kd.R_lt (by (with_reducible repeat (first | apply Kd.R_alloc | apply Kd.R_drewN | apply Kd.R_drew)); exact HO_7.out))) (below_size (by repeat (first | (with_reducible first | exact HB.out | apply below_alloc | apply pw_below_drewN | apply below_drew1) | exact HB.out))))
                  have n2_ := Aside0.mk (below_step (by repeat (first | (with_reducible first | exact HB.out | apply below_alloc | apply pw_below_drewN | apply below_drew1) | exact HB.out)) hb)
                  clear HO_7
                  clear HB
                  have HO_7 := n0_
                  have HO546 := n1_
                  have HB := n2_; haveI := GW.of HB.out
                  clear n0_ n1_ n2_
                  (try clear hb)
                  (try clear hb2)
                  (try clear hk)
                  (try clear hi)
                  (try clear ho0)
                  refine hK.out _ _ trivial (fun hHeld => ?_)
                  clear hK K
                  refine norm_ (a' := ?_) ?_ ?_
                  rotate_left
                  ·
                   show Act.put _ (some 72) _ = _
                   simp only [Act.put, List.setIfInBounds_toArray, List.set_cons_zero, List.set_cons_succ, i64_w, i32_w]
                   rfl
                  refine pure_ (i := 10) (N := some 62) (v := ?_) (a' := ?_) #[true, true, true, true, true, true, true, true, true, true, true, false, false, false, false, false, false] rfl rfl (any_of HT_.out (by kernel_rfl)) (fun _ _ _ h => h) (Or.inl ⟨by rfl, ?_⟩) ?_ ?_
                  rotate_left
                  ·
                   intro w'
                   go_simp
                   with_reducible rfl
                  rotate_left
                  ·
                   simp only [Act.put, List.setIfInBounds_toArray, List.set_cons_zero, List.set_cons_succ, i64_w, i32_w]
                   rfl
                  refine pure_ (i := 11) (N := some 73) (v := ?_) (a' := ?_) #[true, true, true, true, true, true, true, true, true, true, true, true, false, false, false, false, false] rfl rfl (any_of HT_.out (by kernel_rfl)) (fun _ _ _ h => h) (Or.inl ⟨by rfl, ?_⟩) ?_ ?_
                  rotate_left
                  ·
                   intro w'
                   go_simp
                   with_reducible rfl
                  rotate_left
                  ·
                   simp only [Act.put, List.setIfInBounds_toArray, List.set_cons_zero, List.set_cons_succ, i64_w, i32_w]
                   rfl
                  refine pure_ (i := 12) (N := some 74) (v := ?_) (a' := ?_) #[true, true, true, true, true, true, true, true, true, true, true, true, true, false, false, false, false] rfl rfl (any_of HT_.out (by kernel_rfl)) (fun _ _ _ h => h) (Or.inl ⟨by rfl, ?_⟩) ?_ ?_
                  rotate_left
                  ·
                   intro w'
                   go_simp
                   with_reducible rfl
                  rotate_left
                  ·
                   simp only [Act.put, List.setIfInBounds_toArray, List.set_cons_zero, List.set_cons_succ, i64_w, i32_w]
                   rfl
                  refine pure_ (i := 13) (N := some 75) (v := ?_) (a' := ?_) #[true, true, true, true, true, true, true, true, true, true, true, true, true, true, false, false, false] rfl rfl (any_of HT_.out (by kernel_rfl)) (fun _ _ _ h => h) (Or.inl ⟨by rfl, ?_⟩) ?_ ?_
                  rotate_left
                  ·
                   intro w'
                   go_simp
                   with_reducible rfl
                  rotate_left
                  ·
                   simp only [Act.put, List.setIfInBounds_toArray, List.set_cons_zero, List.set_cons_succ, i64_w, i32_w]
                   rfl
                  refine pure_ (i := 14) (N := some 13) (v := ?_) (a' := ?_) #[true, true, true, true, true, true, true, true, true, true, true, true, true, true, true, false, false] rfl rfl (any_of HT_.out (by kernel_rfl)) (fun _ _ _ h => h) (Or.inl ⟨by rfl, ?_⟩) ?_ ?_
                  rotate_left
                  ·
                   intro w'
                   go_simp
                   with_reducible rfl
                  rotate_left
                  ·
                   simp only [Act.put, List.setIfInBounds_toArray, List.set_cons_zero, List.set_cons_succ, i64_w, i32_w]
                   rfl
                  refine pure_ (i := 15) (N := some 14) (v := ?_) (a' := ?_) #[true, true, true, true, true, true, true, true, true, true, true, true, true, true, true, true, false] rfl rfl (any_of HT_.out (by kernel_rfl)) (fun _ _ _ h => h) (Or.inl ⟨by rfl, ?_⟩) ?_ ?_
                  rotate_left
                  ·
                   intro w'
                   go_simp
                   with_reducible rfl
                  rotate_left
                  ·
                   simp only [Act.put, List.setIfInBounds_toArray, List.set_cons_zero, List.set_cons_succ, i64_w, i32_w]
                   rfl
                  refine pure_ (i := 16) (N := some 15) (v := ?_) (a' := ?_) #[true, true, true, true, true, true, true, true, true, true, true, true, true, true, true, true, true] rfl rfl (any_of HT_.out (by kernel_rfl)) (fun _ _ _ h => h) (Or.inl ⟨by rfl, ?_⟩) ?_ ?_
                  rotate_left
                  ·
                   intro w'
                   go_simp
                   with_reducible rfl
                  rotate_left
                  ·
                   simp only [Act.put, List.setIfInBounds_toArray, List.set_cons_zero, List.set_cons_succ, i64_w, i32_w]
                   rfl
                  refine done_ (done_of HT_.out (by kernel_rfl)) ?_
                  obtain ⟨Ao39, co39, eo39⟩ := Kd.R_slice HO546.out
                  subst eo39
                  try go_wp2_with (first | (go_at_call 18; (with_reducible refine (gussetref04_Same.calls k2 _ _ t542 _ _ t535 true _ ?side1 ?side2 ?side3 ?side4 A34.out).mono ?_); (case side1 => repeat (first | exact (Kd.R_reads' HO546.out).2.2 | (with_reducible refine Kd.C_alloc ?_ _) | (with_reducible refine Kd.C_drewN ?_ _) | (with_reducible refine Kd.C_drew ?_))); (case side2 => exact (Kd.R_reads' HO546.out).2.1); (case side3 => repeat (first | exact (Kd.R_reads' HO_7.out).2.2 | (with_reducible refine Kd.C_alloc ?_ _) | (with_reducible refine Kd.C_drewN ?_ _) | (with_reducible refine Kd.C_drew ?_))); (case side4 => exact (Kd.R_reads' HO_7.out).2.1); rintro e w' ⟨rfl, ⟨nd, rfl⟩⟩) | (go_at_call 13; (with_reducible refine (gussetlaw04_sure.calls k2  t548 _ A36.out).mono ?_); rintro e w40 ⟨rfl, hb⟩; have n0_ := Aside0.mk (Kd.R_below (by (with_reducible repeat (first | apply Kd.R_alloc | apply Kd.R_drewN | apply Kd.R_drew)); exact HO_7.out) hb); have n1_ := Aside0.mk (Kd.R_below (by (with_reducible repeat (first | apply Kd.R_alloc | apply Kd.R_drewN | apply Kd.R_drew)); exact HO546.out) hb); have n2_ := Aside0.mk (below_step (by repeat (first | (with_reducible first | exact HB.out | apply below_alloc | apply pw_below_drewN | apply below_drew1) | exact HB.out)) hb); clear HO_7; clear HO546; clear HB; have HO_7 := n0_; have HO546 := n1_; have HB := n2_; haveI := GW.of HB.out; clear n0_ n1_ n2_; (try clear hb); (try clear hb2); (try clear hk); (try clear hi)))
                  go_ret
                  exact ⟨by first | rfl | (simp [errW_none, errW_some] <;> rfl) | (simp only [← hji12, ← hji13]; first | rfl | (simp [errW_none, errW_some] <;> rfl)) | (simp [*, errW_none, errW_some] <;> rfl), by repeat (first | (with_reducible first | exact HB.out | apply below_alloc | apply pw_below_drewN | apply below_drew1) | exact HB.out)⟩
                 ·
                  replace c35 := Bool.eq_false_iff.mpr c35
                  subst c35
                  have H1 : (some false) = some r := by rw [if_neg (show ¬ (false = true) by decide)] at H; exact H
                  clear H
                  have H := H1
                  clear H1
                  obtain rfl := Option.some.inj H
                  have p541 : 0 ≤ (ji13 : Int) := of_decide_eq_true (by first | (with_reducible assumption) | assumption)
                  have q541 : ji13 < (t535.length : Int) := of_decide_eq_true (by first | (with_reducible assumption) | assumption)
                  obtain ⟨ad541, e541, hx541_0, hx541_1, hx541_2, hx541_3⟩ := at_T36 (Kd.R_reads' HO_7.out).2.2 ji13 p541 q541
                  cases e541
                  replace p541 := eq_true p541
                  replace q541 := eq_true q541
                  try go_wp2
                  have n0_ := Aside0.mk (Kd.R_drew HO_7.out)
                  have n1_ := Aside0.mk (below_drew1 HB.out)
                  clear HO_7
                  clear HB
                  have HO_7 := n0_
                  have HB := n1_; haveI := GW.of HB.out
                  clear n0_ n1_
                  refine start_ (n := 17) (S := fun w' => True) (ds := []) #[false, false, false, false, false, false, false, false, false, false, false, false, false, false, false, false, false] (by kernel_rfl) rfl rfl trivial (fun hHeld => ?_); refine with_tabW gussetlaw04_LexBlanks.tab13 gussetlaw04_LexBlanks.bits13 (fun HT_ HW_ => ?_)
                  generalize wr.drew = w41 at HO_7 HB hHeld ⊢
                  haveI := GW.of HB.out
                  refine pure_ (i := 0) (N := some 63) (v := ?_) (a' := ?_) #[true, false, false, false, false, false, false, false, false, false, false, false, false, false, false, false, false] rfl rfl (any_of HT_.out (by kernel_rfl)) (fun _ _ _ h => h) (Or.inl ⟨by rfl, ?_⟩) ?_ ?_
                  rotate_left
                  ·
                   intro w'
                   go_simp
                   with_reducible rfl
                  rotate_left
                  ·
                   simp only [Act.put, List.setIfInBounds_toArray, List.set_cons_zero, List.set_cons_succ, i64_w, i32_w]
                   rfl
                  refine pure_ (i := 1) (N := some 64) (v := ?_) (a' := ?_) #[true, true, false, false, false, false, false, false, false, false, false, false, false, false, false, false, false] rfl rfl (any_of HT_.out (by kernel_rfl)) (fun _ _ _ h => h) (Or.inl ⟨by rfl, ?_⟩) ?_ ?_
                  rotate_left
                  ·
                   intro w'
                   go_simp
                   with_reducible rfl
                  rotate_left
                  ·
                   simp only [Act.put, List.setIfInBounds_toArray, List.set_cons_zero, List.set_cons_succ, i64_w, i32_w]
                   rfl
                  refine pure_ (i := 2) (N := some 65) (v := ?_) (a' := ?_) #[true, true, true, false, false, false, false, false, false, false, false, false, false, false, false, false, false] rfl rfl (any_of HT_.out (by kernel_rfl)) (fun _ _ _ h => h) (Or.inl ⟨by rfl, ?_⟩) ?_ ?_
                  rotate_left
                  ·
                   intro w'
                   go_simp
                   with_reducible rfl
                  rotate_left
                  ·
                   simp only [Act.put, List.setIfInBounds_toArray, List.set_cons_zero, List.set_cons_succ, i64_w, i32_w]
                   rfl
                  refine pure_ (i := 3) (N := some 66) (v := ?_) (a' := ?_) #[true, true, true, true, false, false, false, false, false, false, false, false, false, false, false, false, false] rfl rfl (any_of HT_.out (by kernel_rfl)) (fun _ _ _ h => h) (Or.inl ⟨by rfl, ?_⟩) ?_ ?_
                  rotate_left
                  ·
                   intro w'
                   go_simp
                   with_reducible rfl
                  rotate_left
                  ·
                   simp only [Act.put, List.setIfInBounds_toArray, List.set_cons_zero, List.set_cons_succ, i64_w, i32_w]
                   rfl
                  refine pure_ (i := 4) (N := some 67) (v := ?_) (a' := ?_) #[true, true, true, true, true, false, false, false, false, false, false, false, false, false, false, false, false] rfl rfl (any_of HT_.out (by kernel_rfl)) (fun _ _ _ h => h) (Or.inl ⟨by rfl, ?_⟩) ?_ ?_
                  rotate_left
                  ·
                   intro w'
                   go_simp
                   with_reducible rfl
                  rotate_left
                  ·
                   simp only [Act.put, List.setIfInBounds_toArray, List.set_cons_zero, List.set_cons_succ, i64_w, i32_w]
                   rfl
                  refine pure_ (i := 5) (N := some 68) (v := ?_) (a' := ?_) #[true, true, true, true, true, true, false, false, false, false, false, false, false, false, false, false, false] rfl rfl (any_of HT_.out (by kernel_rfl)) (fun _ _ _ h => h) (Or.inl ⟨by rfl, ?_⟩) ?_ ?_
                  rotate_left
                  ·
                   intro w'
                   go_simp
                   with_reducible rfl
                  rotate_left
                  ·
                   simp only [Act.put, List.setIfInBounds_toArray, List.set_cons_zero, List.set_cons_succ, i64_w, i32_w]
                   rfl
                  refine pure_ (i := 6) (N := some 69) (v := ?_) (a' := ?_) #[true, true, true, true, true, true, true, false, false, false, false, false, false, false, false, false, false] rfl rfl (any_of HT_.out (by kernel_rfl)) (fun _ _ _ h => h) (Or.inl ⟨by rfl, ?_⟩) ?_ ?_
                  rotate_left
                  ·
                   intro w'
                   go_simp
                   with_reducible rfl
                  rotate_left
                  ·
                   simp only [Act.put, List.setIfInBounds_toArray, List.set_cons_zero, List.set_cons_succ, i64_w, i32_w]
                   rfl
                  refine pure_ (i := 7) (N := some 70) (v := ?_) (a' := ?_) #[true, true, true, true, true, true, true, true, false, false, false, false, false, false, false, false, false] rfl rfl (any_of HT_.out (by kernel_rfl)) (fun _ _ _ h => h) (Or.inl ⟨by rfl, ?_⟩) ?_ ?_
                  rotate_left
                  ·
                   intro w'
                   go_simp
                   with_reducible rfl
                  rotate_left
                  ·
                   simp only [Act.put, List.setIfInBounds_toArray, List.set_cons_zero, List.set_cons_succ, i64_w, i32_w]
                   rfl
                  refine pure_ (i := 8) (N := some 71) (v := ?_) (a' := ?_) #[true, true, true, true, true, true, true, true, true, false, false, false, false, false, false, false, false] rfl rfl (any_of HT_.out (by kernel_rfl)) (fun _ _ _ h => h) (Or.inl ⟨by rfl, ?_⟩) ?_ ?_
                  rotate_left
                  ·
                   intro w'
                   go_simp
                   with_reducible rfl
                  rotate_left
                  ·
                   simp only [Act.put, List.setIfInBounds_toArray, List.set_cons_zero, List.set_cons_succ, i64_w, i32_w]
                   rfl
                  refine one_ (i := 9) (N := some 72) #[true, true, true, true, true, true, true, true, true, true, false, false, false, false, false, false, false] rfl rfl (one_of HT_.out (by kernel_rfl)) (by decide) (fun K hK => ?_)
                  refine goes_ Tryd.func10 (by kernel_rfl) rfl #[.string (((a0.extract 0 (((rd_T36 t535 ji13).f3) : Int).toNat) ++ ((((⟨#[32, 9, 10]⟩ : ByteArray) ++ (⟨#[47, 42]⟩ : ByteArray)) ++ x2_2) ++ (⟨#[42, 47]⟩ : ByteArray))) ++ (a0.extract (((rd_T36 t535 ji13).f3) : Int).toNat a0.size)), .bool true] (by rfl) rfl rfl (by (try simp only [List.map_toArray, List.map_cons, List.map_nil]); first | done | (simp only [hji13]; rfl) | rfl | (simp only [List.length_drop, List.length_take]; rfl)) ?_
                  with_reducible refine (lex_Lex.calls k2 (((a0.extract 0 (((rd_T36 t535 ji13).f3) : Int).toNat) ++ ((((⟨#[32, 9, 10]⟩ : ByteArray) ++ (⟨#[47, 42]⟩ : ByteArray)) ++ x2_2) ++ (⟨#[42, 47]⟩ : ByteArray))) ++ (a0.extract (((rd_T36 t535 ji13).f3) : Int).toNat a0.size)) true t542 t543 t544 _ A32.out).mono ?_
                  rintro e w42 ⟨v545, rfl, ho0, hb⟩
                  refine ⟨_, rfl, ?_⟩
                  have n0_ := Aside0.mk (Kd.R_elder' (by (with_reducible repeat (first | apply Kd.R_alloc | apply Kd.R_drewN | apply Kd.R_drew)); exact HO_7.out) (Kd.R_base ho0) hb)
                  have n1_ := Aside0.mk (Kd.R_lower (Kd.R_new' ho0 (Kd.R_lt (by (with_reducible repeat (first | apply Kd.R_alloc | apply Kd.R_drewN | apply Kd.R_drew)); exact HO_7.out))) (below_size (by repeat (first | (with_reducible first | exact HB.out | apply below_alloc | apply pw_below_drewN | apply below_drew1) | exact HB.out))))
                  have n2_ := Aside0.mk (below_step (by repeat (first | (with_reducible first | exact HB.out | apply below_alloc | apply pw_below_drewN | apply below_drew1) | exact HB.out)) hb)
                  clear HO_7
                  clear HB
                  have HO_7 := n0_
                  have HO546 := n1_
                  have HB := n2_; haveI := GW.of HB.out
                  clear n0_ n1_ n2_
                  (try clear hb)
                  (try clear hb2)
                  (try clear hk)
                  (try clear hi)
                  (try clear ho0)
                  refine hK.out _ _ trivial (fun hHeld => ?_)
                  clear hK K
                  refine norm_ (a' := ?_) ?_ ?_
                  rotate_left
                  ·
                   show Act.put _ (some 72) _ = _
                   simp only [Act.put, List.setIfInBounds_toArray, List.set_cons_zero, List.set_cons_succ, i64_w, i32_w]
                   rfl
                  refine pure_ (i := 10) (N := some 62) (v := ?_) (a' := ?_) #[true, true, true, true, true, true, true, true, true, true, true, false, false, false, false, false, false] rfl rfl (any_of HT_.out (by kernel_rfl)) (fun _ _ _ h => h) (Or.inl ⟨by rfl, ?_⟩) ?_ ?_
                  rotate_left
                  ·
                   intro w'
                   go_simp
                   with_reducible rfl
                  rotate_left
                  ·
                   simp only [Act.put, List.setIfInBounds_toArray, List.set_cons_zero, List.set_cons_succ, i64_w, i32_w]
                   rfl
                  refine pure_ (i := 11) (N := some 73) (v := ?_) (a' := ?_) #[true, true, true, true, true, true, true, true, true, true, true, true, false, false, false, false, false] rfl rfl (any_of HT_.out (by kernel_rfl)) (fun _ _ _ h => h) (Or.inl ⟨by rfl, ?_⟩) ?_ ?_
                  rotate_left
                  ·
                   intro w'
                   go_simp
                   with_reducible rfl
                  rotate_left
                  ·
                   simp only [Act.put, List.setIfInBounds_toArray, List.set_cons_zero, List.set_cons_succ, i64_w, i32_w]
                   rfl
                  refine pure_ (i := 12) (N := some 74) (v := ?_) (a' := ?_) #[true, true, true, true, true, true, true, true, true, true, true, true, true, false, false, false, false] rfl rfl (any_of HT_.out (by kernel_rfl)) (fun _ _ _ h => h) (Or.inl ⟨by rfl, ?_⟩) ?_ ?_
                  rotate_left
                  ·
                   intro w'
                   go_simp
                   with_reducible rfl
                  rotate_left
                  ·
                   simp only [Act.put, List.setIfInBounds_toArray, List.set_cons_zero, List.set_cons_succ, i64_w, i32_w]
                   rfl
                  refine pure_ (i := 13) (N := some 75) (v := ?_) (a' := ?_) #[true, true, true, true, true, true, true, true, true, true, true, true, true, true, false, false, false] rfl rfl (any_of HT_.out (by kernel_rfl)) (fun _ _ _ h => h) (Or.inl ⟨by rfl, ?_⟩) ?_ ?_
                  rotate_left
                  ·
                   intro w'
                   go_simp
                   with_reducible rfl
                  rotate_left
                  ·
                   simp only [Act.put, List.setIfInBounds_toArray, List.set_cons_zero, List.set_cons_succ, i64_w, i32_w]
                   rfl
                  refine pure_ (i := 14) (N := some 13) (v := ?_) (a' := ?_) #[true, true, true, true, true, true, true, true, true, true, true, true, true, true, true, false, false] rfl rfl (any_of HT_.out (by kernel_rfl)) (fun _ _ _ h => h) (Or.inl ⟨by rfl, ?_⟩) ?_ ?_
                  rotate_left
                  ·
                   intro w'
                   go_simp
                   with_reducible rfl
                  rotate_left
                  ·
                   simp only [Act.put, List.setIfInBounds_toArray, List.set_cons_zero, List.set_cons_succ, i64_w, i32_w]
                   rfl
                  refine pure_ (i := 15) (N := some 14) (v := ?_) (a' := ?_) #[true, true, true, true, true, true, true, true, true, true, true, true, true, true, true, true, false] rfl rfl (any_of HT_.out (by kernel_rfl)) (fun _ _ _ h => h) (Or.inl ⟨by rfl, ?_⟩) ?_ ?_
                  rotate_left
                  ·
                   intro w'
                   go_simp
                   with_reducible rfl
                  rotate_left
                  ·
                   simp only [Act.put, List.setIfInBounds_toArray, List.set_cons_zero, List.set_cons_succ, i64_w, i32_w]
                   rfl
                  refine pure_ (i := 16) (N := some 15) (v := ?_) (a' := ?_) #[true, true, true, true, true, true, true, true, true, true, true, true, true, true, true, true, true] rfl rfl (any_of HT_.out (by kernel_rfl)) (fun _ _ _ h => h) (Or.inl ⟨by rfl, ?_⟩) ?_ ?_
                  rotate_left
                  ·
                   intro w'
                   go_simp
                   with_reducible rfl
                  rotate_left
                  ·
                   simp only [Act.put, List.setIfInBounds_toArray, List.set_cons_zero, List.set_cons_succ, i64_w, i32_w]
                   rfl
                  refine done_ (done_of HT_.out (by kernel_rfl)) ?_
                  obtain ⟨Ao43, co43, eo43⟩ := Kd.R_slice HO546.out
                  subst eo43
                  try go_wp2_with (first | (go_at_call 18; (with_reducible refine (gussetref04_Same.calls k2 _ _ t542 _ _ t535 false _ ?side1 ?side2 ?side3 ?side4 A34.out).mono ?_); (case side1 => repeat (first | exact (Kd.R_reads' HO546.out).2.2 | (with_reducible refine Kd.C_alloc ?_ _) | (with_reducible refine Kd.C_drewN ?_ _) | (with_reducible refine Kd.C_drew ?_))); (case side2 => exact (Kd.R_reads' HO546.out).2.1); (case side3 => repeat (first | exact (Kd.R_reads' HO_7.out).2.2 | (with_reducible refine Kd.C_alloc ?_ _) | (with_reducible refine Kd.C_drewN ?_ _) | (with_reducible refine Kd.C_drew ?_))); (case side4 => exact (Kd.R_reads' HO_7.out).2.1); rintro e w' ⟨rfl, ⟨nd, rfl⟩⟩))
                  go_ret
                  exact ⟨by first | rfl | (simp [errW_none, errW_some] <;> rfl) | (simp only [← hji12, ← hji13]; first | rfl | (simp [errW_none, errW_some] <;> rfl)) | (simp [*, errW_none, errW_some] <;> rfl), by repeat (first | (with_reducible first | exact HB.out | apply below_alloc | apply pw_below_drewN | apply below_drew1) | exact HB.out)⟩
                ·
                 rw [if_neg c33] at H
                 have c33b0 : (t544 == 0) = false := beq_eq_false_iff_ne.mpr c33
                 have c33b1 : (t544 != 0) = true := bne_iff_ne.mpr c33
                 obtain rfl := Option.some.inj H
                 have p541 : 0 ≤ (ji13 : Int) := of_decide_eq_true (by first | (with_reducible assumption) | assumption)
                 have q541 : ji13 < (t535.length : Int) := of_decide_eq_true (by first | (with_reducible assumption) | assumption)
                 obtain ⟨ad541, e541, hx541_0, hx541_1, hx541_2, hx541_3⟩ := at_T36 (Kd.R_reads' HO_7.out).2.2 ji13 p541 q541
                 cases e541
                 replace p541 := eq_true p541
                 replace q541 := eq_true q541
                 try go_wp2
                 have n0_ := Aside0.mk (Kd.R_drew HO_7.out)
                 have n1_ := Aside0.mk (below_drew1 HB.out)
                 clear HO_7
                 clear HB
                 have HO_7 := n0_
                 have HB := n1_; haveI := GW.of HB.out
                 clear n0_ n1_
                 refine start_ (n := 17) (S := fun w' => True) (ds := []) #[false, false, false, false, false, false, false, false, false, false, false, false, false, false, false, false, false] (by kernel_rfl) rfl rfl trivial (fun hHeld => ?_); refine with_tabW gussetlaw04_LexBlanks.tab13 gussetlaw04_LexBlanks.bits13 (fun HT_ HW_ => ?_)
                 generalize wr.drew = w44 at HO_7 HB hHeld ⊢
                 haveI := GW.of HB.out
                 refine pure_ (i := 0) (N := some 63) (v := ?_) (a' := ?_) #[true, false, false, false, false, false, false, false, false, false, false, false, false, false, false, false, false] rfl rfl (any_of HT_.out (by kernel_rfl)) (fun _ _ _ h => h) (Or.inl ⟨by rfl, ?_⟩) ?_ ?_
                 rotate_left
                 ·
                  intro w'
                  go_simp
                  with_reducible rfl
                 rotate_left
                 ·
                  simp only [Act.put, List.setIfInBounds_toArray, List.set_cons_zero, List.set_cons_succ, i64_w, i32_w]
                  rfl
                 refine pure_ (i := 1) (N := some 64) (v := ?_) (a' := ?_) #[true, true, false, false, false, false, false, false, false, false, false, false, false, false, false, false, false] rfl rfl (any_of HT_.out (by kernel_rfl)) (fun _ _ _ h => h) (Or.inl ⟨by rfl, ?_⟩) ?_ ?_
                 rotate_left
                 ·
                  intro w'
                  go_simp
                  with_reducible rfl
                 rotate_left
                 ·
                  simp only [Act.put, List.setIfInBounds_toArray, List.set_cons_zero, List.set_cons_succ, i64_w, i32_w]
                  rfl
                 refine pure_ (i := 2) (N := some 65) (v := ?_) (a' := ?_) #[true, true, true, false, false, false, false, false, false, false, false, false, false, false, false, false, false] rfl rfl (any_of HT_.out (by kernel_rfl)) (fun _ _ _ h => h) (Or.inl ⟨by rfl, ?_⟩) ?_ ?_
                 rotate_left
                 ·
                  intro w'
                  go_simp
                  with_reducible rfl
                 rotate_left
                 ·
                  simp only [Act.put, List.setIfInBounds_toArray, List.set_cons_zero, List.set_cons_succ, i64_w, i32_w]
                  rfl
                 refine pure_ (i := 3) (N := some 66) (v := ?_) (a' := ?_) #[true, true, true, true, false, false, false, false, false, false, false, false, false, false, false, false, false] rfl rfl (any_of HT_.out (by kernel_rfl)) (fun _ _ _ h => h) (Or.inl ⟨by rfl, ?_⟩) ?_ ?_
                 rotate_left
                 ·
                  intro w'
                  go_simp
                  with_reducible rfl
                 rotate_left
                 ·
                  simp only [Act.put, List.setIfInBounds_toArray, List.set_cons_zero, List.set_cons_succ, i64_w, i32_w]
                  rfl
                 refine pure_ (i := 4) (N := some 67) (v := ?_) (a' := ?_) #[true, true, true, true, true, false, false, false, false, false, false, false, false, false, false, false, false] rfl rfl (any_of HT_.out (by kernel_rfl)) (fun _ _ _ h => h) (Or.inl ⟨by rfl, ?_⟩) ?_ ?_
                 rotate_left
                 ·
                  intro w'
                  go_simp
                  with_reducible rfl
                 rotate_left
                 ·
                  simp only [Act.put, List.setIfInBounds_toArray, List.set_cons_zero, List.set_cons_succ, i64_w, i32_w]
                  rfl
                 refine pure_ (i := 5) (N := some 68) (v := ?_) (a' := ?_) #[true, true, true, true, true, true, false, false, false, false, false, false, false, false, false, false, false] rfl rfl (any_of HT_.out (by kernel_rfl)) (fun _ _ _ h => h) (Or.inl ⟨by rfl, ?_⟩) ?_ ?_
                 rotate_left
                 ·
                  intro w'
                  go_simp
                  with_reducible rfl
                 rotate_left
                 ·
                  simp only [Act.put, List.setIfInBounds_toArray, List.set_cons_zero, List.set_cons_succ, i64_w, i32_w]
                  rfl
                 refine pure_ (i := 6) (N := some 69) (v := ?_) (a' := ?_) #[true, true, true, true, true, true, true, false, false, false, false, false, false, false, false, false, false] rfl rfl (any_of HT_.out (by kernel_rfl)) (fun _ _ _ h => h) (Or.inl ⟨by rfl, ?_⟩) ?_ ?_
                 rotate_left
                 ·
                  intro w'
                  go_simp
                  with_reducible rfl
                 rotate_left
                 ·
                  simp only [Act.put, List.setIfInBounds_toArray, List.set_cons_zero, List.set_cons_succ, i64_w, i32_w]
                  rfl
                 refine pure_ (i := 7) (N := some 70) (v := ?_) (a' := ?_) #[true, true, true, true, true, true, true, true, false, false, false, false, false, false, false, false, false] rfl rfl (any_of HT_.out (by kernel_rfl)) (fun _ _ _ h => h) (Or.inl ⟨by rfl, ?_⟩) ?_ ?_
                 rotate_left
                 ·
                  intro w'
                  go_simp
                  with_reducible rfl
                 rotate_left
                 ·
                  simp only [Act.put, List.setIfInBounds_toArray, List.set_cons_zero, List.set_cons_succ, i64_w, i32_w]
                  rfl
                 refine pure_ (i := 8) (N := some 71) (v := ?_) (a' := ?_) #[true, true, true, true, true, true, true, true, true, false, false, false, false, false, false, false, false] rfl rfl (any_of HT_.out (by kernel_rfl)) (fun _ _ _ h => h) (Or.inl ⟨by rfl, ?_⟩) ?_ ?_
                 rotate_left
                 ·
                  intro w'
                  go_simp
                  with_reducible rfl
                 rotate_left
                 ·
                  simp only [Act.put, List.setIfInBounds_toArray, List.set_cons_zero, List.set_cons_succ, i64_w, i32_w]
                  rfl
                 refine one_ (i := 9) (N := some 72) #[true, true, true, true, true, true, true, true, true, true, false, false, false, false, false, false, false] rfl rfl (one_of HT_.out (by kernel_rfl)) (by decide) (fun K hK => ?_)
                 refine goes_ Tryd.func10 (by kernel_rfl) rfl #[.string (((a0.extract 0 (((rd_T36 t535 ji13).f3) : Int).toNat) ++ ((((⟨#[32, 9, 10]⟩ : ByteArray) ++ (⟨#[47, 42]⟩ : ByteArray)) ++ x2_2) ++ (⟨#[42, 47]⟩ : ByteArray))) ++ (a0.extract (((rd_T36 t535 ji13).f3) : Int).toNat a0.size)), .bool true] (by rfl) rfl rfl (by (try simp only [List.map_toArray, List.map_cons, List.map_nil]); first | done | (simp only [hji13]; rfl) | rfl | (simp only [List.length_drop, List.length_take]; rfl)) ?_
                 with_reducible refine (lex_Lex.calls k2 (((a0.extract 0 (((rd_T36 t535 ji13).f3) : Int).toNat) ++ ((((⟨#[32, 9, 10]⟩ : ByteArray) ++ (⟨#[47, 42]⟩ : ByteArray)) ++ x2_2) ++ (⟨#[42, 47]⟩ : ByteArray))) ++ (a0.extract (((rd_T36 t535 ji13).f3) : Int).toNat a0.size)) true t542 t543 t544 _ A32.out).mono ?_
                 rintro e w45 ⟨v545, rfl, ho0, hb⟩
                 refine ⟨_, rfl, ?_⟩
                 have n0_ := Aside0.mk (Kd.R_elder' (by (with_reducible repeat (first | apply Kd.R_alloc | apply Kd.R_drewN | apply Kd.R_drew)); exact HO_7.out) (Kd.R_base ho0) hb)
                 have n1_ := Aside0.mk (Kd.R_lower (Kd.R_new' ho0 (Kd.R_lt (by (with_reducible repeat (first | apply Kd.R_alloc | apply Kd.R_drewN | apply Kd.R_drew)); exact HO_7.out))) (below_size (by repeat (first | (with_reducible first | exact HB.out | apply below_alloc | apply pw_below_drewN | apply below_drew1) | exact HB.out))))
                 have n2_ := Aside0.mk (below_step (by repeat (first | (with_reducible first | exact HB.out | apply below_alloc | apply pw_below_drewN | apply below_drew1) | exact HB.out)) hb)
                 clear HO_7
                 clear HB
                 have HO_7 := n0_
                 have HO546 := n1_
                 have HB := n2_; haveI := GW.of HB.out
                 clear n0_ n1_ n2_
                 (try clear hb)
                 (try clear hb2)
                 (try clear hk)
                 (try clear hi)
                 (try clear ho0)
                 refine hK.out _ _ trivial (fun hHeld => ?_)
                 clear hK K
                 refine norm_ (a' := ?_) ?_ ?_
                 rotate_left
                 ·
                  show Act.put _ (some 72) _ = _
                  simp only [Act.put, List.setIfInBounds_toArray, List.set_cons_zero, List.set_cons_succ, i64_w, i32_w]
                  rfl
                 refine pure_ (i := 10) (N := some 62) (v := ?_) (a' := ?_) #[true, true, true, true, true, true, true, true, true, true, true, false, false, false, false, false, false] rfl rfl (any_of HT_.out (by kernel_rfl)) (fun _ _ _ h => h) (Or.inl ⟨by rfl, ?_⟩) ?_ ?_
                 rotate_left
                 ·
                  intro w'
                  go_simp
                  with_reducible rfl
                 rotate_left
                 ·
                  simp only [Act.put, List.setIfInBounds_toArray, List.set_cons_zero, List.set_cons_succ, i64_w, i32_w]
                  rfl
                 refine pure_ (i := 11) (N := some 73) (v := ?_) (a' := ?_) #[true, true, true, true, true, true, true, true, true, true, true, true, false, false, false, false, false] rfl rfl (any_of HT_.out (by kernel_rfl)) (fun _ _ _ h => h) (Or.inl ⟨by rfl, ?_⟩) ?_ ?_
                 rotate_left
                 ·
                  intro w'
                  go_simp
                  with_reducible rfl
                 rotate_left
                 ·
                  simp only [Act.put, List.setIfInBounds_toArray, List.set_cons_zero, List.set_cons_succ, i64_w, i32_w]
                  rfl
                 refine pure_ (i := 12) (N := some 74) (v := ?_) (a' := ?_) #[true, true, true, true, true, true, true, true, true, true, true, true, true, false, false, false, false] rfl rfl (any_of HT_.out (by kernel_rfl)) (fun _ _ _ h => h) (Or.inl ⟨by rfl, ?_⟩) ?_ ?_
                 rotate_left
                 ·
                  intro w'
                  go_simp
                  with_reducible rfl
                 rotate_left
                 ·
                  simp only [Act.put, List.setIfInBounds_toArray, List.set_cons_zero, List.set_cons_succ, i64_w, i32_w]
                  rfl
                 refine pure_ (i := 13) (N := some 75) (v := ?_) (a' := ?_) #[true, true, true, true, true, true, true, true, true, true, true, true, true, true, false, false, false] rfl rfl (any_of HT_.out (by kernel_rfl)) (fun _ _ _ h => h) (Or.inl ⟨by rfl, ?_⟩) ?_ ?_
                 rotate_left
                 ·
                  intro w'
                  go_simp
                  with_reducible rfl
                 rotate_left
                 ·
                  simp only [Act.put, List.setIfInBounds_toArray, List.set_cons_zero, List.set_cons_succ, i64_w, i32_w]
                  rfl
                 refine pure_ (i := 14) (N := some 13) (v := ?_) (a' := ?_) #[true, true, true, true, true, true, true, true, true, true, true, true, true, true, true, false, false] rfl rfl (any_of HT_.out (by kernel_rfl)) (fun _ _ _ h => h) (Or.inl ⟨by rfl, ?_⟩) ?_ ?_
                 rotate_left
                 ·
                  intro w'
                  go_simp
                  with_reducible rfl
                 rotate_left
                 ·
                  simp only [Act.put, List.setIfInBounds_toArray, List.set_cons_zero, List.set_cons_succ, i64_w, i32_w]
                  rfl
                 refine pure_ (i := 15) (N := some 14) (v := ?_) (a' := ?_) #[true, true, true, true, true, true, true, true, true, true, true, true, true, true, true, true, false] rfl rfl (any_of HT_.out (by kernel_rfl)) (fun _ _ _ h => h) (Or.inl ⟨by rfl, ?_⟩) ?_ ?_
                 rotate_left
                 ·
                  intro w'
                  go_simp
                  with_reducible rfl
                 rotate_left
                 ·
                  simp only [Act.put, List.setIfInBounds_toArray, List.set_cons_zero, List.set_cons_succ, i64_w, i32_w]
                  rfl
                 refine pure_ (i := 16) (N := some 15) (v := ?_) (a' := ?_) #[true, true, true, true, true, true, true, true, true, true, true, true, true, true, true, true, true] rfl rfl (any_of HT_.out (by kernel_rfl)) (fun _ _ _ h => h) (Or.inl ⟨by rfl, ?_⟩) ?_ ?_
                 rotate_left
                 ·
                  intro w'
                  go_simp
                  with_reducible rfl
                 rotate_left
                 ·
                  simp only [Act.put, List.setIfInBounds_toArray, List.set_cons_zero, List.set_cons_succ, i64_w, i32_w]
                  rfl
                 refine done_ (done_of HT_.out (by kernel_rfl)) ?_
                 try go_wp2
                 go_ret
                 exact ⟨by first | rfl | (simp [errW_none, errW_some] <;> rfl) | (simp only [← hji12, ← hji13]; first | rfl | (simp [errW_none, errW_some] <;> rfl)) | (simp [*, errW_none, errW_some] <;> rfl), by repeat (first | (with_reducible first | exact HB.out | apply below_alloc | apply pw_below_drewN | apply below_drew1) | exact HB.out)⟩
               ·
                rw [if_neg c31] at H
                exact absurd H (by simp)
              ·
               rw [if_neg c28] at H
               exact absurd H (by simp)
             ·
              rw [if_neg c27] at H
              exact absurd H (by simp)
            ·
             rw [if_neg c26] at H
             exact absurd H (by simp)
           ·
            rw [if_neg c25] at H
            exact absurd H (by simp)
          ·
           rw [if_neg c24] at H
           exact absurd H (by simp)
         ·
          rw [if_neg c23] at H
          exact absurd H (by simp)
        ·
         rw [if_neg c22] at H
         exact absurd H (by simp)
       ·
        rw [if_neg c21] at H
        exact absurd H (by simp)

/-- THE ONE PURE STATEMENT of gussetlaw04_LexBlanks: yours. -/
def gussetlaw04_LexBlanks.Pure : Prop := ∀ (a0 : ByteArray) (a1 : Int) (a2 : ByteArray), a0.size ≤ 140737488351232 → (Lit.int .i64 a1).wf = true → a2.size ≤ 140737488351232 → ∃ k, gussetlaw04_LexBlanks.f k a0 a1 a2 = some true
theorem gussetlaw04_LexBlanks.walk (P : gussetlaw04_LexBlanks.Pure) (a0 : ByteArray) (a1 : Int) (a2 : ByteArray) (w : World) [GW w] (w0 : a0.size ≤ 140737488351232) (w1 : (Lit.int .i64 a1).wf = true) (w2 : a2.size ≤ 140737488351232) :
  Calls Tryd.prog 8 #[.string a0, .int .i64 a1, .string a2] w fun e w' => e = .returned (.bool true) ∧ Below w.heap.size w w' := by
 obtain ⟨k, h⟩ := P a0 a1 a2 w0 w1 w2
 refine (gussetlaw04_LexBlanks.calls k a0 a1 a2 true w h).mono ?_
 rintro e w' ⟨rfl, hd⟩
 exact ⟨rfl, hd⟩


end Go.Proofs.YtbnpgobjbokboaaDoor.PLex
