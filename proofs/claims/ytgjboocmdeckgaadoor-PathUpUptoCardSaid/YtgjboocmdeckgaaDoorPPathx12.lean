/- Contracts: gussetlaw03_PathSettles. -/
import Derived.Test.YtgjboocmdeckgaaDoorPPathx0
import Derived.Test.YtgjboocmdeckgaaDoorPPathx4
import Derived.Test.YtgjboocmdeckgaaDoorPPathx7
import Derived.Test.YtgjboocmdeckgaaDoorPPathx9
namespace Go.Proofs.YtgjboocmdeckgaaDoor.PPath
open Go.RowKit Go.Proofs.YtgjboocmdeckgaaDoorW.PrintWords Go.Proofs.YtgjboocmdeckgaaDoorW.PrintLast Go.Proofs.YtgjboocmdeckgaaDoorW.PrintMore
attribute [local go_sem] max2_int min2_int max_two min_two max_three min_three max_four min_four   -- for this text's walks alone
set_option linter.unusedVariables false
set_option linter.unusedSimpArgs false

/-! ### gussetlaw03_PathSettles: function 6 -/
mutual
def gussetlaw03_PathSettles.j1 : Nat → ByteArray → ByteArray → Option (Bool)
  | 0, _, _ => none
  | k + 1, x1, x5 => (path_Join.f k x5 x1).bind fun bt211 => (if bt211.2 = 0 then ((path_Normal.f k bt211.1).bind fun bt213 => (if bt213.1.toList = bt211.1.toList then (some (bt213.2 == 0)) else (some false))) else (some (bt211.1.toList == ([] : List UInt8))))
def gussetlaw03_PathSettles.j0 : Nat → ByteArray → ByteArray → Bool → Option (Bool)
  | 0, _, _, _ => none
  | k + 1, x1, x5, x58 => if x58 = true then (some false) else ((path_Join.f k x5 (⟨#[46, 47, 120]⟩ : ByteArray)).bind fun bt206 => (if bt206.2 = 0 then ((path_Dir.f k bt206.1).bind fun t208 => ((path_Dir.f k x5).bind fun t209 => (if t208.toList = t209.toList then ((path_Dir.f k x5).bind fun t209 => (if t209.size + 2 ≤ 9223372036854775807 then (if bt206.1.toList = (t209 ++ (⟨#[47, 120]⟩ : ByteArray)).toList then (gussetlaw03_PathSettles.j1 k x1 x5) else (some false)) else (none))) else (some false)))) else (gussetlaw03_PathSettles.j1 k x1 x5)))
end
def gussetlaw03_PathSettles.f (k : Nat) (a0 : ByteArray) (a1 : ByteArray) : Option (Bool) := (gussetlaw03_awake.f k).bind fun t201 => (if t201 = true then ((path_Normal.f k a0).bind fun bt202 => (if bt202.2 = 0 then ((path_Normal.f k bt202.1).bind fun bt204 => (if bt204.1.toList = bt202.1.toList then (if bt204.2 = 0 then (if (bt202.1.size : Int) < 2 then (gussetlaw03_PathSettles.j0 k a1 bt202.1 true) else (if (bt202.1.size : Int) > 200 then (gussetlaw03_PathSettles.j0 k a1 bt202.1 true) else (if 0 < (bt202.1.size : Int) then (if (bt bt202.1 0) = 47 then (if 0 ≤ (wrap64 ((bt202.1.size : Int) - 1)) then (if (wrap64 ((bt202.1.size : Int) - 1)) < (bt202.1.size : Int) then (gussetlaw03_PathSettles.j0 k a1 bt202.1 ((bt bt202.1 (wrap64 ((bt202.1.size : Int) - 1))) == 47)) else (none)) else (none)) else (gussetlaw03_PathSettles.j0 k a1 bt202.1 true)) else (none)))) else (gussetlaw03_PathSettles.j0 k a1 bt202.1 true)) else (gussetlaw03_PathSettles.j0 k a1 bt202.1 true))) else (gussetlaw03_PathSettles.j1 k a1 bt202.1))) else (some false))
theorem gussetlaw03_PathSettles.mono_l : ∀ k, (∀ y0 y1, LeO (gussetlaw03_PathSettles.j1 k y0 y1) (gussetlaw03_PathSettles.j1 (k + 1) y0 y1)) ∧ (∀ y0 y1 y2, LeO (gussetlaw03_PathSettles.j0 k y0 y1 y2) (gussetlaw03_PathSettles.j0 (k + 1) y0 y1 y2))
  | 0 => ⟨fun _ _ r h => by simp [gussetlaw03_PathSettles.j1] at h, fun _ _ _ r h => by simp [gussetlaw03_PathSettles.j0] at h⟩
  | k + 1 => by
    obtain ⟨ih0, ih1⟩ := gussetlaw03_PathSettles.mono_l k
    refine ⟨?_, ?_⟩
    · intro y0 y1
      unfold gussetlaw03_PathSettles.j1
      repeat' first
      | (with_reducible exact ih0 _ _)
      | (with_reducible exact ih1 _ _ _)
      | (with_reducible exact gussetlaw03_awake.mono _)
      | (with_reducible exact path_Dir.mono _ _)
      | (with_reducible exact path_Join.mono _ _ _)
      | (with_reducible exact path_Normal.mono _ _)
      | (with_reducible exact LeO.refl _)
      | (with_reducible exact LeO.none _)
      | (with_reducible refine LeO.ite ?_ ?_)
      | (with_reducible refine LeO.bind ?_ (fun _ => ?_))
      | exact ih0 _ _
      | exact ih1 _ _ _
      | exact gussetlaw03_awake.mono _
      | exact path_Dir.mono _ _
      | exact path_Join.mono _ _ _
      | exact path_Normal.mono _ _
      | exact LeO.none _
      | refine LeO.ite ?_ ?_
      | refine LeO.bind ?_ (fun _ => ?_)
    · intro y0 y1 y2
      unfold gussetlaw03_PathSettles.j0
      repeat' first
      | (with_reducible exact ih0 _ _)
      | (with_reducible exact ih1 _ _ _)
      | (with_reducible exact gussetlaw03_awake.mono _)
      | (with_reducible exact path_Dir.mono _ _)
      | (with_reducible exact path_Join.mono _ _ _)
      | (with_reducible exact path_Normal.mono _ _)
      | (with_reducible exact LeO.refl _)
      | (with_reducible exact LeO.none _)
      | (with_reducible refine LeO.ite ?_ ?_)
      | (with_reducible refine LeO.bind ?_ (fun _ => ?_))
      | exact ih0 _ _
      | exact ih1 _ _ _
      | exact gussetlaw03_awake.mono _
      | exact path_Dir.mono _ _
      | exact path_Join.mono _ _ _
      | exact path_Normal.mono _ _
      | exact LeO.none _
      | refine LeO.ite ?_ ?_
      | refine LeO.bind ?_ (fun _ => ?_)
theorem gussetlaw03_PathSettles.mono : ∀ a0 a1 k, LeO (gussetlaw03_PathSettles.f k a0 a1) (gussetlaw03_PathSettles.f (k + 1) a0 a1) := by
  intro a0 a1 k
  obtain ⟨ih0, ih1⟩ := gussetlaw03_PathSettles.mono_l k
  unfold gussetlaw03_PathSettles.f
  repeat' first
      | (with_reducible exact ih0 _ _)
      | (with_reducible exact ih1 _ _ _)
      | (with_reducible exact gussetlaw03_awake.mono _)
      | (with_reducible exact path_Dir.mono _ _)
      | (with_reducible exact path_Join.mono _ _ _)
      | (with_reducible exact path_Normal.mono _ _)
      | (with_reducible exact LeO.refl _)
      | (with_reducible exact LeO.none _)
      | (with_reducible refine LeO.ite ?_ ?_)
      | (with_reducible refine LeO.bind ?_ (fun _ => ?_))
      | exact ih0 _ _
      | exact ih1 _ _ _
      | exact gussetlaw03_awake.mono _
      | exact path_Dir.mono _ _
      | exact path_Join.mono _ _ _
      | exact path_Normal.mono _ _
      | exact LeO.none _
      | refine LeO.ite ?_ ?_
      | refine LeO.bind ?_ (fun _ => ?_)
set_option maxHeartbeats 8000000 in
set_option maxRecDepth 100000 in
theorem gussetlaw03_PathSettles.calls (k : Nat) (a0 : ByteArray) (a1 : ByteArray) (r : Bool) (w : World) [GW w] (h : gussetlaw03_PathSettles.f k a0 a1 = some r) :
    Calls Tryd.prog 6 #[.string a0, .string a1] w fun e w' => e = .returned (.bool r) ∧ Below w.heap.size w w' := by
  have HB := Aside0.mk (Below.refl w.heap.size w)
  have H : ((gussetlaw03_awake.f k).bind fun t201 => (if t201 = true then ((path_Normal.f k a0).bind fun bt202 => (if bt202.2 = 0 then ((path_Normal.f k bt202.1).bind fun bt204 => (if bt204.1.toList = bt202.1.toList then (if bt204.2 = 0 then (if (bt202.1.size : Int) < 2 then (gussetlaw03_PathSettles.j0 k a1 bt202.1 true) else (if (bt202.1.size : Int) > 200 then (gussetlaw03_PathSettles.j0 k a1 bt202.1 true) else (if 0 < (bt202.1.size : Int) then (if (bt bt202.1 0) = 47 then (if 0 ≤ (wrap64 ((bt202.1.size : Int) - 1)) then (if (wrap64 ((bt202.1.size : Int) - 1)) < (bt202.1.size : Int) then (gussetlaw03_PathSettles.j0 k a1 bt202.1 ((bt bt202.1 (wrap64 ((bt202.1.size : Int) - 1))) == 47)) else (none)) else (none)) else (gussetlaw03_PathSettles.j0 k a1 bt202.1 true)) else (none)))) else (gussetlaw03_PathSettles.j0 k a1 bt202.1 true)) else (gussetlaw03_PathSettles.j0 k a1 bt202.1 true))) else (gussetlaw03_PathSettles.j1 k a1 bt202.1))) else (some false))) = some r := h
  clear h
  replace H := Option.bind_eq_some_iff.mp H
  obtain ⟨t201, A30, H⟩ := H
  replace H : (if t201 = true then ((path_Normal.f k a0).bind fun bt202 => (if bt202.2 = 0 then ((path_Normal.f k bt202.1).bind fun bt204 => (if bt204.1.toList = bt202.1.toList then (if bt204.2 = 0 then (if (bt202.1.size : Int) < 2 then (gussetlaw03_PathSettles.j0 k a1 bt202.1 true) else (if (bt202.1.size : Int) > 200 then (gussetlaw03_PathSettles.j0 k a1 bt202.1 true) else (if 0 < (bt202.1.size : Int) then (if (bt bt202.1 0) = 47 then (if 0 ≤ (wrap64 ((bt202.1.size : Int) - 1)) then (if (wrap64 ((bt202.1.size : Int) - 1)) < (bt202.1.size : Int) then (gussetlaw03_PathSettles.j0 k a1 bt202.1 ((bt bt202.1 (wrap64 ((bt202.1.size : Int) - 1))) == 47)) else (none)) else (none)) else (gussetlaw03_PathSettles.j0 k a1 bt202.1 true)) else (none)))) else (gussetlaw03_PathSettles.j0 k a1 bt202.1 true)) else (gussetlaw03_PathSettles.j0 k a1 bt202.1 true))) else (gussetlaw03_PathSettles.j1 k a1 bt202.1))) else (some false)) = some r := H
  have A3 := Aside0.mk A30
  clear A30
  by_cases c4 : t201 = true
  · subst c4
    have H1 : ((path_Normal.f k a0).bind fun bt202 => (if bt202.2 = 0 then ((path_Normal.f k bt202.1).bind fun bt204 => (if bt204.1.toList = bt202.1.toList then (if bt204.2 = 0 then (if (bt202.1.size : Int) < 2 then (gussetlaw03_PathSettles.j0 k a1 bt202.1 true) else (if (bt202.1.size : Int) > 200 then (gussetlaw03_PathSettles.j0 k a1 bt202.1 true) else (if 0 < (bt202.1.size : Int) then (if (bt bt202.1 0) = 47 then (if 0 ≤ (wrap64 ((bt202.1.size : Int) - 1)) then (if (wrap64 ((bt202.1.size : Int) - 1)) < (bt202.1.size : Int) then (gussetlaw03_PathSettles.j0 k a1 bt202.1 ((bt bt202.1 (wrap64 ((bt202.1.size : Int) - 1))) == 47)) else (none)) else (none)) else (gussetlaw03_PathSettles.j0 k a1 bt202.1 true)) else (none)))) else (gussetlaw03_PathSettles.j0 k a1 bt202.1 true)) else (gussetlaw03_PathSettles.j0 k a1 bt202.1 true))) else (gussetlaw03_PathSettles.j1 k a1 bt202.1))) = some r := by rw [if_pos rfl] at H; exact H
    clear H
    have H := H1
    clear H1
    replace H := Option.bind_eq_some_iff.mp H
    obtain ⟨⟨t202, t203⟩, A50, H⟩ := H
    replace H : (if t203 = 0 then ((path_Normal.f k t202).bind fun bt204 => (if bt204.1.toList = t202.toList then (if bt204.2 = 0 then (if (t202.size : Int) < 2 then (gussetlaw03_PathSettles.j0 k a1 t202 true) else (if (t202.size : Int) > 200 then (gussetlaw03_PathSettles.j0 k a1 t202 true) else (if 0 < (t202.size : Int) then (if (bt t202 0) = 47 then (if 0 ≤ (wrap64 ((t202.size : Int) - 1)) then (if (wrap64 ((t202.size : Int) - 1)) < (t202.size : Int) then (gussetlaw03_PathSettles.j0 k a1 t202 ((bt t202 (wrap64 ((t202.size : Int) - 1))) == 47)) else (none)) else (none)) else (gussetlaw03_PathSettles.j0 k a1 t202 true)) else (none)))) else (gussetlaw03_PathSettles.j0 k a1 t202 true)) else (gussetlaw03_PathSettles.j0 k a1 t202 true))) else (gussetlaw03_PathSettles.j1 k a1 t202)) = some r := H
    have A5 := Aside0.mk A50
    clear A50
    have HC6 := Aside0.mk H
    clear H
    go_enter Tryd.func6, Tryd.ntmps6
    go_upto_if 23 with (first | ((with_reducible refine gate_callee (f := 12) rfl ?_); refine goesL_ (some 15) rfl rfl Tryd.func12 (by kernel_rfl) rfl #[] rfl (by (try simp only [List.map_toArray, List.map_cons, List.map_nil]); first | done | rfl | (simp only [List.length_drop, List.length_take]; rfl)) ?_; (with_reducible refine (gussetlaw03_awake.calls k  true _ A3.out).mono ?_); rintro e w7 ⟨rfl, hb⟩; refine ⟨_, rfl, ?_⟩; have n0_ := Aside0.mk (below_step (by repeat (first | (with_reducible first | exact HB.out | apply below_alloc | apply pw_below_drewN | apply below_drew1) | exact HB.out)) hb); clear HB; have HB := n0_; haveI := GW.of HB.out; clear n0_; (try clear hb); (try clear hb2); (try clear hk); (try clear hi)) | ((with_reducible refine gate_callee (f := 8) rfl ?_); refine goesL_ (some 19) rfl rfl Tryd.func8 (by kernel_rfl) rfl #[.string a0] rfl (by (try simp only [List.map_toArray, List.map_cons, List.map_nil]); first | done | rfl | (simp only [List.length_drop, List.length_take]; rfl)) ?_; (with_reducible refine (path_Normal.calls k a0 t202 t203 _ A5.out).mono ?_); rintro e w8 ⟨rfl, hb⟩; refine ⟨_, rfl, ?_⟩; have n0_ := Aside0.mk (below_step (by repeat (first | (with_reducible first | exact HB.out | apply below_alloc | apply pw_below_drewN | apply below_drew1) | exact HB.out)) hb); clear HB; have HB := n0_; haveI := GW.of HB.out; clear n0_; (try clear hb); (try clear hb2); (try clear hk); (try clear hi)))
    (try simp only [Act.put, List.setIfInBounds_toArray, List.set_cons_zero, List.set_cons_succ])
    go_cut [] (fun wc => ∃ (kq : Nat), Aside0 (gussetlaw03_PathSettles.j1 kq a1 t202 = some r) ∧ Aside0 (kq ≤ k) ∧ Aside0 (Below w.heap.size w wc))
    case first =>
      have H := HC6.out
      clear HC6
      by_cases c9 : t203 = 0
      · rw [if_pos c9] at H
        have c9b0 : (t203 == 0) = true := beq_iff_eq.mpr c9
        have c9b1 : (t203 != 0) = false := bne_eq_false_iff_eq.mpr c9
        clear c9
        (first | rw [c9b0] | (simp only [i64_w, i32_w]; rw [c9b0]) | skip)
        replace H := Option.bind_eq_some_iff.mp H
        obtain ⟨⟨t204, t205⟩, A100, H⟩ := H
        replace H : (if t204.toList = t202.toList then (if t205 = 0 then (if (t202.size : Int) < 2 then (gussetlaw03_PathSettles.j0 k a1 t202 true) else (if (t202.size : Int) > 200 then (gussetlaw03_PathSettles.j0 k a1 t202 true) else (if 0 < (t202.size : Int) then (if (bt t202 0) = 47 then (if 0 ≤ (wrap64 ((t202.size : Int) - 1)) then (if (wrap64 ((t202.size : Int) - 1)) < (t202.size : Int) then (gussetlaw03_PathSettles.j0 k a1 t202 ((bt t202 (wrap64 ((t202.size : Int) - 1))) == 47)) else (none)) else (none)) else (gussetlaw03_PathSettles.j0 k a1 t202 true)) else (none)))) else (gussetlaw03_PathSettles.j0 k a1 t202 true)) else (gussetlaw03_PathSettles.j0 k a1 t202 true)) = some r := H
        have A10 := Aside0.mk A100
        clear A100
        have HC11 := Aside0.mk H
        clear H
        go_upto_region 6 with (first | ((with_reducible refine gate_callee (f := 8) rfl ?_); refine goesL_ (some 26) rfl rfl Tryd.func8 (by kernel_rfl) rfl #[.string t202] rfl (by (try simp only [List.map_toArray, List.map_cons, List.map_nil]); first | done | rfl | (simp only [List.length_drop, List.length_take]; rfl)) ?_; (with_reducible refine (path_Normal.calls k t202 t204 t205 _ A10.out).mono ?_); rintro e w12 ⟨rfl, hb⟩; refine ⟨_, rfl, ?_⟩; have n0_ := Aside0.mk (below_step (by repeat (first | (with_reducible first | exact HB.out | apply below_alloc | apply pw_below_drewN | apply below_drew1) | exact HB.out)) hb); clear HB; have HB := n0_; haveI := GW.of HB.out; clear n0_; (try clear hb); (try clear hb2); (try clear hk); (try clear hi)))
        (try simp only [Act.put, List.setIfInBounds_toArray, List.set_cons_zero, List.set_cons_succ])
        go_cut [58] (fun v58 wc => ∃ (kq : Nat) (x58_10 : Bool), v58 = .bool x58_10 ∧ Aside0 (gussetlaw03_PathSettles.j0 kq a1 t202 x58_10 = some r) ∧ Aside0 (kq ≤ k) ∧ Aside0 (Below w.heap.size w wc))
        case first =>
          have H := HC11.out
          clear HC11
          by_cases c13 : t204.toList = t202.toList
          · rw [if_pos c13] at H
            have c13b0 : (t204.toList == t202.toList) = true := beq_iff_eq.mpr c13
            have c13b1 : (t204.toList != t202.toList) = false := bne_eq_false_iff_eq.mpr c13
            clear c13
            (first | rw [c13b0] | (simp only [i64_w, i32_w]; rw [c13b0]) | skip)
            by_cases c14 : t205 = 0
            · rw [if_pos c14] at H
              have c14b0 : (t205 == 0) = true := beq_iff_eq.mpr c14
              have c14b1 : (t205 != 0) = false := bne_eq_false_iff_eq.mpr c14
              clear c14
              by_cases c15 : (t202.size : Int) < 2
              · rw [if_pos c15] at H
                have c15b0 : decide ((t202.size : Int) < 2) = true := decide_eq_true c15
                have c15b1 : decide (t202.size < 2) = true := decide_eq_true (by omega)
                clear c15
                have H' := Aside0.mk H
                clear H
                go_wp2
                go_meet
                case rel => exact ⟨_, (true), (by first | rfl | (simp; done) | (simp [*]; done)), H', ⟨by first | omega | exact Nat.le_refl _⟩, ⟨by repeat (first | (with_reducible first | exact HB.out | apply below_alloc | apply pw_below_drewN | apply below_drew1) | exact HB.out)⟩⟩
              · rw [if_neg c15] at H
                have c15b0 : decide ((t202.size : Int) < 2) = false := decide_eq_false c15
                have c15b1 : decide (t202.size < 2) = false := decide_eq_false (by omega)
                clear c15
                by_cases c16 : (t202.size : Int) > 200
                · rw [if_pos c16] at H
                  have c16b0 : decide (200 < (t202.size : Int)) = true := decide_eq_true c16
                  have c16b1 : decide (200 < t202.size) = true := decide_eq_true (by omega)
                  clear c16
                  have H' := Aside0.mk H
                  clear H
                  go_wp2
                  go_meet
                  case rel => exact ⟨_, (true), (by first | rfl | (simp; done) | (simp [*]; done)), H', ⟨by first | omega | exact Nat.le_refl _⟩, ⟨by repeat (first | (with_reducible first | exact HB.out | apply below_alloc | apply pw_below_drewN | apply below_drew1) | exact HB.out)⟩⟩
                · rw [if_neg c16] at H
                  have c16b0 : decide (200 < (t202.size : Int)) = false := decide_eq_false c16
                  have c16b1 : decide (200 < t202.size) = false := decide_eq_false (by omega)
                  clear c16
                  by_cases c17 : 0 < (t202.size : Int)
                  · rw [if_pos c17] at H
                    have c17b0 : decide (0 < (t202.size : Int)) = true := decide_eq_true c17
                    have c17b1 : decide (0 < t202.size) = true := decide_eq_true (by omega)
                    clear c17
                    by_cases c19 : (bt t202 0) = 47
                    · rw [if_pos c19] at H
                      have c19b0 : ((bt t202 0) == 47) = true := beq_iff_eq.mpr c19
                      have c19b1 : ((bt t202 0) != 47) = false := bne_eq_false_iff_eq.mpr c19
                      clear c19
                      obtain ⟨ji20, hji20⟩ : ∃ j_ : Int, (wrap64 ((t202.size : Int) - 1)) = j_ := ⟨_, rfl⟩
                      replace H : (if 0 ≤ (ji20) then (if (ji20) < (t202.size : Int) then (gussetlaw03_PathSettles.j0 k a1 t202 ((bt t202 (ji20)) == 47)) else (none)) else (none)) = some r := by first | (rw [hji20] at H; exact H) | (simp only [hji20] at H ⊢; exact H)
                      have hji20w : (IntKind.i64.wrap ((t202.size : Int) - 1)) = ji20 := (i64_w _).trans hji20
                      by_cases c21 : 0 ≤ (ji20)
                      · rw [if_pos c21] at H
                        have c21b0 : decide (0 ≤ (ji20)) = true := decide_eq_true c21
                        clear c21
                        by_cases c22 : (ji20) < (t202.size : Int)
                        · rw [if_pos c22] at H
                          have c22b0 : decide ((ji20) < (t202.size : Int)) = true := decide_eq_true c22
                          clear c22
                          have H' := Aside0.mk H
                          clear H
                          have p18 : 0 ≤ (0 : Int) := (by omega)
                          have q18 : 0 < t202.size := (by have : (0 : Int) < (t202.size : Int) := of_decide_eq_true (by first | (with_reducible assumption) | assumption); omega)
                          have hx18 : ∀ h : 0 < t202.size, ((t202[0]'h).toNat : Int) = bt t202 0 := bt_at t202 0
                          clear p18
                          have qi18 : (0 < (t202.size : Int)) = True := eq_true (of_decide_eq_true (by first | (with_reducible assumption) | assumption))
                          replace q18 := eq_true q18
                          have p23 : 0 ≤ ((ji20) : Int) := of_decide_eq_true (by first | (with_reducible assumption) | assumption)
                          have q23 : (ji20) < (t202.size : Int) := of_decide_eq_true (by first | (with_reducible assumption) | assumption)
                          have hx23 := bt_at t202 (ji20)
                          replace p23 := eq_true p23
                          replace q23 := eq_true q23
                          go_wp2
                          go_meet
                          case rel => exact ⟨_, (((bt t202 (ji20)) == 47)), (by first | rfl | (simp; done) | (simp only [← hji20] <;> (first | rfl | simp)) | (simp [*]; done)), H', ⟨by first | omega | exact Nat.le_refl _⟩, ⟨by repeat (first | (with_reducible first | exact HB.out | apply below_alloc | apply pw_below_drewN | apply below_drew1) | exact HB.out)⟩⟩
                        · rw [if_neg c22] at H
                          exact absurd H (by simp)
                      · rw [if_neg c21] at H
                        exact absurd H (by simp)
                    · rw [if_neg c19] at H
                      have c19b0 : ((bt t202 0) == 47) = false := beq_eq_false_iff_ne.mpr c19
                      have c19b1 : ((bt t202 0) != 47) = true := bne_iff_ne.mpr c19
                      have H' := Aside0.mk H
                      clear H
                      have p18 : 0 ≤ (0 : Int) := (by omega)
                      have q18 : 0 < t202.size := (by have : (0 : Int) < (t202.size : Int) := of_decide_eq_true (by first | (with_reducible assumption) | assumption); omega)
                      have hx18 : ∀ h : 0 < t202.size, ((t202[0]'h).toNat : Int) = bt t202 0 := bt_at t202 0
                      clear p18
                      have qi18 : (0 < (t202.size : Int)) = True := eq_true (of_decide_eq_true (by first | (with_reducible assumption) | assumption))
                      replace q18 := eq_true q18
                      go_wp2
                      go_meet
                      case rel => exact ⟨_, (true), (by first | rfl | (simp; done) | (simp [*]; done)), H', ⟨by first | omega | exact Nat.le_refl _⟩, ⟨by repeat (first | (with_reducible first | exact HB.out | apply below_alloc | apply pw_below_drewN | apply below_drew1) | exact HB.out)⟩⟩
                  · rw [if_neg c17] at H
                    exact absurd H (by simp)
            · rw [if_neg c14] at H
              have c14b0 : (t205 == 0) = false := beq_eq_false_iff_ne.mpr c14
              have c14b1 : (t205 != 0) = true := bne_iff_ne.mpr c14
              have H' := Aside0.mk H
              clear H
              go_wp2
              go_meet
              case rel => exact ⟨_, (true), (by first | rfl | (simp; done) | (simp [*]; done)), H', ⟨by first | omega | exact Nat.le_refl _⟩, ⟨by repeat (first | (with_reducible first | exact HB.out | apply below_alloc | apply pw_below_drewN | apply below_drew1) | exact HB.out)⟩⟩
          · rw [if_neg c13] at H
            have c13b0 : (t204.toList == t202.toList) = false := beq_eq_false_iff_ne.mpr c13
            have c13b1 : (t204.toList != t202.toList) = true := bne_iff_ne.mpr c13
            (first | rw [c13b0] | (simp only [i64_w, i32_w]; rw [c13b0]) | skip)
            have H' := Aside0.mk H
            clear H
            go_wp2
            go_meet
            case rel => exact ⟨_, (true), (by first | rfl | (simp; done) | (simp [*]; done)), H', ⟨by first | omega | exact Nat.le_refl _⟩, ⟨by repeat (first | (with_reducible first | exact HB.out | apply below_alloc | apply pw_below_drewN | apply below_drew1) | exact HB.out)⟩⟩
        case rest =>
          clear HC11
          try clear c1
          try clear p1
          try clear q1
          try clear hx1
          try clear qi1
          try clear c2
          try clear p2
          try clear q2
          try clear hx2
          try clear c4
          try clear c6
          try clear p6
          try clear c8
          try clear c9
          try clear c9b0
          try clear c9b1
          try clear c12
          try clear c13
          try clear c13b0
          try clear c13b1
          try clear c14
          try clear c14b0
          try clear c14b1
          try clear c15
          try clear c15b0
          try clear c15b1
          try clear c16
          try clear c16b0
          try clear c16b1
          try clear c17
          try clear c17b0
          try clear c17b1
          try clear p18
          try clear q18
          try clear hx18
          try clear qi18
          try clear c19
          try clear c19b0
          try clear c19b1
          try clear c21
          try clear c21b0
          try clear c22
          try clear c22b0
          try clear p23
          try clear q23
          try clear hx23
          try clear p18
          try clear p23
          try clear q18
          try clear q23
          obtain ⟨kq, x58_10, rfl, HA, HJ10, HB⟩ := hcut; haveI := GW.of HB.out
          cases kq with
          | zero => exact absurd HA.out (by simp [gussetlaw03_PathSettles.j0])
          | succ kj10 =>
            have H := HA.out
            clear HA
            simp only [gussetlaw03_PathSettles.j0] at H
            by_cases c24 : x58_10 = true
            · subst c24
              have H1 : (some false) = some r := by rw [if_pos rfl] at H; exact H
              clear H
              have H := H1
              clear H1
              obtain rfl := Option.some.inj H
              go_wp2
              go_ret
              exact ⟨by first | rfl | (simp [errW_none, errW_some] <;> rfl) | (simp [*, errW_none, errW_some] <;> rfl), by repeat (first | (with_reducible first | exact HB.out | apply below_alloc | apply pw_below_drewN | apply below_drew1) | exact HB.out)⟩
            · replace c24 := Bool.eq_false_iff.mpr c24
              subst c24
              have H1 : ((path_Join.f kj10 t202 (⟨#[46, 47, 120]⟩ : ByteArray)).bind fun bt206 => (if bt206.2 = 0 then ((path_Dir.f kj10 bt206.1).bind fun t208 => ((path_Dir.f kj10 t202).bind fun t209 => (if t208.toList = t209.toList then ((path_Dir.f kj10 t202).bind fun t209 => (if t209.size + 2 ≤ 9223372036854775807 then (if bt206.1.toList = (t209 ++ (⟨#[47, 120]⟩ : ByteArray)).toList then (gussetlaw03_PathSettles.j1 kj10 a1 t202) else (some false)) else (none))) else (some false)))) else (gussetlaw03_PathSettles.j1 kj10 a1 t202))) = some r := by rw [if_neg (show ¬ (false = true) by decide)] at H; exact H
              clear H
              have H := H1
              clear H1
              replace H := Option.bind_eq_some_iff.mp H
              obtain ⟨⟨t206, t207⟩, A250, H⟩ := H
              replace H : (if t207 = 0 then ((path_Dir.f kj10 t206).bind fun t208 => ((path_Dir.f kj10 t202).bind fun t209 => (if t208.toList = t209.toList then ((path_Dir.f kj10 t202).bind fun t209 => (if t209.size + 2 ≤ 9223372036854775807 then (if t206.toList = (t209 ++ (⟨#[47, 120]⟩ : ByteArray)).toList then (gussetlaw03_PathSettles.j1 kj10 a1 t202) else (some false)) else (none))) else (some false)))) else (gussetlaw03_PathSettles.j1 kj10 a1 t202)) = some r := H
              have A25 := Aside0.mk A250
              clear A250
              by_cases c26 : t207 = 0
              · rw [if_pos c26] at H
                have c26b0 : (t207 == 0) = true := beq_iff_eq.mpr c26
                have c26b1 : (t207 != 0) = false := bne_eq_false_iff_eq.mpr c26
                clear c26
                replace H := Option.bind_eq_some_iff.mp H
                obtain ⟨t208, A270, H⟩ := H
                replace H : ((path_Dir.f kj10 t202).bind fun t209 => (if t208.toList = t209.toList then ((path_Dir.f kj10 t202).bind fun t209 => (if t209.size + 2 ≤ 9223372036854775807 then (if t206.toList = (t209 ++ (⟨#[47, 120]⟩ : ByteArray)).toList then (gussetlaw03_PathSettles.j1 kj10 a1 t202) else (some false)) else (none))) else (some false))) = some r := H
                have A27 := Aside0.mk A270
                clear A270
                replace H := Option.bind_eq_some_iff.mp H
                obtain ⟨t209, A280, H⟩ := H
                replace H : (if t208.toList = t209.toList then ((path_Dir.f kj10 t202).bind fun t209 => (if t209.size + 2 ≤ 9223372036854775807 then (if t206.toList = (t209 ++ (⟨#[47, 120]⟩ : ByteArray)).toList then (gussetlaw03_PathSettles.j1 kj10 a1 t202) else (some false)) else (none))) else (some false)) = some r := H
                have A28 := Aside0.mk A280
                clear A280
                by_cases c29 : t208.toList = t209.toList
                · rw [if_pos c29] at H
                  have c29b0 : (t208.toList == t209.toList) = true := beq_iff_eq.mpr c29
                  have c29b1 : (t208.toList != t209.toList) = false := bne_eq_false_iff_eq.mpr c29
                  clear c29
                  replace H := Option.bind_eq_some_iff.mp H
                  obtain ⟨t210, A300, H⟩ := H
                  obtain rfl : t209 = t210 := Option.some.inj (A28.out.symm.trans A300)
                  have A30 := Aside0.mk A300
                  clear A300
                  by_cases c31 : t209.size + 2 ≤ 9223372036854775807
                  · rw [if_pos c31] at H
                    have c31b0 := eq_true c31
                    have c31b1 : decide (t209.size + 2 ≤ 9223372036854775807) = true := decide_eq_true c31
                    try have c31b2 : (9223372036854775807 < t209.size + 2) = False := eq_false (Nat.not_lt.2 c31)
                    by_cases c32 : t206.toList = (t209 ++ (⟨#[47, 120]⟩ : ByteArray)).toList
                    · rw [if_pos c32] at H
                      have c32b0 : (t206.toList == (t209 ++ (⟨#[47, 120]⟩ : ByteArray)).toList) = true := beq_iff_eq.mpr c32
                      have c32b1 : (t206.toList != (t209 ++ (⟨#[47, 120]⟩ : ByteArray)).toList) = false := bne_eq_false_iff_eq.mpr c32
                      clear c32
                      have H' := Aside0.mk H
                      clear H
                      go_wp2_with (first | ((with_reducible refine gate_callee (f := 13) rfl ?_); refine goesL_ (some 61) rfl rfl Tryd.func13 (by kernel_rfl) rfl #[.string t202, .string (⟨#[46, 47, 120]⟩ : ByteArray)] rfl (by (try simp only [List.map_toArray, List.map_cons, List.map_nil]); first | done | rfl | (simp only [List.length_drop, List.length_take]; rfl)) ?_; (with_reducible refine (path_Join.calls kj10 t202 (⟨#[46, 47, 120]⟩ : ByteArray) t206 t207 _ A25.out).mono ?_); rintro e w33 ⟨rfl, hb⟩; refine ⟨_, rfl, ?_⟩; have n0_ := Aside0.mk (below_step (by repeat (first | (with_reducible first | exact HB.out | apply below_alloc | apply pw_below_drewN | apply below_drew1) | exact HB.out)) hb); clear HB; have HB := n0_; haveI := GW.of HB.out; clear n0_; (try clear hb); (try clear hb2); (try clear hk); (try clear hi)) | (go_at_call 10; (with_reducible refine (path_Dir.calls kj10 t206 t208 _ A27.out).mono ?_); rintro e w34 ⟨rfl, hb⟩; have n0_ := Aside0.mk (below_step (by repeat (first | (with_reducible first | exact HB.out | apply below_alloc | apply pw_below_drewN | apply below_drew1) | exact HB.out)) hb); clear HB; have HB := n0_; haveI := GW.of HB.out; clear n0_; (try clear hb); (try clear hb2); (try clear hk); (try clear hi)) | (go_at_call 10; (with_reducible refine (path_Dir.calls kj10 t202 t209 _ A28.out).mono ?_); rintro e w35 ⟨rfl, hb⟩; have n0_ := Aside0.mk (below_step (by repeat (first | (with_reducible first | exact HB.out | apply below_alloc | apply pw_below_drewN | apply below_drew1) | exact HB.out)) hb); clear HB; have HB := n0_; haveI := GW.of HB.out; clear n0_; (try clear hb); (try clear hb2); (try clear hk); (try clear hi)) | (go_at_call 10; (with_reducible refine (path_Dir.calls kj10 t202 t209 _ A30.out).mono ?_); rintro e w36 ⟨rfl, hb⟩; have n0_ := Aside0.mk (below_step (by repeat (first | (with_reducible first | exact HB.out | apply below_alloc | apply pw_below_drewN | apply below_drew1) | exact HB.out)) hb); clear HB; have HB := n0_; haveI := GW.of HB.out; clear n0_; (try clear hb); (try clear hb2); (try clear hk); (try clear hi)))
                      go_meet
                      case rel => exact ⟨_, H', ⟨by have := HJ10.out; first | omega | exact Nat.le_refl _⟩, ⟨by repeat (first | (with_reducible first | exact HB.out | apply below_alloc | apply pw_below_drewN | apply below_drew1) | exact HB.out)⟩⟩
                    · rw [if_neg c32] at H
                      have c32b0 : (t206.toList == (t209 ++ (⟨#[47, 120]⟩ : ByteArray)).toList) = false := beq_eq_false_iff_ne.mpr c32
                      have c32b1 : (t206.toList != (t209 ++ (⟨#[47, 120]⟩ : ByteArray)).toList) = true := bne_iff_ne.mpr c32
                      obtain rfl := Option.some.inj H
                      go_wp2_with (first | ((with_reducible refine gate_callee (f := 13) rfl ?_); refine goesL_ (some 61) rfl rfl Tryd.func13 (by kernel_rfl) rfl #[.string t202, .string (⟨#[46, 47, 120]⟩ : ByteArray)] rfl (by (try simp only [List.map_toArray, List.map_cons, List.map_nil]); first | done | rfl | (simp only [List.length_drop, List.length_take]; rfl)) ?_; (with_reducible refine (path_Join.calls kj10 t202 (⟨#[46, 47, 120]⟩ : ByteArray) t206 t207 _ A25.out).mono ?_); rintro e w37 ⟨rfl, hb⟩; refine ⟨_, rfl, ?_⟩; have n0_ := Aside0.mk (below_step (by repeat (first | (with_reducible first | exact HB.out | apply below_alloc | apply pw_below_drewN | apply below_drew1) | exact HB.out)) hb); clear HB; have HB := n0_; haveI := GW.of HB.out; clear n0_; (try clear hb); (try clear hb2); (try clear hk); (try clear hi)) | (go_at_call 10; (with_reducible refine (path_Dir.calls kj10 t206 t208 _ A27.out).mono ?_); rintro e w38 ⟨rfl, hb⟩; have n0_ := Aside0.mk (below_step (by repeat (first | (with_reducible first | exact HB.out | apply below_alloc | apply pw_below_drewN | apply below_drew1) | exact HB.out)) hb); clear HB; have HB := n0_; haveI := GW.of HB.out; clear n0_; (try clear hb); (try clear hb2); (try clear hk); (try clear hi)) | (go_at_call 10; (with_reducible refine (path_Dir.calls kj10 t202 t209 _ A28.out).mono ?_); rintro e w39 ⟨rfl, hb⟩; have n0_ := Aside0.mk (below_step (by repeat (first | (with_reducible first | exact HB.out | apply below_alloc | apply pw_below_drewN | apply below_drew1) | exact HB.out)) hb); clear HB; have HB := n0_; haveI := GW.of HB.out; clear n0_; (try clear hb); (try clear hb2); (try clear hk); (try clear hi)) | (go_at_call 10; (with_reducible refine (path_Dir.calls kj10 t202 t209 _ A30.out).mono ?_); rintro e w40 ⟨rfl, hb⟩; have n0_ := Aside0.mk (below_step (by repeat (first | (with_reducible first | exact HB.out | apply below_alloc | apply pw_below_drewN | apply below_drew1) | exact HB.out)) hb); clear HB; have HB := n0_; haveI := GW.of HB.out; clear n0_; (try clear hb); (try clear hb2); (try clear hk); (try clear hi)))
                      go_ret
                      exact ⟨by first | rfl | (simp [errW_none, errW_some] <;> rfl) | (simp [*, errW_none, errW_some] <;> rfl), by repeat (first | (with_reducible first | exact HB.out | apply below_alloc | apply pw_below_drewN | apply below_drew1) | exact HB.out)⟩
                  · rw [if_neg c31] at H
                    exact absurd H (by simp)
                · rw [if_neg c29] at H
                  have c29b0 : (t208.toList == t209.toList) = false := beq_eq_false_iff_ne.mpr c29
                  have c29b1 : (t208.toList != t209.toList) = true := bne_iff_ne.mpr c29
                  obtain rfl := Option.some.inj H
                  go_wp2_with (first | ((with_reducible refine gate_callee (f := 13) rfl ?_); refine goesL_ (some 61) rfl rfl Tryd.func13 (by kernel_rfl) rfl #[.string t202, .string (⟨#[46, 47, 120]⟩ : ByteArray)] rfl (by (try simp only [List.map_toArray, List.map_cons, List.map_nil]); first | done | rfl | (simp only [List.length_drop, List.length_take]; rfl)) ?_; (with_reducible refine (path_Join.calls kj10 t202 (⟨#[46, 47, 120]⟩ : ByteArray) t206 t207 _ A25.out).mono ?_); rintro e w41 ⟨rfl, hb⟩; refine ⟨_, rfl, ?_⟩; have n0_ := Aside0.mk (below_step (by repeat (first | (with_reducible first | exact HB.out | apply below_alloc | apply pw_below_drewN | apply below_drew1) | exact HB.out)) hb); clear HB; have HB := n0_; haveI := GW.of HB.out; clear n0_; (try clear hb); (try clear hb2); (try clear hk); (try clear hi)) | (go_at_call 10; (with_reducible refine (path_Dir.calls kj10 t206 t208 _ A27.out).mono ?_); rintro e w42 ⟨rfl, hb⟩; have n0_ := Aside0.mk (below_step (by repeat (first | (with_reducible first | exact HB.out | apply below_alloc | apply pw_below_drewN | apply below_drew1) | exact HB.out)) hb); clear HB; have HB := n0_; haveI := GW.of HB.out; clear n0_; (try clear hb); (try clear hb2); (try clear hk); (try clear hi)) | (go_at_call 10; (with_reducible refine (path_Dir.calls kj10 t202 t209 _ A28.out).mono ?_); rintro e w43 ⟨rfl, hb⟩; have n0_ := Aside0.mk (below_step (by repeat (first | (with_reducible first | exact HB.out | apply below_alloc | apply pw_below_drewN | apply below_drew1) | exact HB.out)) hb); clear HB; have HB := n0_; haveI := GW.of HB.out; clear n0_; (try clear hb); (try clear hb2); (try clear hk); (try clear hi)))
                  go_ret
                  exact ⟨by first | rfl | (simp [errW_none, errW_some] <;> rfl) | (simp [*, errW_none, errW_some] <;> rfl), by repeat (first | (with_reducible first | exact HB.out | apply below_alloc | apply pw_below_drewN | apply below_drew1) | exact HB.out)⟩
              · rw [if_neg c26] at H
                have c26b0 : (t207 == 0) = false := beq_eq_false_iff_ne.mpr c26
                have c26b1 : (t207 != 0) = true := bne_iff_ne.mpr c26
                have H' := Aside0.mk H
                clear H
                go_wp2_with (first | ((with_reducible refine gate_callee (f := 13) rfl ?_); refine goesL_ (some 61) rfl rfl Tryd.func13 (by kernel_rfl) rfl #[.string t202, .string (⟨#[46, 47, 120]⟩ : ByteArray)] rfl (by (try simp only [List.map_toArray, List.map_cons, List.map_nil]); first | done | rfl | (simp only [List.length_drop, List.length_take]; rfl)) ?_; (with_reducible refine (path_Join.calls kj10 t202 (⟨#[46, 47, 120]⟩ : ByteArray) t206 t207 _ A25.out).mono ?_); rintro e w44 ⟨rfl, hb⟩; refine ⟨_, rfl, ?_⟩; have n0_ := Aside0.mk (below_step (by repeat (first | (with_reducible first | exact HB.out | apply below_alloc | apply pw_below_drewN | apply below_drew1) | exact HB.out)) hb); clear HB; have HB := n0_; haveI := GW.of HB.out; clear n0_; (try clear hb); (try clear hb2); (try clear hk); (try clear hi)))
                go_meet
                case rel => exact ⟨_, H', ⟨by have := HJ10.out; first | omega | exact Nat.le_refl _⟩, ⟨by repeat (first | (with_reducible first | exact HB.out | apply below_alloc | apply pw_below_drewN | apply below_drew1) | exact HB.out)⟩⟩
      · rw [if_neg c9] at H
        have c9b0 : (t203 == 0) = false := beq_eq_false_iff_ne.mpr c9
        have c9b1 : (t203 != 0) = true := bne_iff_ne.mpr c9
        (first | rw [c9b0] | (simp only [i64_w, i32_w]; rw [c9b0]) | skip)
        have H' := Aside0.mk H
        clear H
        go_wp2
        go_meet
        case rel => exact ⟨_, H', ⟨by first | omega | exact Nat.le_refl _⟩, ⟨by repeat (first | (with_reducible first | exact HB.out | apply below_alloc | apply pw_below_drewN | apply below_drew1) | exact HB.out)⟩⟩
    case rest =>
      clear HC6
      try clear c1
      try clear p1
      try clear q1
      try clear hx1
      try clear qi1
      try clear c2
      try clear p2
      try clear q2
      try clear hx2
      try clear c3
      try clear c4
      try clear c6
      try clear p6
      try clear c8
      try clear c9
      try clear c9b0
      try clear c9b1
      try clear c12
      try clear c13
      try clear c13b0
      try clear c13b1
      try clear c14
      try clear c14b0
      try clear c14b1
      try clear c15
      try clear c15b0
      try clear c15b1
      try clear c16
      try clear c16b0
      try clear c16b1
      try clear c17
      try clear c17b0
      try clear c17b1
      try clear p18
      try clear q18
      try clear hx18
      try clear qi18
      try clear c19
      try clear c19b0
      try clear c19b1
      try clear c21
      try clear c21b0
      try clear c22
      try clear c22b0
      try clear p23
      try clear q23
      try clear hx23
      try clear c24
      try clear c26
      try clear c26b0
      try clear c26b1
      try clear c29
      try clear c29b0
      try clear c29b1
      try clear c31
      try clear c31b0
      try clear c31b1
      try clear c31b2
      try clear c32
      try clear c32b0
      try clear c32b1
      try clear p1
      try clear p18
      try clear p2
      try clear p23
      try clear p6
      try clear q1
      try clear q18
      try clear q2
      try clear q23
      obtain ⟨kq, HA, HJ5, HB⟩ := hcut; haveI := GW.of HB.out
      cases kq with
      | zero => exact absurd HA.out (by simp [gussetlaw03_PathSettles.j1])
      | succ kj5 =>
        have H := HA.out
        clear HA
        simp only [gussetlaw03_PathSettles.j1] at H
        replace H := Option.bind_eq_some_iff.mp H
        obtain ⟨⟨t211, t212⟩, A450, H⟩ := H
        replace H : (if t212 = 0 then ((path_Normal.f kj5 t211).bind fun bt213 => (if bt213.1.toList = t211.toList then (some (bt213.2 == 0)) else (some false))) else (some (t211.toList == ([] : List UInt8)))) = some r := H
        have A45 := Aside0.mk A450
        clear A450
        by_cases c46 : t212 = 0
        · rw [if_pos c46] at H
          have c46b0 : (t212 == 0) = true := beq_iff_eq.mpr c46
          have c46b1 : (t212 != 0) = false := bne_eq_false_iff_eq.mpr c46
          clear c46
          replace H := Option.bind_eq_some_iff.mp H
          obtain ⟨⟨t213, t214⟩, A470, H⟩ := H
          replace H : (if t213.toList = t211.toList then (some (t214 == 0)) else (some false)) = some r := H
          have A47 := Aside0.mk A470
          clear A470
          by_cases c48 : t213.toList = t211.toList
          · rw [if_pos c48] at H
            have c48b0 : (t213.toList == t211.toList) = true := beq_iff_eq.mpr c48
            have c48b1 : (t213.toList != t211.toList) = false := bne_eq_false_iff_eq.mpr c48
            clear c48
            obtain rfl := Option.some.inj H
            go_wp2_with (first | ((with_reducible refine gate_callee (f := 13) rfl ?_); refine goesL_ (some 83) rfl rfl Tryd.func13 (by kernel_rfl) rfl #[.string t202, .string a1] rfl (by (try simp only [List.map_toArray, List.map_cons, List.map_nil]); first | done | rfl | (simp only [List.length_drop, List.length_take]; rfl)) ?_; (with_reducible refine (path_Join.calls kj5 t202 a1 t211 t212 _ A45.out).mono ?_); rintro e w49 ⟨rfl, hb⟩; refine ⟨_, rfl, ?_⟩; have n0_ := Aside0.mk (below_step (by repeat (first | (with_reducible first | exact HB.out | apply below_alloc | apply pw_below_drewN | apply below_drew1) | exact HB.out)) hb); clear HB; have HB := n0_; haveI := GW.of HB.out; clear n0_; (try clear hb); (try clear hb2); (try clear hk); (try clear hi)) | ((with_reducible refine gate_callee (f := 8) rfl ?_); refine goesL_ (some 92) rfl rfl Tryd.func8 (by kernel_rfl) rfl #[.string t211] rfl (by (try simp only [List.map_toArray, List.map_cons, List.map_nil]); first | done | rfl | (simp only [List.length_drop, List.length_take]; rfl)) ?_; (with_reducible refine (path_Normal.calls kj5 t211 t213 t214 _ A47.out).mono ?_); rintro e w50 ⟨rfl, hb⟩; refine ⟨_, rfl, ?_⟩; have n0_ := Aside0.mk (below_step (by repeat (first | (with_reducible first | exact HB.out | apply below_alloc | apply pw_below_drewN | apply below_drew1) | exact HB.out)) hb); clear HB; have HB := n0_; haveI := GW.of HB.out; clear n0_; (try clear hb); (try clear hb2); (try clear hk); (try clear hi)))
            go_ret
            exact ⟨by first | rfl | (simp [errW_none, errW_some] <;> rfl) | (simp [*, errW_none, errW_some] <;> rfl), by repeat (first | (with_reducible first | exact HB.out | apply below_alloc | apply pw_below_drewN | apply below_drew1) | exact HB.out)⟩
          · rw [if_neg c48] at H
            have c48b0 : (t213.toList == t211.toList) = false := beq_eq_false_iff_ne.mpr c48
            have c48b1 : (t213.toList != t211.toList) = true := bne_iff_ne.mpr c48
            obtain rfl := Option.some.inj H
            go_wp2_with (first | ((with_reducible refine gate_callee (f := 13) rfl ?_); refine goesL_ (some 83) rfl rfl Tryd.func13 (by kernel_rfl) rfl #[.string t202, .string a1] rfl (by (try simp only [List.map_toArray, List.map_cons, List.map_nil]); first | done | rfl | (simp only [List.length_drop, List.length_take]; rfl)) ?_; (with_reducible refine (path_Join.calls kj5 t202 a1 t211 t212 _ A45.out).mono ?_); rintro e w51 ⟨rfl, hb⟩; refine ⟨_, rfl, ?_⟩; have n0_ := Aside0.mk (below_step (by repeat (first | (with_reducible first | exact HB.out | apply below_alloc | apply pw_below_drewN | apply below_drew1) | exact HB.out)) hb); clear HB; have HB := n0_; haveI := GW.of HB.out; clear n0_; (try clear hb); (try clear hb2); (try clear hk); (try clear hi)) | ((with_reducible refine gate_callee (f := 8) rfl ?_); refine goesL_ (some 92) rfl rfl Tryd.func8 (by kernel_rfl) rfl #[.string t211] rfl (by (try simp only [List.map_toArray, List.map_cons, List.map_nil]); first | done | rfl | (simp only [List.length_drop, List.length_take]; rfl)) ?_; (with_reducible refine (path_Normal.calls kj5 t211 t213 t214 _ A47.out).mono ?_); rintro e w52 ⟨rfl, hb⟩; refine ⟨_, rfl, ?_⟩; have n0_ := Aside0.mk (below_step (by repeat (first | (with_reducible first | exact HB.out | apply below_alloc | apply pw_below_drewN | apply below_drew1) | exact HB.out)) hb); clear HB; have HB := n0_; haveI := GW.of HB.out; clear n0_; (try clear hb); (try clear hb2); (try clear hk); (try clear hi)))
            go_ret
            exact ⟨by first | rfl | (simp [errW_none, errW_some] <;> rfl) | (simp [*, errW_none, errW_some] <;> rfl), by repeat (first | (with_reducible first | exact HB.out | apply below_alloc | apply pw_below_drewN | apply below_drew1) | exact HB.out)⟩
        · rw [if_neg c46] at H
          have c46b0 : (t212 == 0) = false := beq_eq_false_iff_ne.mpr c46
          have c46b1 : (t212 != 0) = true := bne_iff_ne.mpr c46
          obtain rfl := Option.some.inj H
          go_wp2_with (first | ((with_reducible refine gate_callee (f := 13) rfl ?_); refine goesL_ (some 83) rfl rfl Tryd.func13 (by kernel_rfl) rfl #[.string t202, .string a1] rfl (by (try simp only [List.map_toArray, List.map_cons, List.map_nil]); first | done | rfl | (simp only [List.length_drop, List.length_take]; rfl)) ?_; (with_reducible refine (path_Join.calls kj5 t202 a1 t211 t212 _ A45.out).mono ?_); rintro e w53 ⟨rfl, hb⟩; refine ⟨_, rfl, ?_⟩; have n0_ := Aside0.mk (below_step (by repeat (first | (with_reducible first | exact HB.out | apply below_alloc | apply pw_below_drewN | apply below_drew1) | exact HB.out)) hb); clear HB; have HB := n0_; haveI := GW.of HB.out; clear n0_; (try clear hb); (try clear hb2); (try clear hk); (try clear hi)))
          go_ret
          exact ⟨by first | rfl | (simp [errW_none, errW_some] <;> rfl) | (simp [*, errW_none, errW_some] <;> rfl), by repeat (first | (with_reducible first | exact HB.out | apply below_alloc | apply pw_below_drewN | apply below_drew1) | exact HB.out)⟩
  · replace c4 := Bool.eq_false_iff.mpr c4
    subst c4
    have H1 : (some false) = some r := by rw [if_neg (show ¬ (false = true) by decide)] at H; exact H
    clear H
    have H := H1
    clear H1
    obtain rfl := Option.some.inj H
    go_enter Tryd.func6, Tryd.ntmps6
    go_wp2_with (first | ((with_reducible refine gate_callee (f := 12) rfl ?_); refine goesL_ (some 15) rfl rfl Tryd.func12 (by kernel_rfl) rfl #[] rfl (by (try simp only [List.map_toArray, List.map_cons, List.map_nil]); first | done | rfl | (simp only [List.length_drop, List.length_take]; rfl)) ?_; (with_reducible refine (gussetlaw03_awake.calls k  false _ A3.out).mono ?_); rintro e w54 ⟨rfl, hb⟩; refine ⟨_, rfl, ?_⟩; have n0_ := Aside0.mk (below_step (by repeat (first | (with_reducible first | exact HB.out | apply below_alloc | apply pw_below_drewN | apply below_drew1) | exact HB.out)) hb); clear HB; have HB := n0_; haveI := GW.of HB.out; clear n0_; (try clear hb); (try clear hb2); (try clear hk); (try clear hi)))
    go_ret
    exact ⟨by first | rfl | (simp [errW_none, errW_some] <;> rfl) | (simp [*, errW_none, errW_some] <;> rfl), by repeat (first | (with_reducible first | exact HB.out | apply below_alloc | apply pw_below_drewN | apply below_drew1) | exact HB.out)⟩

/-- THE ONE PURE STATEMENT of gussetlaw03_PathSettles: yours. -/
def gussetlaw03_PathSettles.Pure : Prop := ∀ (a0 : ByteArray) (a1 : ByteArray), a0.size ≤ 140737488351232 → a1.size ≤ 140737488351232 → ∃ k, gussetlaw03_PathSettles.f k a0 a1 = some true
theorem gussetlaw03_PathSettles.walk (P : gussetlaw03_PathSettles.Pure) (a0 : ByteArray) (a1 : ByteArray) (w : World) [GW w] (w0 : a0.size ≤ 140737488351232) (w1 : a1.size ≤ 140737488351232) :
    Calls Tryd.prog 6 #[.string a0, .string a1] w fun e w' => e = .returned (.bool true) ∧ Below w.heap.size w w' := by
  obtain ⟨k, h⟩ := P a0 a1 w0 w1
  refine (gussetlaw03_PathSettles.calls k a0 a1 true w h).mono ?_
  rintro e w' ⟨rfl, hd⟩
  exact ⟨rfl, hd⟩


end Go.Proofs.YtgjboocmdeckgaaDoor.PPath
