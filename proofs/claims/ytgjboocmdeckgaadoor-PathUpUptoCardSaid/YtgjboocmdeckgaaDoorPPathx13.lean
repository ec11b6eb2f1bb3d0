/- Contracts: gussetlaw03_PathUp. -/
import Derived.Test.YtgjboocmdeckgaaDoorPPathx0
import Derived.Test.YtgjboocmdeckgaaDoorPPathx4
import Derived.Test.YtgjboocmdeckgaaDoorPPathx7
import Derived.Test.YtgjboocmdeckgaaDoorPPathx9
namespace Go.Proofs.YtgjboocmdeckgaaDoor.PPath
open Go.RowKit Go.Proofs.YtgjboocmdeckgaaDoorW.PrintWords Go.Proofs.YtgjboocmdeckgaaDoorW.PrintLast Go.Proofs.YtgjboocmdeckgaaDoorW.PrintMore
attribute [local go_sem] max2_int min2_int max_two min_two max_three min_three max_four min_four   -- for this text's walks alone
set_option linter.unusedVariables false
set_option linter.unusedSimpArgs false

/-! ### gussetlaw03_PathUp: function 7 -/
mutual
def gussetlaw03_PathUp.l0 : Nat → ByteArray → ByteArray → Int → Int → Option (Bool)
  | 0, _, _, _, _ => none
  | k + 1, x1, x5, x6, x7 => if x7 < (x1.size : Int) then (if 0 ≤ x7 then (if (bt x1 x7) ≥ 97 then (if (bt x1 x7) ≤ 122 then (gussetlaw03_PathUp.l0 k x1 x5 x6 (wrap64 (x7 + 1))) else (if (bt x1 x7) ≥ 48 then (if ((bt x1 x7) ≤ 57) then (gussetlaw03_PathUp.l0 k x1 x5 x6 (wrap64 (x7 + 1))) else ((gussetlaw03_awake.f k).bind fun t217 => (some t217))) else ((gussetlaw03_awake.f k).bind fun t218 => (some t218)))) else (if (bt x1 x7) ≥ 48 then (if ((bt x1 x7) ≤ 57) then (gussetlaw03_PathUp.l0 k x1 x5 x6 (wrap64 (x7 + 1))) else ((gussetlaw03_awake.f k).bind fun t219 => (some t219))) else ((gussetlaw03_awake.f k).bind fun t220 => (some t220)))) else (none)) else (if x6 = 0 then (if x1.toList = ([] : List UInt8) then (gussetlaw03_PathUp.j1 k x1 x5 true) else (gussetlaw03_PathUp.j1 k x1 x5 (decide ((wrap64 ((x5.size : Int) + (x1.size : Int))) > 190)))) else (gussetlaw03_PathUp.j1 k x1 x5 true))
def gussetlaw03_PathUp.j1 : Nat → ByteArray → ByteArray → Bool → Option (Bool)
  | 0, _, _, _ => none
  | k + 1, x1, x5, x58 => if x58 = true then ((gussetlaw03_awake.f k).bind fun t221 => (some t221)) else (if x5.size + 1 ≤ 9223372036854775807 then (if (x5 ++ (⟨#[47]⟩ : ByteArray)).size + x1.size ≤ 9223372036854775807 then (if ((x5 ++ (⟨#[47]⟩ : ByteArray)) ++ x1).size + 3 ≤ 9223372036854775807 then ((path_Normal.f k (((x5 ++ (⟨#[47]⟩ : ByteArray)) ++ x1) ++ (⟨#[47, 46, 46]⟩ : ByteArray))).bind fun bt222 => ((path_Normal.f k ((x5 ++ (⟨#[47]⟩ : ByteArray)) ++ x1)).bind fun bt224 => (if 2 + x1.size ≤ 9223372036854775807 then ((path_Join.f k bt224.1 ((⟨#[46, 47]⟩ : ByteArray) ++ x1)).bind fun bt226 => (if bt222.1.toList = x5.toList then (if bt222.2 = 0 then (if bt224.2 = 0 then ((path_Dir.f k bt224.1).bind fun t228 => (if t228.toList = x5.toList then (if bt226.1.toList = bt224.1.toList then (if bt226.2 = 0 then ((gussetlaw03_awake.f k).bind fun t229 => (some t229)) else (some false)) else (some false)) else (some false))) else (some false)) else (some false)) else (some false))) else (none)))) else (none)) else (none)) else (none))
end
def gussetlaw03_PathUp.f (k : Nat) (a0 : ByteArray) (a1 : ByteArray) : Option (Bool) := (path_Normal.f k a0).bind fun bt215 => (gussetlaw03_PathUp.l0 k a1 bt215.1 bt215.2 0)
theorem gussetlaw03_PathUp.mono_l : ∀ k, (∀ y0 y1 y2 y3, LeO (gussetlaw03_PathUp.l0 k y0 y1 y2 y3) (gussetlaw03_PathUp.l0 (k + 1) y0 y1 y2 y3)) ∧ (∀ y0 y1 y2, LeO (gussetlaw03_PathUp.j1 k y0 y1 y2) (gussetlaw03_PathUp.j1 (k + 1) y0 y1 y2))
  | 0 => ⟨fun _ _ _ _ r h => by simp [gussetlaw03_PathUp.l0] at h, fun _ _ _ r h => by simp [gussetlaw03_PathUp.j1] at h⟩
  | k + 1 => by
    obtain ⟨ih0, ih1⟩ := gussetlaw03_PathUp.mono_l k
    refine ⟨?_, ?_⟩
    · intro y0 y1 y2 y3
      unfold gussetlaw03_PathUp.l0
      repeat' first
      | (with_reducible exact ih0 _ _ _ _)
      | (with_reducible exact ih1 _ _ _)
      | (with_reducible exact gussetlaw03_awake.mono _)
      | (with_reducible exact path_Dir.mono _ _)
      | (with_reducible exact path_Join.mono _ _ _)
      | (with_reducible exact path_Normal.mono _ _)
      | (with_reducible exact LeO.refl _)
      | (with_reducible exact LeO.none _)
      | (with_reducible refine LeO.ite ?_ ?_)
      | (with_reducible refine LeO.bind ?_ (fun _ => ?_))
      | exact ih0 _ _ _ _
      | exact ih1 _ _ _
      | exact gussetlaw03_awake.mono _
      | exact path_Dir.mono _ _
      | exact path_Join.mono _ _ _
      | exact path_Normal.mono _ _
      | exact LeO.none _
      | refine LeO.ite ?_ ?_
      | refine LeO.bind ?_ (fun _ => ?_)
    · intro y0 y1 y2
      unfold gussetlaw03_PathUp.j1
      repeat' first
      | (with_reducible exact ih0 _ _ _ _)
      | (with_reducible exact ih1 _ _ _)
      | (with_reducible exact gussetlaw03_awake.mono _)
      | (with_reducible exact path_Dir.mono _ _)
      | (with_reducible exact path_Join.mono _ _ _)
      | (with_reducible exact path_Normal.mono _ _)
      | (with_reducible exact LeO.refl _)
      | (with_reducible exact LeO.none _)
      | (with_reducible refine LeO.ite ?_ ?_)
      | (with_reducible refine LeO.bind ?_ (fun _ => ?_))
      | exact ih0 _ _ _ _
      | exact ih1 _ _ _
      | exact gussetlaw03_awake.mono _
      | exact path_Dir.mono _ _
      | exact path_Join.mono _ _ _
      | exact path_Normal.mono _ _
      | exact LeO.none _
      | refine LeO.ite ?_ ?_
      | refine LeO.bind ?_ (fun _ => ?_)
theorem gussetlaw03_PathUp.mono : ∀ a0 a1 k, LeO (gussetlaw03_PathUp.f k a0 a1) (gussetlaw03_PathUp.f (k + 1) a0 a1) := by
  intro a0 a1 k
  obtain ⟨ih0, ih1⟩ := gussetlaw03_PathUp.mono_l k
  unfold gussetlaw03_PathUp.f
  repeat' first
      | (with_reducible exact ih0 _ _ _ _)
      | (with_reducible exact ih1 _ _ _)
      | (with_reducible exact gussetlaw03_awake.mono _)
      | (with_reducible exact path_Dir.mono _ _)
      | (with_reducible exact path_Join.mono _ _ _)
      | (with_reducible exact path_Normal.mono _ _)
      | (with_reducible exact LeO.refl _)
      | (with_reducible exact LeO.none _)
      | (with_reducible refine LeO.ite ?_ ?_)
      | (with_reducible refine LeO.bind ?_ (fun _ => ?_))
      | exact ih0 _ _ _ _
      | exact ih1 _ _ _
      | exact gussetlaw03_awake.mono _
      | exact path_Dir.mono _ _
      | exact path_Join.mono _ _ _
      | exact path_Normal.mono _ _
      | exact LeO.none _
      | refine LeO.ite ?_ ?_
      | refine LeO.bind ?_ (fun _ => ?_)
set_option maxHeartbeats 8000000 in
set_option maxRecDepth 100000 in
theorem gussetlaw03_PathUp.calls (k : Nat) (a0 : ByteArray) (a1 : ByteArray) (r : Bool) (w : World) [GW w] (h : gussetlaw03_PathUp.f k a0 a1 = some r) :
    Calls Tryd.prog 7 #[.string a0, .string a1] w fun e w' => e = .returned (.bool r) ∧ Below w.heap.size w w' := by
  have HB := Aside0.mk (Below.refl w.heap.size w)
  have H : ((path_Normal.f k a0).bind fun bt215 => (gussetlaw03_PathUp.l0 k a1 bt215.1 bt215.2 0)) = some r := h
  clear h
  replace H := Option.bind_eq_some_iff.mp H
  obtain ⟨⟨t215, t216⟩, A30, H⟩ := H
  replace H : (gussetlaw03_PathUp.l0 k a1 t215 t216 0) = some r := H
  have A3 := Aside0.mk A30
  clear A30
  have H' := Aside0.mk H
  clear H
  go_enter Tryd.func7, Tryd.ntmps7
  go_wp2_with (first | ((with_reducible refine gate_callee (f := 8) rfl ?_); refine goesL_ (some 17) rfl rfl Tryd.func8 (by kernel_rfl) rfl #[.string a0] rfl (by (try simp only [List.map_toArray, List.map_cons, List.map_nil]); first | done | rfl | (simp only [List.length_drop, List.length_take]; rfl)) ?_; (with_reducible refine (path_Normal.calls k a0 t215 t216 _ A3.out).mono ?_); rintro e w4 ⟨rfl, hb⟩; refine ⟨_, rfl, ?_⟩; have n0_ := Aside0.mk (below_step (by repeat (first | (with_reducible first | exact HB.out | apply below_alloc | apply pw_below_drewN | apply below_drew1) | exact HB.out)) hb); clear HB; have HB := n0_; haveI := GW.of HB.out; clear n0_; (try clear hb); (try clear hb2); (try clear hk); (try clear hi)))
  go_loopg [7] k (fun kq v7 w' => ∃ (x7_1 : Int), v7 = .int .i64 x7_1 ∧ Aside0 (gussetlaw03_PathUp.l0 kq a1 t215 t216 x7_1 = some r) ∧ Aside0 (kq ≤ k) ∧ Aside0 (Below w.heap.size w w'))
  case atStart => exact ⟨(0), (by first | rfl | (simp; done) | (simp [*]; done)), H', ⟨Nat.le_refl _⟩, ⟨by repeat (first | (with_reducible first | exact HB.out | apply below_alloc | apply pw_below_drewN | apply below_drew1) | exact HB.out)⟩⟩
  case round =>
    clear H'
    try clear p2
    obtain ⟨x7_1, rfl, HA, HK1, HB⟩ := hrel; haveI := GW.of HB.out
    cases gk with
    | zero => exact absurd HA.out (by simp [gussetlaw03_PathUp.l0])
    | succ k1 =>
      have H := HA.out
      clear HA
      simp only [gussetlaw03_PathUp.l0] at H
      by_cases c5 : x7_1 < (a1.size : Int)
      · rw [if_pos c5] at H
        have c5b0 : decide (x7_1 < (a1.size : Int)) = true := decide_eq_true c5
        clear c5
        by_cases c6 : 0 ≤ x7_1
        · rw [if_pos c6] at H
          have c6b0 : decide (0 ≤ x7_1) = true := decide_eq_true c6
          clear c6
          by_cases c8 : (bt a1 x7_1) ≥ 97
          · rw [if_pos c8] at H
            have c8b0 : decide (97 ≤ (bt a1 x7_1)) = true := decide_eq_true c8
            clear c8
            by_cases c9 : (bt a1 x7_1) ≤ 122
            · rw [if_pos c9] at H
              have c9b0 : decide ((bt a1 x7_1) ≤ 122) = true := decide_eq_true c9
              clear c9
              have H' := Aside0.mk H
              clear H
              have p7 : 0 ≤ (x7_1 : Int) := of_decide_eq_true (by first | (with_reducible assumption) | assumption)
              have q7 : x7_1 < (a1.size : Int) := of_decide_eq_true (by first | (with_reducible assumption) | assumption)
              have hx7 := bt_at a1 x7_1
              replace p7 := eq_true p7
              replace q7 := eq_true q7
              go_wp2
              go_roundg k1
              case measure => have := HK1.out; omega
              case rel => exact ⟨(wrap64 (x7_1 + 1)), (by first | rfl | (simp; done) | (simp [*]; done)), H', ⟨by have := HK1.out; omega⟩, ⟨by repeat (first | (with_reducible first | exact HB.out | apply below_alloc | apply pw_below_drewN | apply below_drew1) | exact HB.out)⟩⟩
            · rw [if_neg c9] at H
              have c9b0 : decide ((bt a1 x7_1) ≤ 122) = false := decide_eq_false c9
              clear c9
              by_cases c10 : (bt a1 x7_1) ≥ 48
              · rw [if_pos c10] at H
                have c10b0 : decide (48 ≤ (bt a1 x7_1)) = true := decide_eq_true c10
                clear c10
                by_cases c11 : ((bt a1 x7_1) ≤ 57)
                · rw [if_pos c11] at H
                  have c11b0 : decide ((bt a1 x7_1) ≤ 57) = true := decide_eq_true c11
                  clear c11
                  have H' := Aside0.mk H
                  clear H
                  have p7 : 0 ≤ (x7_1 : Int) := of_decide_eq_true (by first | (with_reducible assumption) | assumption)
                  have q7 : x7_1 < (a1.size : Int) := of_decide_eq_true (by first | (with_reducible assumption) | assumption)
                  have hx7 := bt_at a1 x7_1
                  replace p7 := eq_true p7
                  replace q7 := eq_true q7
                  go_wp2
                  go_roundg k1
                  case measure => have := HK1.out; omega
                  case rel => exact ⟨(wrap64 (x7_1 + 1)), (by first | rfl | (simp; done) | (simp [*]; done)), H', ⟨by have := HK1.out; omega⟩, ⟨by repeat (first | (with_reducible first | exact HB.out | apply below_alloc | apply pw_below_drewN | apply below_drew1) | exact HB.out)⟩⟩
                · rw [if_neg c11] at H
                  have c11b0 : decide ((bt a1 x7_1) ≤ 57) = false := decide_eq_false c11
                  clear c11
                  replace H := Option.bind_eq_some_iff.mp H
                  obtain ⟨t217, A120, H⟩ := H
                  replace H : (some t217) = some r := H
                  have A12 := Aside0.mk A120
                  clear A120
                  obtain rfl := Option.some.inj H
                  have p7 : 0 ≤ (x7_1 : Int) := of_decide_eq_true (by first | (with_reducible assumption) | assumption)
                  have q7 : x7_1 < (a1.size : Int) := of_decide_eq_true (by first | (with_reducible assumption) | assumption)
                  have hx7 := bt_at a1 x7_1
                  replace p7 := eq_true p7
                  replace q7 := eq_true q7
                  go_wp2_with (first | ((with_reducible refine gate_callee (f := 12) rfl ?_); refine goesL_ (some 44) rfl rfl Tryd.func12 (by kernel_rfl) rfl #[] rfl (by (try simp only [List.map_toArray, List.map_cons, List.map_nil]); first | done | rfl | (simp only [List.length_drop, List.length_take]; rfl)) ?_; (with_reducible refine (gussetlaw03_awake.calls k1  t217 _ A12.out).mono ?_); rintro e w13 ⟨rfl, hb⟩; refine ⟨_, rfl, ?_⟩; have n0_ := Aside0.mk (below_step (by repeat (first | (with_reducible first | exact HB.out | apply below_alloc | apply pw_below_drewN | apply below_drew1) | exact HB.out)) hb); clear HB; have HB := n0_; haveI := GW.of HB.out; clear n0_; (try clear hb); (try clear hb2); (try clear hk); (try clear hi)))
                  go_ret
                  exact ⟨by first | rfl | (simp [errW_none, errW_some] <;> rfl) | (simp [*, errW_none, errW_some] <;> rfl), by repeat (first | (with_reducible first | exact HB.out | apply below_alloc | apply pw_below_drewN | apply below_drew1) | exact HB.out)⟩
              · rw [if_neg c10] at H
                have c10b0 : decide (48 ≤ (bt a1 x7_1)) = false := decide_eq_false c10
                clear c10
                replace H := Option.bind_eq_some_iff.mp H
                obtain ⟨t218, A140, H⟩ := H
                replace H : (some t218) = some r := H
                have A14 := Aside0.mk A140
                clear A140
                obtain rfl := Option.some.inj H
                have p7 : 0 ≤ (x7_1 : Int) := of_decide_eq_true (by first | (with_reducible assumption) | assumption)
                have q7 : x7_1 < (a1.size : Int) := of_decide_eq_true (by first | (with_reducible assumption) | assumption)
                have hx7 := bt_at a1 x7_1
                replace p7 := eq_true p7
                replace q7 := eq_true q7
                go_wp2_with (first | ((with_reducible refine gate_callee (f := 12) rfl ?_); refine goesL_ (some 44) rfl rfl Tryd.func12 (by kernel_rfl) rfl #[] rfl (by (try simp only [List.map_toArray, List.map_cons, List.map_nil]); first | done | rfl | (simp only [List.length_drop, List.length_take]; rfl)) ?_; (with_reducible refine (gussetlaw03_awake.calls k1  t218 _ A14.out).mono ?_); rintro e w15 ⟨rfl, hb⟩; refine ⟨_, rfl, ?_⟩; have n0_ := Aside0.mk (below_step (by repeat (first | (with_reducible first | exact HB.out | apply below_alloc | apply pw_below_drewN | apply below_drew1) | exact HB.out)) hb); clear HB; have HB := n0_; haveI := GW.of HB.out; clear n0_; (try clear hb); (try clear hb2); (try clear hk); (try clear hi)))
                go_ret
                exact ⟨by first | rfl | (simp [errW_none, errW_some] <;> rfl) | (simp [*, errW_none, errW_some] <;> rfl), by repeat (first | (with_reducible first | exact HB.out | apply below_alloc | apply pw_below_drewN | apply below_drew1) | exact HB.out)⟩
          · rw [if_neg c8] at H
            have c8b0 : decide (97 ≤ (bt a1 x7_1)) = false := decide_eq_false c8
            clear c8
            by_cases c16 : (bt a1 x7_1) ≥ 48
            · rw [if_pos c16] at H
              have c16b0 : decide (48 ≤ (bt a1 x7_1)) = true := decide_eq_true c16
              clear c16
              by_cases c17 : ((bt a1 x7_1) ≤ 57)
              · rw [if_pos c17] at H
                have c17b0 : decide ((bt a1 x7_1) ≤ 57) = true := decide_eq_true c17
                clear c17
                have H' := Aside0.mk H
                clear H
                have p7 : 0 ≤ (x7_1 : Int) := of_decide_eq_true (by first | (with_reducible assumption) | assumption)
                have q7 : x7_1 < (a1.size : Int) := of_decide_eq_true (by first | (with_reducible assumption) | assumption)
                have hx7 := bt_at a1 x7_1
                replace p7 := eq_true p7
                replace q7 := eq_true q7
                go_wp2
                go_roundg k1
                case measure => have := HK1.out; omega
                case rel => exact ⟨(wrap64 (x7_1 + 1)), (by first | rfl | (simp; done) | (simp [*]; done)), H', ⟨by have := HK1.out; omega⟩, ⟨by repeat (first | (with_reducible first | exact HB.out | apply below_alloc | apply pw_below_drewN | apply below_drew1) | exact HB.out)⟩⟩
              · rw [if_neg c17] at H
                have c17b0 : decide ((bt a1 x7_1) ≤ 57) = false := decide_eq_false c17
                clear c17
                replace H := Option.bind_eq_some_iff.mp H
                obtain ⟨t219, A180, H⟩ := H
                replace H : (some t219) = some r := H
                have A18 := Aside0.mk A180
                clear A180
                obtain rfl := Option.some.inj H
                have p7 : 0 ≤ (x7_1 : Int) := of_decide_eq_true (by first | (with_reducible assumption) | assumption)
                have q7 : x7_1 < (a1.size : Int) := of_decide_eq_true (by first | (with_reducible assumption) | assumption)
                have hx7 := bt_at a1 x7_1
                replace p7 := eq_true p7
                replace q7 := eq_true q7
                go_wp2_with (first | ((with_reducible refine gate_callee (f := 12) rfl ?_); refine goesL_ (some 44) rfl rfl Tryd.func12 (by kernel_rfl) rfl #[] rfl (by (try simp only [List.map_toArray, List.map_cons, List.map_nil]); first | done | rfl | (simp only [List.length_drop, List.length_take]; rfl)) ?_; (with_reducible refine (gussetlaw03_awake.calls k1  t219 _ A18.out).mono ?_); rintro e w19 ⟨rfl, hb⟩; refine ⟨_, rfl, ?_⟩; have n0_ := Aside0.mk (below_step (by repeat (first | (with_reducible first | exact HB.out | apply below_alloc | apply pw_below_drewN | apply below_drew1) | exact HB.out)) hb); clear HB; have HB := n0_; haveI := GW.of HB.out; clear n0_; (try clear hb); (try clear hb2); (try clear hk); (try clear hi)))
                go_ret
                exact ⟨by first | rfl | (simp [errW_none, errW_some] <;> rfl) | (simp [*, errW_none, errW_some] <;> rfl), by repeat (first | (with_reducible first | exact HB.out | apply below_alloc | apply pw_below_drewN | apply below_drew1) | exact HB.out)⟩
            · rw [if_neg c16] at H
              have c16b0 : decide (48 ≤ (bt a1 x7_1)) = false := decide_eq_false c16
              clear c16
              replace H := Option.bind_eq_some_iff.mp H
              obtain ⟨t220, A200, H⟩ := H
              replace H : (some t220) = some r := H
              have A20 := Aside0.mk A200
              clear A200
              obtain rfl := Option.some.inj H
              have p7 : 0 ≤ (x7_1 : Int) := of_decide_eq_true (by first | (with_reducible assumption) | assumption)
              have q7 : x7_1 < (a1.size : Int) := of_decide_eq_true (by first | (with_reducible assumption) | assumption)
              have hx7 := bt_at a1 x7_1
              replace p7 := eq_true p7
              replace q7 := eq_true q7
              go_wp2_with (first | ((with_reducible refine gate_callee (f := 12) rfl ?_); refine goesL_ (some 44) rfl rfl Tryd.func12 (by kernel_rfl) rfl #[] rfl (by (try simp only [List.map_toArray, List.map_cons, List.map_nil]); first | done | rfl | (simp only [List.length_drop, List.length_take]; rfl)) ?_; (with_reducible refine (gussetlaw03_awake.calls k1  t220 _ A20.out).mono ?_); rintro e w21 ⟨rfl, hb⟩; refine ⟨_, rfl, ?_⟩; have n0_ := Aside0.mk (below_step (by repeat (first | (with_reducible first | exact HB.out | apply below_alloc | apply pw_below_drewN | apply below_drew1) | exact HB.out)) hb); clear HB; have HB := n0_; haveI := GW.of HB.out; clear n0_; (try clear hb); (try clear hb2); (try clear hk); (try clear hi)))
              go_ret
              exact ⟨by first | rfl | (simp [errW_none, errW_some] <;> rfl) | (simp [*, errW_none, errW_some] <;> rfl), by repeat (first | (with_reducible first | exact HB.out | apply below_alloc | apply pw_below_drewN | apply below_drew1) | exact HB.out)⟩
        · rw [if_neg c6] at H
          exact absurd H (by simp)
      · rw [if_neg c5] at H
        have c5b0 : decide (x7_1 < (a1.size : Int)) = false := decide_eq_false c5
        clear c5
        have HC22 := Aside0.mk H
        clear H
        go_upto_region 8 with (fail)
        go_cut [58] (fun v58 wc => ∃ (kq : Nat) (x58_21 : Bool), v58 = .bool x58_21 ∧ Aside0 (gussetlaw03_PathUp.j1 kq a1 t215 x58_21 = some r) ∧ Aside0 (kq ≤ k1) ∧ Aside0 (Below w.heap.size w wc))
        case first =>
          have H := HC22.out
          clear HC22
          by_cases c23 : t216 = 0
          · rw [if_pos c23] at H
            have c23b0 : (t216 == 0) = true := beq_iff_eq.mpr c23
            have c23b1 : (t216 != 0) = false := bne_eq_false_iff_eq.mpr c23
            clear c23
            (first | rw [c23b0] | (simp only [i64_w, i32_w]; rw [c23b0]) | skip)
            by_cases c24 : a1.toList = ([] : List UInt8)
            · rw [if_pos c24] at H
              have c24b0 : (a1.toList == ([] : List UInt8)) = true := beq_iff_eq.mpr c24
              have c24b9 : a1.toList.isEmpty = true := by simpa using c24
              have c24b1 : (a1.toList != ([] : List UInt8)) = false := bne_eq_false_iff_eq.mpr c24
              clear c24
              have H' := Aside0.mk H
              clear H
              go_wp2
              go_meet
              case rel => exact ⟨_, (true), (by first | rfl | (simp; done) | (simp [*]; done)), H', ⟨by have := HK1.out; first | omega | exact Nat.le_refl _⟩, ⟨by repeat (first | (with_reducible first | exact HB.out | apply below_alloc | apply pw_below_drewN | apply below_drew1) | exact HB.out)⟩⟩
            · rw [if_neg c24] at H
              have c24b0 : (a1.toList == ([] : List UInt8)) = false := beq_eq_false_iff_ne.mpr c24
              have c24b9 : a1.toList.isEmpty = false := by simpa using c24
              have c24b1 : (a1.toList != ([] : List UInt8)) = true := bne_iff_ne.mpr c24
              have H' := Aside0.mk H
              clear H
              go_wp2
              go_meet
              case rel => exact ⟨_, (decide ((wrap64 ((t215.size : Int) + (a1.size : Int))) > 190)), (by first | rfl | (simp; done) | (simp [*]; done)), H', ⟨by have := HK1.out; first | omega | exact Nat.le_refl _⟩, ⟨by repeat (first | (with_reducible first | exact HB.out | apply below_alloc | apply pw_below_drewN | apply below_drew1) | exact HB.out)⟩⟩
          · rw [if_neg c23] at H
            have c23b0 : (t216 == 0) = false := beq_eq_false_iff_ne.mpr c23
            have c23b1 : (t216 != 0) = true := bne_iff_ne.mpr c23
            (first | rw [c23b0] | (simp only [i64_w, i32_w]; rw [c23b0]) | skip)
            have H' := Aside0.mk H
            clear H
            go_wp2
            go_meet
            case rel => exact ⟨_, (true), (by first | rfl | (simp; done) | (simp [*]; done)), H', ⟨by have := HK1.out; first | omega | exact Nat.le_refl _⟩, ⟨by repeat (first | (with_reducible first | exact HB.out | apply below_alloc | apply pw_below_drewN | apply below_drew1) | exact HB.out)⟩⟩
        case rest =>
          clear HC22
          try clear c1
          try clear c2
          try clear p2
          try clear c5
          try clear c5b0
          try clear c6
          try clear c6b0
          try clear p6
          try clear c7
          try clear p7
          try clear q7
          try clear hx7
          try clear c8
          try clear c8b0
          try clear c9
          try clear c9b0
          try clear c10
          try clear c10b0
          try clear c11
          try clear c11b0
          try clear c12
          try clear c16
          try clear c16b0
          try clear c17
          try clear c17b0
          try clear c23
          try clear c23b0
          try clear c23b1
          try clear c24
          try clear c24b0
          try clear c24b1
          try clear p2
          try clear p7
          try clear q7
          obtain ⟨kq, x58_21, rfl, HA, HJ21, HB⟩ := hcut; haveI := GW.of HB.out
          cases kq with
          | zero => exact absurd HA.out (by simp [gussetlaw03_PathUp.j1])
          | succ kj21 =>
            have H := HA.out
            clear HA
            simp only [gussetlaw03_PathUp.j1] at H
            by_cases c25 : x58_21 = true
            · subst c25
              have H1 : ((gussetlaw03_awake.f kj21).bind fun t221 => (some t221)) = some r := by rw [if_pos rfl] at H; exact H
              clear H
              have H := H1
              clear H1
              replace H := Option.bind_eq_some_iff.mp H
              obtain ⟨t221, A260, H⟩ := H
              replace H : (some t221) = some r := H
              have A26 := Aside0.mk A260
              clear A260
              obtain rfl := Option.some.inj H
              go_wp2_with (first | ((with_reducible refine gate_callee (f := 12) rfl ?_); refine goesL_ (some 59) rfl rfl Tryd.func12 (by kernel_rfl) rfl #[] rfl (by (try simp only [List.map_toArray, List.map_cons, List.map_nil]); first | done | rfl | (simp only [List.length_drop, List.length_take]; rfl)) ?_; (with_reducible refine (gussetlaw03_awake.calls kj21  t221 _ A26.out).mono ?_); rintro e w27 ⟨rfl, hb⟩; refine ⟨_, rfl, ?_⟩; have n0_ := Aside0.mk (below_step (by repeat (first | (with_reducible first | exact HB.out | apply below_alloc | apply pw_below_drewN | apply below_drew1) | exact HB.out)) hb); clear HB; have HB := n0_; haveI := GW.of HB.out; clear n0_; (try clear hb); (try clear hb2); (try clear hk); (try clear hi)))
              go_ret
              exact ⟨by first | rfl | (simp [errW_none, errW_some] <;> rfl) | (simp [*, errW_none, errW_some] <;> rfl), by repeat (first | (with_reducible first | exact HB.out | apply below_alloc | apply pw_below_drewN | apply below_drew1) | exact HB.out)⟩
            · replace c25 := Bool.eq_false_iff.mpr c25
              subst c25
              have H1 : (if t215.size + 1 ≤ 9223372036854775807 then (if (t215 ++ (⟨#[47]⟩ : ByteArray)).size + a1.size ≤ 9223372036854775807 then (if ((t215 ++ (⟨#[47]⟩ : ByteArray)) ++ a1).size + 3 ≤ 9223372036854775807 then ((path_Normal.f kj21 (((t215 ++ (⟨#[47]⟩ : ByteArray)) ++ a1) ++ (⟨#[47, 46, 46]⟩ : ByteArray))).bind fun bt222 => ((path_Normal.f kj21 ((t215 ++ (⟨#[47]⟩ : ByteArray)) ++ a1)).bind fun bt224 => (if 2 + a1.size ≤ 9223372036854775807 then ((path_Join.f kj21 bt224.1 ((⟨#[46, 47]⟩ : ByteArray) ++ a1)).bind fun bt226 => (if bt222.1.toList = t215.toList then (if bt222.2 = 0 then (if bt224.2 = 0 then ((path_Dir.f kj21 bt224.1).bind fun t228 => (if t228.toList = t215.toList then (if bt226.1.toList = bt224.1.toList then (if bt226.2 = 0 then ((gussetlaw03_awake.f kj21).bind fun t229 => (some t229)) else (some false)) else (some false)) else (some false))) else (some false)) else (some false)) else (some false))) else (none)))) else (none)) else (none)) else (none)) = some r := by rw [if_neg (show ¬ (false = true) by decide)] at H; exact H
              clear H
              have H := H1
              clear H1
              by_cases c28 : t215.size + 1 ≤ 9223372036854775807
              · rw [if_pos c28] at H
                have c28b0 := eq_true c28
                have c28b1 : decide (t215.size + 1 ≤ 9223372036854775807) = true := decide_eq_true c28
                try have c28b2 : (9223372036854775807 < t215.size + 1) = False := eq_false (Nat.not_lt.2 c28)
                by_cases c29 : (t215 ++ (⟨#[47]⟩ : ByteArray)).size + a1.size ≤ 9223372036854775807
                · rw [if_pos c29] at H
                  have c29b0 := eq_true c29
                  have c29b9 := c29
                  (try simp [size_mk_] at c29b9)
                  (try have c29b8 := eq_false (Nat.not_lt.2 c29b9))
                  have c29b1 : decide ((t215 ++ (⟨#[47]⟩ : ByteArray)).size + a1.size ≤ 9223372036854775807) = true := decide_eq_true c29
                  try have c29b2 : (9223372036854775807 < (t215 ++ (⟨#[47]⟩ : ByteArray)).size + a1.size) = False := eq_false (Nat.not_lt.2 c29)
                  by_cases c30 : ((t215 ++ (⟨#[47]⟩ : ByteArray)) ++ a1).size + 3 ≤ 9223372036854775807
                  · rw [if_pos c30] at H
                    have c30b0 := eq_true c30
                    have c30b9 := c30
                    (try simp [size_mk_] at c30b9)
                    (try have c30b8 := eq_false (Nat.not_lt.2 c30b9))
                    have c30b1 : decide (((t215 ++ (⟨#[47]⟩ : ByteArray)) ++ a1).size + 3 ≤ 9223372036854775807) = true := decide_eq_true c30
                    try have c30b2 : (9223372036854775807 < ((t215 ++ (⟨#[47]⟩ : ByteArray)) ++ a1).size + 3) = False := eq_false (Nat.not_lt.2 c30)
                    replace H := Option.bind_eq_some_iff.mp H
                    obtain ⟨⟨t222, t223⟩, A310, H⟩ := H
                    replace H : ((path_Normal.f kj21 ((t215 ++ (⟨#[47]⟩ : ByteArray)) ++ a1)).bind fun bt224 => (if 2 + a1.size ≤ 9223372036854775807 then ((path_Join.f kj21 bt224.1 ((⟨#[46, 47]⟩ : ByteArray) ++ a1)).bind fun bt226 => (if t222.toList = t215.toList then (if t223 = 0 then (if bt224.2 = 0 then ((path_Dir.f kj21 bt224.1).bind fun t228 => (if t228.toList = t215.toList then (if bt226.1.toList = bt224.1.toList then (if bt226.2 = 0 then ((gussetlaw03_awake.f kj21).bind fun t229 => (some t229)) else (some false)) else (some false)) else (some false))) else (some false)) else (some false)) else (some false))) else (none))) = some r := H
                    have A31 := Aside0.mk A310
                    clear A310
                    replace H := Option.bind_eq_some_iff.mp H
                    obtain ⟨⟨t224, t225⟩, A320, H⟩ := H
                    replace H : (if 2 + a1.size ≤ 9223372036854775807 then ((path_Join.f kj21 t224 ((⟨#[46, 47]⟩ : ByteArray) ++ a1)).bind fun bt226 => (if t222.toList = t215.toList then (if t223 = 0 then (if t225 = 0 then ((path_Dir.f kj21 t224).bind fun t228 => (if t228.toList = t215.toList then (if bt226.1.toList = t224.toList then (if bt226.2 = 0 then ((gussetlaw03_awake.f kj21).bind fun t229 => (some t229)) else (some false)) else (some false)) else (some false))) else (some false)) else (some false)) else (some false))) else (none)) = some r := H
                    have A32 := Aside0.mk A320
                    clear A320
                    by_cases c33 : 2 + a1.size ≤ 9223372036854775807
                    · rw [if_pos c33] at H
                      have c33b0 := eq_true c33
                      have c33b1 : decide (2 + a1.size ≤ 9223372036854775807) = true := decide_eq_true c33
                      try have c33b2 : (9223372036854775807 < 2 + a1.size) = False := eq_false (Nat.not_lt.2 c33)
                      replace H := Option.bind_eq_some_iff.mp H
                      obtain ⟨⟨t226, t227⟩, A340, H⟩ := H
                      replace H : (if t222.toList = t215.toList then (if t223 = 0 then (if t225 = 0 then ((path_Dir.f kj21 t224).bind fun t228 => (if t228.toList = t215.toList then (if t226.toList = t224.toList then (if t227 = 0 then ((gussetlaw03_awake.f kj21).bind fun t229 => (some t229)) else (some false)) else (some false)) else (some false))) else (some false)) else (some false)) else (some false)) = some r := H
                      have A34 := Aside0.mk A340
                      clear A340
                      by_cases c35 : t222.toList = t215.toList
                      · rw [if_pos c35] at H
                        have c35b0 : (t222.toList == t215.toList) = true := beq_iff_eq.mpr c35
                        have c35b1 : (t222.toList != t215.toList) = false := bne_eq_false_iff_eq.mpr c35
                        clear c35
                        by_cases c36 : t223 = 0
                        · rw [if_pos c36] at H
                          have c36b0 : (t223 == 0) = true := beq_iff_eq.mpr c36
                          have c36b1 : (t223 != 0) = false := bne_eq_false_iff_eq.mpr c36
                          clear c36
                          by_cases c37 : t225 = 0
                          · rw [if_pos c37] at H
                            have c37b0 : (t225 == 0) = true := beq_iff_eq.mpr c37
                            have c37b1 : (t225 != 0) = false := bne_eq_false_iff_eq.mpr c37
                            clear c37
                            replace H := Option.bind_eq_some_iff.mp H
                            obtain ⟨t228, A380, H⟩ := H
                            replace H : (if t228.toList = t215.toList then (if t226.toList = t224.toList then (if t227 = 0 then ((gussetlaw03_awake.f kj21).bind fun t229 => (some t229)) else (some false)) else (some false)) else (some false)) = some r := H
                            have A38 := Aside0.mk A380
                            clear A380
                            by_cases c39 : t228.toList = t215.toList
                            · rw [if_pos c39] at H
                              have c39b0 : (t228.toList == t215.toList) = true := beq_iff_eq.mpr c39
                              have c39b1 : (t228.toList != t215.toList) = false := bne_eq_false_iff_eq.mpr c39
                              clear c39
                              by_cases c40 : t226.toList = t224.toList
                              · rw [if_pos c40] at H
                                have c40b0 : (t226.toList == t224.toList) = true := beq_iff_eq.mpr c40
                                have c40b1 : (t226.toList != t224.toList) = false := bne_eq_false_iff_eq.mpr c40
                                clear c40
                                by_cases c41 : t227 = 0
                                · rw [if_pos c41] at H
                                  have c41b0 : (t227 == 0) = true := beq_iff_eq.mpr c41
                                  have c41b1 : (t227 != 0) = false := bne_eq_false_iff_eq.mpr c41
                                  clear c41
                                  replace H := Option.bind_eq_some_iff.mp H
                                  obtain ⟨t229, A420, H⟩ := H
                                  replace H : (some t229) = some r := H
                                  have A42 := Aside0.mk A420
                                  clear A420
                                  obtain rfl := Option.some.inj H
                                  go_wp2_with (first | ((with_reducible refine gate_callee (f := 8) rfl ?_); refine goesL_ (some 66) rfl rfl Tryd.func8 (by kernel_rfl) rfl #[.string (((t215 ++ (⟨#[47]⟩ : ByteArray)) ++ a1) ++ (⟨#[47, 46, 46]⟩ : ByteArray))] rfl (by (try simp only [List.map_toArray, List.map_cons, List.map_nil]); first | done | rfl | (simp only [List.length_drop, List.length_take]; rfl)) ?_; (with_reducible refine (path_Normal.calls kj21 (((t215 ++ (⟨#[47]⟩ : ByteArray)) ++ a1) ++ (⟨#[47, 46, 46]⟩ : ByteArray)) t222 t223 _ A31.out).mono ?_); rintro e w43 ⟨rfl, hb⟩; refine ⟨_, rfl, ?_⟩; have n0_ := Aside0.mk (below_step (by repeat (first | (with_reducible first | exact HB.out | apply below_alloc | apply pw_below_drewN | apply below_drew1) | exact HB.out)) hb); clear HB; have HB := n0_; haveI := GW.of HB.out; clear n0_; (try clear hb); (try clear hb2); (try clear hk); (try clear hi)) | ((with_reducible refine gate_callee (f := 8) rfl ?_); refine goesL_ (some 74) rfl rfl Tryd.func8 (by kernel_rfl) rfl #[.string ((t215 ++ (⟨#[47]⟩ : ByteArray)) ++ a1)] rfl (by (try simp only [List.map_toArray, List.map_cons, List.map_nil]); first | done | rfl | (simp only [List.length_drop, List.length_take]; rfl)) ?_; (with_reducible refine (path_Normal.calls kj21 ((t215 ++ (⟨#[47]⟩ : ByteArray)) ++ a1) t224 t225 _ A32.out).mono ?_); rintro e w44 ⟨rfl, hb⟩; refine ⟨_, rfl, ?_⟩; have n0_ := Aside0.mk (below_step (by repeat (first | (with_reducible first | exact HB.out | apply below_alloc | apply pw_below_drewN | apply below_drew1) | exact HB.out)) hb); clear HB; have HB := n0_; haveI := GW.of HB.out; clear n0_; (try clear hb); (try clear hb2); (try clear hk); (try clear hi)) | ((with_reducible refine gate_callee (f := 13) rfl ?_); refine goesL_ (some 81) rfl rfl Tryd.func13 (by kernel_rfl) rfl #[.string t224, .string ((⟨#[46, 47]⟩ : ByteArray) ++ a1)] rfl (by (try simp only [List.map_toArray, List.map_cons, List.map_nil]); first | done | rfl | (simp only [List.length_drop, List.length_take]; rfl)) ?_; (with_reducible refine (path_Join.calls kj21 t224 ((⟨#[46, 47]⟩ : ByteArray) ++ a1) t226 t227 _ A34.out).mono ?_); rintro e w45 ⟨rfl, hb⟩; refine ⟨_, rfl, ?_⟩; have n0_ := Aside0.mk (below_step (by repeat (first | (with_reducible first | exact HB.out | apply below_alloc | apply pw_below_drewN | apply below_drew1) | exact HB.out)) hb); clear HB; have HB := n0_; haveI := GW.of HB.out; clear n0_; (try clear hb); (try clear hb2); (try clear hk); (try clear hi)) | (go_at_call 10; (with_reducible refine (path_Dir.calls kj21 t224 t228 _ A38.out).mono ?_); rintro e w46 ⟨rfl, hb⟩; have n0_ := Aside0.mk (below_step (by repeat (first | (with_reducible first | exact HB.out | apply below_alloc | apply pw_below_drewN | apply below_drew1) | exact HB.out)) hb); clear HB; have HB := n0_; haveI := GW.of HB.out; clear n0_; (try clear hb); (try clear hb2); (try clear hk); (try clear hi)) | (go_at_call 12; (with_reducible refine (gussetlaw03_awake.calls kj21  t229 _ A42.out).mono ?_); rintro e w47 ⟨rfl, hb⟩; have n0_ := Aside0.mk (below_step (by repeat (first | (with_reducible first | exact HB.out | apply below_alloc | apply pw_below_drewN | apply below_drew1) | exact HB.out)) hb); clear HB; have HB := n0_; haveI := GW.of HB.out; clear n0_; (try clear hb); (try clear hb2); (try clear hk); (try clear hi)))
                                  go_ret
                                  exact ⟨by first | rfl | (simp [errW_none, errW_some] <;> rfl) | (simp [*, errW_none, errW_some] <;> rfl), by repeat (first | (with_reducible first | exact HB.out | apply below_alloc | apply pw_below_drewN | apply below_drew1) | exact HB.out)⟩
                                · rw [if_neg c41] at H
                                  have c41b0 : (t227 == 0) = false := beq_eq_false_iff_ne.mpr c41
                                  have c41b1 : (t227 != 0) = true := bne_iff_ne.mpr c41
                                  obtain rfl := Option.some.inj H
                                  go_wp2_with (first | ((with_reducible refine gate_callee (f := 8) rfl ?_); refine goesL_ (some 66) rfl rfl Tryd.func8 (by kernel_rfl) rfl #[.string (((t215 ++ (⟨#[47]⟩ : ByteArray)) ++ a1) ++ (⟨#[47, 46, 46]⟩ : ByteArray))] rfl (by (try simp only [List.map_toArray, List.map_cons, List.map_nil]); first | done | rfl | (simp only [List.length_drop, List.length_take]; rfl)) ?_; (with_reducible refine (path_Normal.calls kj21 (((t215 ++ (⟨#[47]⟩ : ByteArray)) ++ a1) ++ (⟨#[47, 46, 46]⟩ : ByteArray)) t222 t223 _ A31.out).mono ?_); rintro e w48 ⟨rfl, hb⟩; refine ⟨_, rfl, ?_⟩; have n0_ := Aside0.mk (below_step (by repeat (first | (with_reducible first | exact HB.out | apply below_alloc | apply pw_below_drewN | apply below_drew1) | exact HB.out)) hb); clear HB; have HB := n0_; haveI := GW.of HB.out; clear n0_; (try clear hb); (try clear hb2); (try clear hk); (try clear hi)) | ((with_reducible refine gate_callee (f := 8) rfl ?_); refine goesL_ (some 74) rfl rfl Tryd.func8 (by kernel_rfl) rfl #[.string ((t215 ++ (⟨#[47]⟩ : ByteArray)) ++ a1)] rfl (by (try simp only [List.map_toArray, List.map_cons, List.map_nil]); first | done | rfl | (simp only [List.length_drop, List.length_take]; rfl)) ?_; (with_reducible refine (path_Normal.calls kj21 ((t215 ++ (⟨#[47]⟩ : ByteArray)) ++ a1) t224 t225 _ A32.out).mono ?_); rintro e w49 ⟨rfl, hb⟩; refine ⟨_, rfl, ?_⟩; have n0_ := Aside0.mk (below_step (by repeat (first | (with_reducible first | exact HB.out | apply below_alloc | apply pw_below_drewN | apply below_drew1) | exact HB.out)) hb); clear HB; have HB := n0_; haveI := GW.of HB.out; clear n0_; (try clear hb); (try clear hb2); (try clear hk); (try clear hi)) | ((with_reducible refine gate_callee (f := 13) rfl ?_); refine goesL_ (some 81) rfl rfl Tryd.func13 (by kernel_rfl) rfl #[.string t224, .string ((⟨#[46, 47]⟩ : ByteArray) ++ a1)] rfl (by (try simp only [List.map_toArray, List.map_cons, List.map_nil]); first | done | rfl | (simp only [List.length_drop, List.length_take]; rfl)) ?_; (with_reducible refine (path_Join.calls kj21 t224 ((⟨#[46, 47]⟩ : ByteArray) ++ a1) t226 t227 _ A34.out).mono ?_); rintro e w50 ⟨rfl, hb⟩; refine ⟨_, rfl, ?_⟩; have n0_ := Aside0.mk (below_step (by repeat (first | (with_reducible first | exact HB.out | apply below_alloc | apply pw_below_drewN | apply below_drew1) | exact HB.out)) hb); clear HB; have HB := n0_; haveI := GW.of HB.out; clear n0_; (try clear hb); (try clear hb2); (try clear hk); (try clear hi)) | (go_at_call 10; (with_reducible refine (path_Dir.calls kj21 t224 t228 _ A38.out).mono ?_); rintro e w51 ⟨rfl, hb⟩; have n0_ := Aside0.mk (below_step (by repeat (first | (with_reducible first | exact HB.out | apply below_alloc | apply pw_below_drewN | apply below_drew1) | exact HB.out)) hb); clear HB; have HB := n0_; haveI := GW.of HB.out; clear n0_; (try clear hb); (try clear hb2); (try clear hk); (try clear hi)))
                                  go_ret
                                  exact ⟨by first | rfl | (simp [errW_none, errW_some] <;> rfl) | (simp [*, errW_none, errW_some] <;> rfl), by repeat (first | (with_reducible first | exact HB.out | apply below_alloc | apply pw_below_drewN | apply below_drew1) | exact HB.out)⟩
                              · rw [if_neg c40] at H
                                have c40b0 : (t226.toList == t224.toList) = false := beq_eq_false_iff_ne.mpr c40
                                have c40b1 : (t226.toList != t224.toList) = true := bne_iff_ne.mpr c40
                                obtain rfl := Option.some.inj H
                                go_wp2_with (first | ((with_reducible refine gate_callee (f := 8) rfl ?_); refine goesL_ (some 66) rfl rfl Tryd.func8 (by kernel_rfl) rfl #[.string (((t215 ++ (⟨#[47]⟩ : ByteArray)) ++ a1) ++ (⟨#[47, 46, 46]⟩ : ByteArray))] rfl (by (try simp only [List.map_toArray, List.map_cons, List.map_nil]); first | done | rfl | (simp only [List.length_drop, List.length_take]; rfl)) ?_; (with_reducible refine (path_Normal.calls kj21 (((t215 ++ (⟨#[47]⟩ : ByteArray)) ++ a1) ++ (⟨#[47, 46, 46]⟩ : ByteArray)) t222 t223 _ A31.out).mono ?_); rintro e w52 ⟨rfl, hb⟩; refine ⟨_, rfl, ?_⟩; have n0_ := Aside0.mk (below_step (by repeat (first | (with_reducible first | exact HB.out | apply below_alloc | apply pw_below_drewN | apply below_drew1) | exact HB.out)) hb); clear HB; have HB := n0_; haveI := GW.of HB.out; clear n0_; (try clear hb); (try clear hb2); (try clear hk); (try clear hi)) | ((with_reducible refine gate_callee (f := 8) rfl ?_); refine goesL_ (some 74) rfl rfl Tryd.func8 (by kernel_rfl) rfl #[.string ((t215 ++ (⟨#[47]⟩ : ByteArray)) ++ a1)] rfl (by (try simp only [List.map_toArray, List.map_cons, List.map_nil]); first | done | rfl | (simp only [List.length_drop, List.length_take]; rfl)) ?_; (with_reducible refine (path_Normal.calls kj21 ((t215 ++ (⟨#[47]⟩ : ByteArray)) ++ a1) t224 t225 _ A32.out).mono ?_); rintro e w53 ⟨rfl, hb⟩; refine ⟨_, rfl, ?_⟩; have n0_ := Aside0.mk (below_step (by repeat (first | (with_reducible first | exact HB.out | apply below_alloc | apply pw_below_drewN | apply below_drew1) | exact HB.out)) hb); clear HB; have HB := n0_; haveI := GW.of HB.out; clear n0_; (try clear hb); (try clear hb2); (try clear hk); (try clear hi)) | ((with_reducible refine gate_callee (f := 13) rfl ?_); refine goesL_ (some 81) rfl rfl Tryd.func13 (by kernel_rfl) rfl #[.string t224, .string ((⟨#[46, 47]⟩ : ByteArray) ++ a1)] rfl (by (try simp only [List.map_toArray, List.map_cons, List.map_nil]); first | done | rfl | (simp only [List.length_drop, List.length_take]; rfl)) ?_; (with_reducible refine (path_Join.calls kj21 t224 ((⟨#[46, 47]⟩ : ByteArray) ++ a1) t226 t227 _ A34.out).mono ?_); rintro e w54 ⟨rfl, hb⟩; refine ⟨_, rfl, ?_⟩; have n0_ := Aside0.mk (below_step (by repeat (first | (with_reducible first | exact HB.out | apply below_alloc | apply pw_below_drewN | apply below_drew1) | exact HB.out)) hb); clear HB; have HB := n0_; haveI := GW.of HB.out; clear n0_; (try clear hb); (try clear hb2); (try clear hk); (try clear hi)) | (go_at_call 10; (with_reducible refine (path_Dir.calls kj21 t224 t228 _ A38.out).mono ?_); rintro e w55 ⟨rfl, hb⟩; have n0_ := Aside0.mk (below_step (by repeat (first | (with_reducible first | exact HB.out | apply below_alloc | apply pw_below_drewN | apply below_drew1) | exact HB.out)) hb); clear HB; have HB := n0_; haveI := GW.of HB.out; clear n0_; (try clear hb); (try clear hb2); (try clear hk); (try clear hi)))
                                go_ret
                                exact ⟨by first | rfl | (simp [errW_none, errW_some] <;> rfl) | (simp [*, errW_none, errW_some] <;> rfl), by repeat (first | (with_reducible first | exact HB.out | apply below_alloc | apply pw_below_drewN | apply below_drew1) | exact HB.out)⟩
                            · rw [if_neg c39] at H
                              have c39b0 : (t228.toList == t215.toList) = false := beq_eq_false_iff_ne.mpr c39
                              have c39b1 : (t228.toList != t215.toList) = true := bne_iff_ne.mpr c39
                              obtain rfl := Option.some.inj H
                              go_wp2_with (first | ((with_reducible refine gate_callee (f := 8) rfl ?_); refine goesL_ (some 66) rfl rfl Tryd.func8 (by kernel_rfl) rfl #[.string (((t215 ++ (⟨#[47]⟩ : ByteArray)) ++ a1) ++ (⟨#[47, 46, 46]⟩ : ByteArray))] rfl (by (try simp only [List.map_toArray, List.map_cons, List.map_nil]); first | done | rfl | (simp only [List.length_drop, List.length_take]; rfl)) ?_; (with_reducible refine (path_Normal.calls kj21 (((t215 ++ (⟨#[47]⟩ : ByteArray)) ++ a1) ++ (⟨#[47, 46, 46]⟩ : ByteArray)) t222 t223 _ A31.out).mono ?_); rintro e w56 ⟨rfl, hb⟩; refine ⟨_, rfl, ?_⟩; have n0_ := Aside0.mk (below_step (by repeat (first | (with_reducible first | exact HB.out | apply below_alloc | apply pw_below_drewN | apply below_drew1) | exact HB.out)) hb); clear HB; have HB := n0_; haveI := GW.of HB.out; clear n0_; (try clear hb); (try clear hb2); (try clear hk); (try clear hi)) | ((with_reducible refine gate_callee (f := 8) rfl ?_); refine goesL_ (some 74) rfl rfl Tryd.func8 (by kernel_rfl) rfl #[.string ((t215 ++ (⟨#[47]⟩ : ByteArray)) ++ a1)] rfl (by (try simp only [List.map_toArray, List.map_cons, List.map_nil]); first | done | rfl | (simp only [List.length_drop, List.length_take]; rfl)) ?_; (with_reducible refine (path_Normal.calls kj21 ((t215 ++ (⟨#[47]⟩ : ByteArray)) ++ a1) t224 t225 _ A32.out).mono ?_); rintro e w57 ⟨rfl, hb⟩; refine ⟨_, rfl, ?_⟩; have n0_ := Aside0.mk (below_step (by repeat (first | (with_reducible first | exact HB.out | apply below_alloc | apply pw_below_drewN | apply below_drew1) | exact HB.out)) hb); clear HB; have HB := n0_; haveI := GW.of HB.out; clear n0_; (try clear hb); (try clear hb2); (try clear hk); (try clear hi)) | ((with_reducible refine gate_callee (f := 13) rfl ?_); refine goesL_ (some 81) rfl rfl Tryd.func13 (by kernel_rfl) rfl #[.string t224, .string ((⟨#[46, 47]⟩ : ByteArray) ++ a1)] rfl (by (try simp only [List.map_toArray, List.map_cons, List.map_nil]); first | done | rfl | (simp only [List.length_drop, List.length_take]; rfl)) ?_; (with_reducible refine (path_Join.calls kj21 t224 ((⟨#[46, 47]⟩ : ByteArray) ++ a1) t226 t227 _ A34.out).mono ?_); rintro e w58 ⟨rfl, hb⟩; refine ⟨_, rfl, ?_⟩; have n0_ := Aside0.mk (below_step (by repeat (first | (with_reducible first | exact HB.out | apply below_alloc | apply pw_below_drewN | apply below_drew1) | exact HB.out)) hb); clear HB; have HB := n0_; haveI := GW.of HB.out; clear n0_; (try clear hb); (try clear hb2); (try clear hk); (try clear hi)) | (go_at_call 10; (with_reducible refine (path_Dir.calls kj21 t224 t228 _ A38.out).mono ?_); rintro e w59 ⟨rfl, hb⟩; have n0_ := Aside0.mk (below_step (by repeat (first | (with_reducible first | exact HB.out | apply below_alloc | apply pw_below_drewN | apply below_drew1) | exact HB.out)) hb); clear HB; have HB := n0_; haveI := GW.of HB.out; clear n0_; (try clear hb); (try clear hb2); (try clear hk); (try clear hi)))
                              go_ret
                              exact ⟨by first | rfl | (simp [errW_none, errW_some] <;> rfl) | (simp [*, errW_none, errW_some] <;> rfl), by repeat (first | (with_reducible first | exact HB.out | apply below_alloc | apply pw_below_drewN | apply below_drew1) | exact HB.out)⟩
                          · rw [if_neg c37] at H
                            have c37b0 : (t225 == 0) = false := beq_eq_false_iff_ne.mpr c37
                            have c37b1 : (t225 != 0) = true := bne_iff_ne.mpr c37
                            obtain rfl := Option.some.inj H
                            go_wp2_with (first | ((with_reducible refine gate_callee (f := 8) rfl ?_); refine goesL_ (some 66) rfl rfl Tryd.func8 (by kernel_rfl) rfl #[.string (((t215 ++ (⟨#[47]⟩ : ByteArray)) ++ a1) ++ (⟨#[47, 46, 46]⟩ : ByteArray))] rfl (by (try simp only [List.map_toArray, List.map_cons, List.map_nil]); first | done | rfl | (simp only [List.length_drop, List.length_take]; rfl)) ?_; (with_reducible refine (path_Normal.calls kj21 (((t215 ++ (⟨#[47]⟩ : ByteArray)) ++ a1) ++ (⟨#[47, 46, 46]⟩ : ByteArray)) t222 t223 _ A31.out).mono ?_); rintro e w60 ⟨rfl, hb⟩; refine ⟨_, rfl, ?_⟩; have n0_ := Aside0.mk (below_step (by repeat (first | (with_reducible first | exact HB.out | apply below_alloc | apply pw_below_drewN | apply below_drew1) | exact HB.out)) hb); clear HB; have HB := n0_; haveI := GW.of HB.out; clear n0_; (try clear hb); (try clear hb2); (try clear hk); (try clear hi)) | ((with_reducible refine gate_callee (f := 8) rfl ?_); refine goesL_ (some 74) rfl rfl Tryd.func8 (by kernel_rfl) rfl #[.string ((t215 ++ (⟨#[47]⟩ : ByteArray)) ++ a1)] rfl (by (try simp only [List.map_toArray, List.map_cons, List.map_nil]); first | done | rfl | (simp only [List.length_drop, List.length_take]; rfl)) ?_; (with_reducible refine (path_Normal.calls kj21 ((t215 ++ (⟨#[47]⟩ : ByteArray)) ++ a1) t224 t225 _ A32.out).mono ?_); rintro e w61 ⟨rfl, hb⟩; refine ⟨_, rfl, ?_⟩; have n0_ := Aside0.mk (below_step (by repeat (first | (with_reducible first | exact HB.out | apply below_alloc | apply pw_below_drewN | apply below_drew1) | exact HB.out)) hb); clear HB; have HB := n0_; haveI := GW.of HB.out; clear n0_; (try clear hb); (try clear hb2); (try clear hk); (try clear hi)) | ((with_reducible refine gate_callee (f := 13) rfl ?_); refine goesL_ (some 81) rfl rfl Tryd.func13 (by kernel_rfl) rfl #[.string t224, .string ((⟨#[46, 47]⟩ : ByteArray) ++ a1)] rfl (by (try simp only [List.map_toArray, List.map_cons, List.map_nil]); first | done | rfl | (simp only [List.length_drop, List.length_take]; rfl)) ?_; (with_reducible refine (path_Join.calls kj21 t224 ((⟨#[46, 47]⟩ : ByteArray) ++ a1) t226 t227 _ A34.out).mono ?_); rintro e w62 ⟨rfl, hb⟩; refine ⟨_, rfl, ?_⟩; have n0_ := Aside0.mk (below_step (by repeat (first | (with_reducible first | exact HB.out | apply below_alloc | apply pw_below_drewN | apply below_drew1) | exact HB.out)) hb); clear HB; have HB := n0_; haveI := GW.of HB.out; clear n0_; (try clear hb); (try clear hb2); (try clear hk); (try clear hi)))
                            go_ret
                            exact ⟨by first | rfl | (simp [errW_none, errW_some] <;> rfl) | (simp [*, errW_none, errW_some] <;> rfl), by repeat (first | (with_reducible first | exact HB.out | apply below_alloc | apply pw_below_drewN | apply below_drew1) | exact HB.out)⟩
                        · rw [if_neg c36] at H
                          have c36b0 : (t223 == 0) = false := beq_eq_false_iff_ne.mpr c36
                          have c36b1 : (t223 != 0) = true := bne_iff_ne.mpr c36
                          obtain rfl := Option.some.inj H
                          go_wp2_with (first | ((with_reducible refine gate_callee (f := 8) rfl ?_); refine goesL_ (some 66) rfl rfl Tryd.func8 (by kernel_rfl) rfl #[.string (((t215 ++ (⟨#[47]⟩ : ByteArray)) ++ a1) ++ (⟨#[47, 46, 46]⟩ : ByteArray))] rfl (by (try simp only [List.map_toArray, List.map_cons, List.map_nil]); first | done | rfl | (simp only [List.length_drop, List.length_take]; rfl)) ?_; (with_reducible refine (path_Normal.calls kj21 (((t215 ++ (⟨#[47]⟩ : ByteArray)) ++ a1) ++ (⟨#[47, 46, 46]⟩ : ByteArray)) t222 t223 _ A31.out).mono ?_); rintro e w63 ⟨rfl, hb⟩; refine ⟨_, rfl, ?_⟩; have n0_ := Aside0.mk (below_step (by repeat (first | (with_reducible first | exact HB.out | apply below_alloc | apply pw_below_drewN | apply below_drew1) | exact HB.out)) hb); clear HB; have HB := n0_; haveI := GW.of HB.out; clear n0_; (try clear hb); (try clear hb2); (try clear hk); (try clear hi)) | ((with_reducible refine gate_callee (f := 8) rfl ?_); refine goesL_ (some 74) rfl rfl Tryd.func8 (by kernel_rfl) rfl #[.string ((t215 ++ (⟨#[47]⟩ : ByteArray)) ++ a1)] rfl (by (try simp only [List.map_toArray, List.map_cons, List.map_nil]); first | done | rfl | (simp only [List.length_drop, List.length_take]; rfl)) ?_; (with_reducible refine (path_Normal.calls kj21 ((t215 ++ (⟨#[47]⟩ : ByteArray)) ++ a1) t224 t225 _ A32.out).mono ?_); rintro e w64 ⟨rfl, hb⟩; refine ⟨_, rfl, ?_⟩; have n0_ := Aside0.mk (below_step (by repeat (first | (with_reducible first | exact HB.out | apply below_alloc | apply pw_below_drewN | apply below_drew1) | exact HB.out)) hb); clear HB; have HB := n0_; haveI := GW.of HB.out; clear n0_; (try clear hb); (try clear hb2); (try clear hk); (try clear hi)) | ((with_reducible refine gate_callee (f := 13) rfl ?_); refine goesL_ (some 81) rfl rfl Tryd.func13 (by kernel_rfl) rfl #[.string t224, .string ((⟨#[46, 47]⟩ : ByteArray) ++ a1)] rfl (by (try simp only [List.map_toArray, List.map_cons, List.map_nil]); first | done | rfl | (simp only [List.length_drop, List.length_take]; rfl)) ?_; (with_reducible refine (path_Join.calls kj21 t224 ((⟨#[46, 47]⟩ : ByteArray) ++ a1) t226 t227 _ A34.out).mono ?_); rintro e w65 ⟨rfl, hb⟩; refine ⟨_, rfl, ?_⟩; have n0_ := Aside0.mk (below_step (by repeat (first | (with_reducible first | exact HB.out | apply below_alloc | apply pw_below_drewN | apply below_drew1) | exact HB.out)) hb); clear HB; have HB := n0_; haveI := GW.of HB.out; clear n0_; (try clear hb); (try clear hb2); (try clear hk); (try clear hi)))
                          go_ret
                          exact ⟨by first | rfl | (simp [errW_none, errW_some] <;> rfl) | (simp [*, errW_none, errW_some] <;> rfl), by repeat (first | (with_reducible first | exact HB.out | apply below_alloc | apply pw_below_drewN | apply below_drew1) | exact HB.out)⟩
                      · rw [if_neg c35] at H
                        have c35b0 : (t222.toList == t215.toList) = false := beq_eq_false_iff_ne.mpr c35
                        have c35b1 : (t222.toList != t215.toList) = true := bne_iff_ne.mpr c35
                        obtain rfl := Option.some.inj H
                        go_wp2_with (first | ((with_reducible refine gate_callee (f := 8) rfl ?_); refine goesL_ (some 66) rfl rfl Tryd.func8 (by kernel_rfl) rfl #[.string (((t215 ++ (⟨#[47]⟩ : ByteArray)) ++ a1) ++ (⟨#[47, 46, 46]⟩ : ByteArray))] rfl (by (try simp only [List.map_toArray, List.map_cons, List.map_nil]); first | done | rfl | (simp only [List.length_drop, List.length_take]; rfl)) ?_; (with_reducible refine (path_Normal.calls kj21 (((t215 ++ (⟨#[47]⟩ : ByteArray)) ++ a1) ++ (⟨#[47, 46, 46]⟩ : ByteArray)) t222 t223 _ A31.out).mono ?_); rintro e w66 ⟨rfl, hb⟩; refine ⟨_, rfl, ?_⟩; have n0_ := Aside0.mk (below_step (by repeat (first | (with_reducible first | exact HB.out | apply below_alloc | apply pw_below_drewN | apply below_drew1) | exact HB.out)) hb); clear HB; have HB := n0_; haveI := GW.of HB.out; clear n0_; (try clear hb); (try clear hb2); (try clear hk); (try clear hi)) | ((with_reducible refine gate_callee (f := 8) rfl ?_); refine goesL_ (some 74) rfl rfl Tryd.func8 (by kernel_rfl) rfl #[.string ((t215 ++ (⟨#[47]⟩ : ByteArray)) ++ a1)] rfl (by (try simp only [List.map_toArray, List.map_cons, List.map_nil]); first | done | rfl | (simp only [List.length_drop, List.length_take]; rfl)) ?_; (with_reducible refine (path_Normal.calls kj21 ((t215 ++ (⟨#[47]⟩ : ByteArray)) ++ a1) t224 t225 _ A32.out).mono ?_); rintro e w67 ⟨rfl, hb⟩; refine ⟨_, rfl, ?_⟩; have n0_ := Aside0.mk (below_step (by repeat (first | (with_reducible first | exact HB.out | apply below_alloc | apply pw_below_drewN | apply below_drew1) | exact HB.out)) hb); clear HB; have HB := n0_; haveI := GW.of HB.out; clear n0_; (try clear hb); (try clear hb2); (try clear hk); (try clear hi)) | ((with_reducible refine gate_callee (f := 13) rfl ?_); refine goesL_ (some 81) rfl rfl Tryd.func13 (by kernel_rfl) rfl #[.string t224, .string ((⟨#[46, 47]⟩ : ByteArray) ++ a1)] rfl (by (try simp only [List.map_toArray, List.map_cons, List.map_nil]); first | done | rfl | (simp only [List.length_drop, List.length_take]; rfl)) ?_; (with_reducible refine (path_Join.calls kj21 t224 ((⟨#[46, 47]⟩ : ByteArray) ++ a1) t226 t227 _ A34.out).mono ?_); rintro e w68 ⟨rfl, hb⟩; refine ⟨_, rfl, ?_⟩; have n0_ := Aside0.mk (below_step (by repeat (first | (with_reducible first | exact HB.out | apply below_alloc | apply pw_below_drewN | apply below_drew1) | exact HB.out)) hb); clear HB; have HB := n0_; haveI := GW.of HB.out; clear n0_; (try clear hb); (try clear hb2); (try clear hk); (try clear hi)))
                        go_ret
                        exact ⟨by first | rfl | (simp [errW_none, errW_some] <;> rfl) | (simp [*, errW_none, errW_some] <;> rfl), by repeat (first | (with_reducible first | exact HB.out | apply below_alloc | apply pw_below_drewN | apply below_drew1) | exact HB.out)⟩
                    · rw [if_neg c33] at H
                      exact absurd H (by simp)
                  · rw [if_neg c30] at H
                    exact absurd H (by simp)
                · rw [if_neg c29] at H
                  exact absurd H (by simp)
              · rw [if_neg c28] at H
                exact absurd H (by simp)

/-- THE ONE PURE STATEMENT of gussetlaw03_PathUp: yours. -/
def gussetlaw03_PathUp.Pure : Prop := ∀ (a0 : ByteArray) (a1 : ByteArray), a0.size ≤ 140737488351232 → a1.size ≤ 140737488351232 → ∃ k, gussetlaw03_PathUp.f k a0 a1 = some true
theorem gussetlaw03_PathUp.walk (P : gussetlaw03_PathUp.Pure) (a0 : ByteArray) (a1 : ByteArray) (w : World) [GW w] (w0 : a0.size ≤ 140737488351232) (w1 : a1.size ≤ 140737488351232) :
    Calls Tryd.prog 7 #[.string a0, .string a1] w fun e w' => e = .returned (.bool true) ∧ Below w.heap.size w w' := by
  obtain ⟨k, h⟩ := P a0 a1 w0 w1
  refine (gussetlaw03_PathUp.calls k a0 a1 true w h).mono ?_
  rintro e w' ⟨rfl, hd⟩
  exact ⟨rfl, hd⟩


end Go.Proofs.YtgjboocmdeckgaaDoor.PPath
