/- Contracts: gussetlaw04_sure. -/
import Derived.Test.YtbnpgobjbokboaaDoorPLexx0
import Derived.Test.YtbnpgobjbokboaaDoorPLexx1
import Derived.Test.YtbnpgobjbokboaaDoorPLexx5
import Derived.Test.YtbnpgobjbokboaaDoorPLexx6
namespace Go.Proofs.YtbnpgobjbokboaaDoor.PLex
open Go.RowKit Go.Proofs.YtbnpgobjbokboaaDoorW.PrintWords Go.Proofs.YtbnpgobjbokboaaDoorW.PrintLast Go.Proofs.YtbnpgobjbokboaaDoorW.PrintMore
attribute [local go_sem] max2_int min2_int max_two min_two max_three min_three max_four min_four   -- for this text's walks alone
set_option linter.unusedVariables false
set_option linter.unusedSimpArgs false
attribute [local go_sem high] eqA36

/-! ### gussetlaw04_sure: function 13 -/
def gussetlaw04_sure.f (k : Nat)  : Option (Bool) := (lex_Lex.f k (⟨#[108, 101, 116, 32, 97, 95, 49, 32, 61, 32, 39, 120, 39, 59]⟩ : ByteArray) false).bind fun bt361 => ((lex_Lex.f k (⟨#[97, 36]⟩ : ByteArray) false).bind fun bt366 => ((lex_Lex.f k (⟨#[97, 36, 32, 47, 47, 32, 98]⟩ : ByteArray) true).bind fun bt371 => (if (bt361.1.length : Int) = 5 then (if 0 < (bt361.1.length : Int) then (if (((rd_T36 bt361.1 0).f0) == 2 && ((((rd_T36 bt361.1 0).f1).toList) == ([108, 101, 116] : List UInt8) && (((rd_T36 bt361.1 0).f2) == 0 && (((rd_T36 bt361.1 0).f3) == 0)))) = true then (if 3 < (bt361.1.length : Int) then (if (((rd_T36 bt361.1 3).f0) == 4 && ((((rd_T36 bt361.1 3).f1).toList) == ([120] : List UInt8) && (((rd_T36 bt361.1 3).f2) == 0 && (((rd_T36 bt361.1 3).f3) == 10)))) = true then (if bt361.2.1 = 0 then (if bt361.2.2 = 0 then (if bt366.2.1 = 1 then (if bt366.2.2 = 40 then (if (bt371.1.length : Int) = 1 then (if 0 < (bt371.1.length : Int) then (if ((rd_T36 bt371.1 0).f1).toList = ([97, 36] : List UInt8) then (if bt371.2.2 = 0 then ((lex_Show.f k bt361.1).bind fun t379 => (if t379.toList = ([108, 101, 116, 32, 97, 95, 49, 32, 61, 32, 34, 120, 34, 32, 59] : List UInt8) then ((lex_Words.f).bind fun t380 => (some ((t380.length : Int) == 19))) else (some false))) else (some false)) else (some false)) else (none)) else (some false)) else (some false)) else (some false)) else (some false)) else (some false)) else (some false)) else (none)) else (some false)) else (none)) else (some false))))
theorem gussetlaw04_sure.mono : ∀ k, LeO (gussetlaw04_sure.f k ) (gussetlaw04_sure.f (k + 1) ) := by
 intro  k
 unfold gussetlaw04_sure.f
 repeat' first
   | (with_reducible exact lex_Lex.mono _ _ _)
   | (with_reducible exact lex_Show.mono _ _)
   | (with_reducible exact LeO.refl _)
   | (with_reducible exact LeO.none _)
   | (with_reducible refine LeO.ite ?_ ?_)
   | (with_reducible refine LeO.bind ?_ (fun _ => ?_))
   | exact lex_Lex.mono _ _ _
   | exact lex_Show.mono _ _
   | exact LeO.none _
   | refine LeO.ite ?_ ?_
   | refine LeO.bind ?_ (fun _ => ?_)
set_option maxHeartbeats 8000000 in
set_option maxRecDepth 100000 in
theorem gussetlaw04_sure.calls (k : Nat)  (r : Bool) (w : World) [GW w] (h : gussetlaw04_sure.f k  = some r) (hr : r = true) :
  Calls Tryd.prog 13 #[] w fun e w' => e = .returned (.bool r) ∧ Below w.heap.size w w' := by
 have HRT := Aside0.mk hr
 clear hr
 have hu36 := Tryd.underlying36
 have HB := Aside0.mk (Below.refl w.heap.size w)
 have H : ((lex_Lex.f k (⟨#[108, 101, 116, 32, 97, 95, 49, 32, 61, 32, 39, 120, 39, 59]⟩ : ByteArray) false).bind fun bt361 => ((lex_Lex.f k (⟨#[97, 36]⟩ : ByteArray) false).bind fun bt366 => ((lex_Lex.f k (⟨#[97, 36, 32, 47, 47, 32, 98]⟩ : ByteArray) true).bind fun bt371 => (if (bt361.1.length : Int) = 5 then (if 0 < (bt361.1.length : Int) then (if (((rd_T36 bt361.1 0).f0) == 2 && ((((rd_T36 bt361.1 0).f1).toList) == ([108, 101, 116] : List UInt8) && (((rd_T36 bt361.1 0).f2) == 0 && (((rd_T36 bt361.1 0).f3) == 0)))) = true then (if 3 < (bt361.1.length : Int) then (if (((rd_T36 bt361.1 3).f0) == 4 && ((((rd_T36 bt361.1 3).f1).toList) == ([120] : List UInt8) && (((rd_T36 bt361.1 3).f2) == 0 && (((rd_T36 bt361.1 3).f3) == 10)))) = true then (if bt361.2.1 = 0 then (if bt361.2.2 = 0 then (if bt366.2.1 = 1 then (if bt366.2.2 = 40 then (if (bt371.1.length : Int) = 1 then (if 0 < (bt371.1.length : Int) then (if ((rd_T36 bt371.1 0).f1).toList = ([97, 36] : List UInt8) then (if bt371.2.2 = 0 then ((lex_Show.f k bt361.1).bind fun t379 => (if t379.toList = ([108, 101, 116, 32, 97, 95, 49, 32, 61, 32, 34, 120, 34, 32, 59] : List UInt8) then ((lex_Words.f).bind fun t380 => (some ((t380.length : Int) == 19))) else (some false))) else (some false)) else (some false)) else (none)) else (some false)) else (some false)) else (some false)) else (some false)) else (some false)) else (some false)) else (none)) else (some false)) else (none)) else (some false))))) = some r := h
 clear h
 replace H := Option.bind_eq_some_iff.mp H
 obtain ⟨⟨t361, t362, t363⟩, A10, H⟩ := H
 replace H : ((lex_Lex.f k (⟨#[97, 36]⟩ : ByteArray) false).bind fun bt366 => ((lex_Lex.f k (⟨#[97, 36, 32, 47, 47, 32, 98]⟩ : ByteArray) true).bind fun bt371 => (if (t361.length : Int) = 5 then (if 0 < (t361.length : Int) then (if (((rd_T36 t361 0).f0) == 2 && ((((rd_T36 t361 0).f1).toList) == ([108, 101, 116] : List UInt8) && (((rd_T36 t361 0).f2) == 0 && (((rd_T36 t361 0).f3) == 0)))) = true then (if 3 < (t361.length : Int) then (if (((rd_T36 t361 3).f0) == 4 && ((((rd_T36 t361 3).f1).toList) == ([120] : List UInt8) && (((rd_T36 t361 3).f2) == 0 && (((rd_T36 t361 3).f3) == 10)))) = true then (if t362 = 0 then (if t363 = 0 then (if bt366.2.1 = 1 then (if bt366.2.2 = 40 then (if (bt371.1.length : Int) = 1 then (if 0 < (bt371.1.length : Int) then (if ((rd_T36 bt371.1 0).f1).toList = ([97, 36] : List UInt8) then (if bt371.2.2 = 0 then ((lex_Show.f k t361).bind fun t379 => (if t379.toList = ([108, 101, 116, 32, 97, 95, 49, 32, 61, 32, 34, 120, 34, 32, 59] : List UInt8) then ((lex_Words.f).bind fun t380 => (some ((t380.length : Int) == 19))) else (some false))) else (some false)) else (some false)) else (none)) else (some false)) else (some false)) else (some false)) else (some false)) else (some false)) else (some false)) else (none)) else (some false)) else (none)) else (some false)))) = some r := H
 have A1 := Aside0.mk A10
 clear A10
 replace H := Option.bind_eq_some_iff.mp H
 obtain ⟨⟨t366, t367, t368⟩, A20, H⟩ := H
 replace H : ((lex_Lex.f k (⟨#[97, 36, 32, 47, 47, 32, 98]⟩ : ByteArray) true).bind fun bt371 => (if (t361.length : Int) = 5 then (if 0 < (t361.length : Int) then (if (((rd_T36 t361 0).f0) == 2 && ((((rd_T36 t361 0).f1).toList) == ([108, 101, 116] : List UInt8) && (((rd_T36 t361 0).f2) == 0 && (((rd_T36 t361 0).f3) == 0)))) = true then (if 3 < (t361.length : Int) then (if (((rd_T36 t361 3).f0) == 4 && ((((rd_T36 t361 3).f1).toList) == ([120] : List UInt8) && (((rd_T36 t361 3).f2) == 0 && (((rd_T36 t361 3).f3) == 10)))) = true then (if t362 = 0 then (if t363 = 0 then (if t367 = 1 then (if t368 = 40 then (if (bt371.1.length : Int) = 1 then (if 0 < (bt371.1.length : Int) then (if ((rd_T36 bt371.1 0).f1).toList = ([97, 36] : List UInt8) then (if bt371.2.2 = 0 then ((lex_Show.f k t361).bind fun t379 => (if t379.toList = ([108, 101, 116, 32, 97, 95, 49, 32, 61, 32, 34, 120, 34, 32, 59] : List UInt8) then ((lex_Words.f).bind fun t380 => (some ((t380.length : Int) == 19))) else (some false))) else (some false)) else (some false)) else (none)) else (some false)) else (some false)) else (some false)) else (some false)) else (some false)) else (some false)) else (none)) else (some false)) else (none)) else (some false))) = some r := H
 have A2 := Aside0.mk A20
 clear A20
 replace H := Option.bind_eq_some_iff.mp H
 obtain ⟨⟨t371, t372, t373⟩, A30, H⟩ := H
 replace H : (if (t361.length : Int) = 5 then (if 0 < (t361.length : Int) then (if (((rd_T36 t361 0).f0) == 2 && ((((rd_T36 t361 0).f1).toList) == ([108, 101, 116] : List UInt8) && (((rd_T36 t361 0).f2) == 0 && (((rd_T36 t361 0).f3) == 0)))) = true then (if 3 < (t361.length : Int) then (if (((rd_T36 t361 3).f0) == 4 && ((((rd_T36 t361 3).f1).toList) == ([120] : List UInt8) && (((rd_T36 t361 3).f2) == 0 && (((rd_T36 t361 3).f3) == 10)))) = true then (if t362 = 0 then (if t363 = 0 then (if t367 = 1 then (if t368 = 40 then (if (t371.length : Int) = 1 then (if 0 < (t371.length : Int) then (if ((rd_T36 t371 0).f1).toList = ([97, 36] : List UInt8) then (if t373 = 0 then ((lex_Show.f k t361).bind fun t379 => (if t379.toList = ([108, 101, 116, 32, 97, 95, 49, 32, 61, 32, 34, 120, 34, 32, 59] : List UInt8) then ((lex_Words.f).bind fun t380 => (some ((t380.length : Int) == 19))) else (some false))) else (some false)) else (some false)) else (none)) else (some false)) else (some false)) else (some false)) else (some false)) else (some false)) else (some false)) else (none)) else (some false)) else (none)) else (some false)) = some r := H
 have A3 := Aside0.mk A30
 clear A30
 by_cases c4 : (t361.length : Int) = 5
 rotate_left
 ·
  rw [if_neg c4] at H
  exact absurd ((Option.some.inj H).trans HRT.out) (by simp)
 rw [if_pos c4] at H
 have c4b0 : ((t361.length : Int) == 5) = true := beq_iff_eq.mpr c4
 have c4b1 : ((t361.length : Int) != 5) = false := bne_eq_false_iff_eq.mpr c4
 clear c4
 by_cases c5 : 0 < (t361.length : Int)
 rotate_left
 ·
  rw [if_neg c5] at H
  exact absurd H (by simp)
 rw [if_pos c5] at H
 have c5b0 : decide (0 < (t361.length : Int)) = true := decide_eq_true c5
 have c5b1 : decide (0 < t361.length) = true := decide_eq_true (by omega)
 clear c5
 by_cases c6 : (((rd_T36 t361 0).f0) == 2 && ((((rd_T36 t361 0).f1).toList) == ([108, 101, 116] : List UInt8) && (((rd_T36 t361 0).f2) == 0 && (((rd_T36 t361 0).f3) == 0)))) = true
 rotate_left
 ·
  rw [if_neg c6] at H
  (try (have c6b1 : decide (((rd_T36 t361 0).f0) = 2 && ((((rd_T36 t361 0).f1).toList) == ([108, 101, 116] : List UInt8) && (((rd_T36 t361 0).f2) == 0 && (((rd_T36 t361 0).f3) == 0)))) = false := by simpa using c6))
  (try (have c6b2 : (((rd_T36 t361 0).f0) == 2 && ((((rd_T36 t361 0).f1).toList) == ([108, 101, 116] : List UInt8) && (((rd_T36 t361 0).f2) == 0 && (((rd_T36 t361 0).f3) == 0)))) = false := by simpa using c6))
  (try (have c6b3 : ¬ (((rd_T36 t361 0).f0) = 2 && ((((rd_T36 t361 0).f1).toList) == ([108, 101, 116] : List UInt8) && (((rd_T36 t361 0).f2) == 0 && (((rd_T36 t361 0).f3) == 0)))) := by simpa using c6))
  clear c6
  exact absurd ((Option.some.inj H).trans HRT.out) (by simp)
 rw [if_pos c6] at H
 have c6b0 : (((rd_T36 t361 0).f0) == 2 && ((((rd_T36 t361 0).f1).toList) == ([108, 101, 116] : List UInt8) && (((rd_T36 t361 0).f2) == 0 && (((rd_T36 t361 0).f3) == 0)))) = true := c6
 (try (have c6b1 : decide (((rd_T36 t361 0).f0) = 2 && ((((rd_T36 t361 0).f1).toList) == ([108, 101, 116] : List UInt8) && (((rd_T36 t361 0).f2) == 0 && (((rd_T36 t361 0).f3) == 0)))) = true := by simpa using c6))
 (try (have c6b2 : (((rd_T36 t361 0).f0) == 2 && ((((rd_T36 t361 0).f1).toList) == ([108, 101, 116] : List UInt8) && (((rd_T36 t361 0).f2) == 0 && (((rd_T36 t361 0).f3) == 0)))) = true := by simpa using c6))
 clear c6
 by_cases c7 : 3 < (t361.length : Int)
 rotate_left
 ·
  rw [if_neg c7] at H
  exact absurd H (by simp)
 rw [if_pos c7] at H
 have c7b0 : decide (3 < (t361.length : Int)) = true := decide_eq_true c7
 have c7b1 : decide (3 < t361.length) = true := decide_eq_true (by omega)
 clear c7
 by_cases c8 : (((rd_T36 t361 3).f0) == 4 && ((((rd_T36 t361 3).f1).toList) == ([120] : List UInt8) && (((rd_T36 t361 3).f2) == 0 && (((rd_T36 t361 3).f3) == 10)))) = true
 rotate_left
 ·
  rw [if_neg c8] at H
  (try (have c8b1 : decide (((rd_T36 t361 3).f0) = 4 && ((((rd_T36 t361 3).f1).toList) == ([120] : List UInt8) && (((rd_T36 t361 3).f2) == 0 && (((rd_T36 t361 3).f3) == 10)))) = false := by simpa using c8))
  (try (have c8b2 : (((rd_T36 t361 3).f0) == 4 && ((((rd_T36 t361 3).f1).toList) == ([120] : List UInt8) && (((rd_T36 t361 3).f2) == 0 && (((rd_T36 t361 3).f3) == 10)))) = false := by simpa using c8))
  (try (have c8b3 : ¬ (((rd_T36 t361 3).f0) = 4 && ((((rd_T36 t361 3).f1).toList) == ([120] : List UInt8) && (((rd_T36 t361 3).f2) == 0 && (((rd_T36 t361 3).f3) == 10)))) := by simpa using c8))
  clear c8
  exact absurd ((Option.some.inj H).trans HRT.out) (by simp)
 rw [if_pos c8] at H
 have c8b0 : (((rd_T36 t361 3).f0) == 4 && ((((rd_T36 t361 3).f1).toList) == ([120] : List UInt8) && (((rd_T36 t361 3).f2) == 0 && (((rd_T36 t361 3).f3) == 10)))) = true := c8
 (try (have c8b1 : decide (((rd_T36 t361 3).f0) = 4 && ((((rd_T36 t361 3).f1).toList) == ([120] : List UInt8) && (((rd_T36 t361 3).f2) == 0 && (((rd_T36 t361 3).f3) == 10)))) = true := by simpa using c8))
 (try (have c8b2 : (((rd_T36 t361 3).f0) == 4 && ((((rd_T36 t361 3).f1).toList) == ([120] : List UInt8) && (((rd_T36 t361 3).f2) == 0 && (((rd_T36 t361 3).f3) == 10)))) = true := by simpa using c8))
 clear c8
 by_cases c9 : t362 = 0
 rotate_left
 ·
  rw [if_neg c9] at H
  exact absurd ((Option.some.inj H).trans HRT.out) (by simp)
 rw [if_pos c9] at H
 have c9b0 : (t362 == 0) = true := beq_iff_eq.mpr c9
 have c9b1 : (t362 != 0) = false := bne_eq_false_iff_eq.mpr c9
 clear c9
 by_cases c10 : t363 = 0
 rotate_left
 ·
  rw [if_neg c10] at H
  exact absurd ((Option.some.inj H).trans HRT.out) (by simp)
 rw [if_pos c10] at H
 have c10b0 : (t363 == 0) = true := beq_iff_eq.mpr c10
 have c10b1 : (t363 != 0) = false := bne_eq_false_iff_eq.mpr c10
 clear c10
 by_cases c11 : t367 = 1
 rotate_left
 ·
  rw [if_neg c11] at H
  exact absurd ((Option.some.inj H).trans HRT.out) (by simp)
 rw [if_pos c11] at H
 have c11b0 : (t367 == 1) = true := beq_iff_eq.mpr c11
 have c11b1 : (t367 != 1) = false := bne_eq_false_iff_eq.mpr c11
 clear c11
 by_cases c12 : t368 = 40
 rotate_left
 ·
  rw [if_neg c12] at H
  exact absurd ((Option.some.inj H).trans HRT.out) (by simp)
 rw [if_pos c12] at H
 have c12b0 : (t368 == 40) = true := beq_iff_eq.mpr c12
 have c12b1 : (t368 != 40) = false := bne_eq_false_iff_eq.mpr c12
 clear c12
 by_cases c13 : (t371.length : Int) = 1
 rotate_left
 ·
  rw [if_neg c13] at H
  exact absurd ((Option.some.inj H).trans HRT.out) (by simp)
 rw [if_pos c13] at H
 have c13b0 : ((t371.length : Int) == 1) = true := beq_iff_eq.mpr c13
 have c13b1 : ((t371.length : Int) != 1) = false := bne_eq_false_iff_eq.mpr c13
 clear c13
 by_cases c14 : 0 < (t371.length : Int)
 rotate_left
 ·
  rw [if_neg c14] at H
  exact absurd H (by simp)
 rw [if_pos c14] at H
 have c14b0 : decide (0 < (t371.length : Int)) = true := decide_eq_true c14
 have c14b1 : decide (0 < t371.length) = true := decide_eq_true (by omega)
 clear c14
 by_cases c15 : ((rd_T36 t371 0).f1).toList = ([97, 36] : List UInt8)
 rotate_left
 ·
  rw [if_neg c15] at H
  exact absurd ((Option.some.inj H).trans HRT.out) (by simp)
 rw [if_pos c15] at H
 have c15b0 : (((rd_T36 t371 0).f1).toList == ([97, 36] : List UInt8)) = true := beq_iff_eq.mpr c15
 have c15b1 : (((rd_T36 t371 0).f1).toList != ([97, 36] : List UInt8)) = false := bne_eq_false_iff_eq.mpr c15
 clear c15
 by_cases c16 : t373 = 0
 rotate_left
 ·
  rw [if_neg c16] at H
  exact absurd ((Option.some.inj H).trans HRT.out) (by simp)
 rw [if_pos c16] at H
 have c16b0 : (t373 == 0) = true := beq_iff_eq.mpr c16
 have c16b1 : (t373 != 0) = false := bne_eq_false_iff_eq.mpr c16
 clear c16
 replace H := Option.bind_eq_some_iff.mp H
 obtain ⟨t379, A170, H⟩ := H
 replace H : (if t379.toList = ([108, 101, 116, 32, 97, 95, 49, 32, 61, 32, 34, 120, 34, 32, 59] : List UInt8) then ((lex_Words.f).bind fun t380 => (some ((t380.length : Int) == 19))) else (some false)) = some r := H
 have A17 := Aside0.mk A170
 clear A170
 by_cases c18 : t379.toList = ([108, 101, 116, 32, 97, 95, 49, 32, 61, 32, 34, 120, 34, 32, 59] : List UInt8)
 rotate_left
 ·
  rw [if_neg c18] at H
  exact absurd ((Option.some.inj H).trans HRT.out) (by simp)
 rw [if_pos c18] at H
 have c18b0 : (t379.toList == ([108, 101, 116, 32, 97, 95, 49, 32, 61, 32, 34, 120, 34, 32, 59] : List UInt8)) = true := beq_iff_eq.mpr c18
 have c18b1 : (t379.toList != ([108, 101, 116, 32, 97, 95, 49, 32, 61, 32, 34, 120, 34, 32, 59] : List UInt8)) = false := bne_eq_false_iff_eq.mpr c18
 clear c18
 replace H := Option.bind_eq_some_iff.mp H
 obtain ⟨t380, A190, H⟩ := H
 replace H : (some ((t380.length : Int) == 19)) = some r := H
 have A19 := Aside0.mk A190
 clear A190
 obtain rfl := Option.some.inj H
 go_enter Tryd.func13, Tryd.ntmps13
 go_wp2_with (first | ((with_reducible refine gate_callee (f := 10) rfl ?_); refine goesL_ (some 11) rfl rfl Tryd.func10 (by kernel_rfl) rfl #[.string (⟨#[108, 101, 116, 32, 97, 95, 49, 32, 61, 32, 39, 120, 39, 59]⟩ : ByteArray), .bool false] rfl (by (try simp only [List.map_toArray, List.map_cons, List.map_nil]); first | done | rfl | (simp only [List.length_drop, List.length_take]; rfl)) ?_; (with_reducible refine (lex_Lex.calls k (⟨#[108, 101, 116, 32, 97, 95, 49, 32, 61, 32, 39, 120, 39, 59]⟩ : ByteArray) false t361 t362 t363 _ A1.out).mono ?_); rintro e w20 ⟨v364, rfl, ho0, hb⟩; refine ⟨_, rfl, ?_⟩; have n0_ := Aside0.mk (Kd.R_lower ho0 (below_size (by repeat (first | (with_reducible first | exact HB.out | apply below_alloc | apply pw_below_drewN | apply below_drew1) | exact HB.out)))); have n1_ := Aside0.mk (below_step (by repeat (first | (with_reducible first | exact HB.out | apply below_alloc | apply pw_below_drewN | apply below_drew1) | exact HB.out)) hb); clear HB; have HO365 := n0_; have HB := n1_; haveI := GW.of HB.out; clear n0_ n1_; (try clear hb); (try clear hb2); (try clear hk); (try clear hi); (try clear ho0)) | ((with_reducible refine gate_callee (f := 10) rfl ?_); refine goesL_ (some 16) rfl rfl Tryd.func10 (by kernel_rfl) rfl #[.string (⟨#[97, 36]⟩ : ByteArray), .bool false] rfl (by (try simp only [List.map_toArray, List.map_cons, List.map_nil]); first | done | rfl | (simp only [List.length_drop, List.length_take]; rfl)) ?_; (with_reducible refine (lex_Lex.calls k (⟨#[97, 36]⟩ : ByteArray) false t366 t367 t368 _ A2.out).mono ?_); rintro e w21 ⟨v369, rfl, ho0, hb⟩; refine ⟨_, rfl, ?_⟩; have n0_ := Aside0.mk (Kd.R_elder' (by (with_reducible repeat (first | apply Kd.R_alloc | apply Kd.R_drewN | apply Kd.R_drew)); exact HO365.out) (Kd.R_base ho0) hb); have n1_ := Aside0.mk (Kd.R_lower (Kd.R_new' ho0 (Kd.R_lt (by (with_reducible repeat (first | apply Kd.R_alloc | apply Kd.R_drewN | apply Kd.R_drew)); exact HO365.out))) (below_size (by repeat (first | (with_reducible first | exact HB.out | apply below_alloc | apply pw_below_drewN | apply below_drew1) | exact HB.out)))); have n2_ := Aside0.mk (below_step (by repeat (first | (with_reducible first | exact HB.out | apply below_alloc | apply pw_below_drewN | apply below_drew1) | exact HB.out)) hb); clear HO365; clear HB; have HO365 := n0_; have HO370 := n1_; have HB := n2_; haveI := GW.of HB.out; clear n0_ n1_ n2_; (try clear hb); (try clear hb2); (try clear hk); (try clear hi); (try clear ho0)) | ((with_reducible refine gate_callee (f := 10) rfl ?_); refine goesL_ (some 21) rfl rfl Tryd.func10 (by kernel_rfl) rfl #[.string (⟨#[97, 36, 32, 47, 47, 32, 98]⟩ : ByteArray), .bool true] rfl (by (try simp only [List.map_toArray, List.map_cons, List.map_nil]); first | done | rfl | (simp only [List.length_drop, List.length_take]; rfl)) ?_; (with_reducible refine (lex_Lex.calls k (⟨#[97, 36, 32, 47, 47, 32, 98]⟩ : ByteArray) true t371 t372 t373 _ A3.out).mono ?_); rintro e w22 ⟨v374, rfl, ho0, hb⟩; refine ⟨_, rfl, ?_⟩; have n0_ := Aside0.mk (Kd.R_elder' (by (with_reducible repeat (first | apply Kd.R_alloc | apply Kd.R_drewN | apply Kd.R_drew)); exact HO365.out) (Kd.R_base ho0) hb); have n1_ := Aside0.mk (Kd.R_elder' (by (with_reducible repeat (first | apply Kd.R_alloc | apply Kd.R_drewN | apply Kd.R_drew)); exact HO370.out) (Kd.R_base ho0) hb); have n2_ := Aside0.mk (Kd.R_lower (Kd.R_new' (Kd.R_new' ho0 (Kd.R_lt (by (with_reducible repeat (first | apply Kd.R_alloc | apply Kd.R_drewN | apply Kd.R_drew)); exact HO365.out))) (Kd.R_lt (by (with_reducible repeat (first | apply Kd.R_alloc | apply Kd.R_drewN | apply Kd.R_drew)); exact HO370.out))) (below_size (by repeat (first | (with_reducible first | exact HB.out | apply below_alloc | apply pw_below_drewN | apply below_drew1) | exact HB.out)))); have n3_ := Aside0.mk (below_step (by repeat (first | (with_reducible first | exact HB.out | apply below_alloc | apply pw_below_drewN | apply below_drew1) | exact HB.out)) hb); clear HO365; clear HO370; clear HB; have HO365 := n0_; have HO370 := n1_; have HO375 := n2_; have HB := n3_; haveI := GW.of HB.out; clear n0_ n1_ n2_ n3_; (try clear hb); (try clear hb2); (try clear hk); (try clear hi); (try clear ho0); obtain ⟨Ao23, co23, eo23⟩ := Kd.R_slice HO365.out; subst eo23; have p376 : 0 ≤ (0 : Int) := (by omega); have q376 : 0 < (t361.length : Int) := of_decide_eq_true (by first | (with_reducible assumption) | assumption); obtain ⟨ad376, e376, hx376_0, hx376_1, hx376_2, hx376_3⟩ := at_T36 (Kd.R_reads' HO365.out).2.2 0 p376 q376; cases e376; have qi376 : (0 < t361.length) = True := eq_true (by omega); (try rw [show ((0 : Int)).toNat = 0 from rfl] at hx376_0); (try rw [show 0 * 4 = 0 from rfl] at hx376_0); (try rw [Addr.add_zero'] at hx376_0); (try rw [show ((0 : Int)).toNat = 0 from rfl] at hx376_1); (try rw [show 0 * 4 = 0 from rfl] at hx376_1); (try rw [Addr.add_zero'] at hx376_1); (try rw [show ((0 : Int)).toNat = 0 from rfl] at hx376_2); (try rw [show 0 * 4 = 0 from rfl] at hx376_2); (try rw [Addr.add_zero'] at hx376_2); (try rw [show ((0 : Int)).toNat = 0 from rfl] at hx376_3); (try rw [show 0 * 4 = 0 from rfl] at hx376_3); (try rw [Addr.add_zero'] at hx376_3); replace p376 := eq_true p376; replace q376 := eq_true q376; have p377 : 0 ≤ (3 : Int) := (by omega); have q377 : 3 < (t361.length : Int) := of_decide_eq_true (by first | (with_reducible assumption) | assumption); obtain ⟨ad377, e377, hx377_0, hx377_1, hx377_2, hx377_3⟩ := at_T36 (Kd.R_reads' HO365.out).2.2 3 p377 q377; obtain rfl : ad376 = ad377 := (by injection e377); (try simp only [show (3 : Int).toNat = 3 from rfl, Nat.reduceMul, Nat.reduceEqDiff, Go.Addr.add, ↓reduceIte] at hx377_0); (try simp only [show (3 : Int).toNat = 3 from rfl, Nat.reduceMul, Nat.reduceEqDiff, Go.Addr.add, ↓reduceIte] at hx377_1); (try simp only [show (3 : Int).toNat = 3 from rfl, Nat.reduceMul, Nat.reduceEqDiff, Go.Addr.add, ↓reduceIte] at hx377_2); (try simp only [show (3 : Int).toNat = 3 from rfl, Nat.reduceMul, Nat.reduceEqDiff, Go.Addr.add, ↓reduceIte] at hx377_3); have qi377 : (3 < t361.length) = True := eq_true (by omega); (try rw [show ((3 : Int)).toNat = 3 from rfl] at hx377_0); (try rw [show 3 * 4 = 12 from rfl] at hx377_0); (try rw [show ((3 : Int)).toNat = 3 from rfl] at hx377_1); (try rw [show 3 * 4 = 12 from rfl] at hx377_1); (try rw [show ((3 : Int)).toNat = 3 from rfl] at hx377_2); (try rw [show 3 * 4 = 12 from rfl] at hx377_2); (try rw [show ((3 : Int)).toNat = 3 from rfl] at hx377_3); (try rw [show 3 * 4 = 12 from rfl] at hx377_3); replace p377 := eq_true p377; replace q377 := eq_true q377; obtain ⟨Ao24, co24, eo24⟩ := Kd.R_slice HO375.out; subst eo24; have p378 : 0 ≤ (0 : Int) := (by omega); have q378 : 0 < (t371.length : Int) := of_decide_eq_true (by first | (with_reducible assumption) | assumption); obtain ⟨ad378, e378, hx378_0, hx378_1, hx378_2, hx378_3⟩ := at_T36 (Kd.R_reads' HO375.out).2.2 0 p378 q378; cases e378; have qi378 : (0 < t371.length) = True := eq_true (by omega); (try rw [show ((0 : Int)).toNat = 0 from rfl] at hx378_0); (try rw [show 0 * 4 = 0 from rfl] at hx378_0); (try rw [Addr.add_zero'] at hx378_0); (try rw [show ((0 : Int)).toNat = 0 from rfl] at hx378_1); (try rw [show 0 * 4 = 0 from rfl] at hx378_1); (try rw [Addr.add_zero'] at hx378_1); (try rw [show ((0 : Int)).toNat = 0 from rfl] at hx378_2); (try rw [show 0 * 4 = 0 from rfl] at hx378_2); (try rw [Addr.add_zero'] at hx378_2); (try rw [show ((0 : Int)).toNat = 0 from rfl] at hx378_3); (try rw [show 0 * 4 = 0 from rfl] at hx378_3); (try rw [Addr.add_zero'] at hx378_3); replace p378 := eq_true p378; replace q378 := eq_true q378) | (go_at_call 14; (with_reducible refine (lex_Show.calls k _ _ t361 t379 _ ?side1 ?side2 A17.out).mono ?_); (case side1 => repeat (first | exact (Kd.R_reads' HO365.out).2.2 | (with_reducible refine Kd.C_alloc ?_ _) | (with_reducible refine Kd.C_drewN ?_ _) | (with_reducible refine Kd.C_drew ?_))); (case side2 => exact (Kd.R_reads' HO365.out).2.1); rintro e w25 ⟨rfl, hb⟩; have n0_ := Aside0.mk (Kd.R_below (by (with_reducible repeat (first | apply Kd.R_alloc | apply Kd.R_drewN | apply Kd.R_drew)); exact HO365.out) hb); have n1_ := Aside0.mk (Kd.R_below (by (with_reducible repeat (first | apply Kd.R_alloc | apply Kd.R_drewN | apply Kd.R_drew)); exact HO370.out) hb); have n2_ := Aside0.mk (Kd.R_below (by (with_reducible repeat (first | apply Kd.R_alloc | apply Kd.R_drewN | apply Kd.R_drew)); exact HO375.out) hb); have n3_ := Aside0.mk (below_step (by repeat (first | (with_reducible first | exact HB.out | apply below_alloc | apply pw_below_drewN | apply below_drew1) | exact HB.out)) hb); clear HO365; clear HO370; clear HO375; clear HB; have HO365 := n0_; have HO370 := n1_; have HO375 := n2_; have HB := n3_; haveI := GW.of HB.out; clear n0_ n1_ n2_ n3_; (try clear hb); (try clear hb2); (try clear hk); (try clear hi)) | (go_at_call 16; (with_reducible refine (lex_Words.calls  t380 _ A19.out).mono ?_); rintro e w26 ⟨v381, rfl, ho0, hb⟩; have n0_ := Aside0.mk (Kd.R_below (by (with_reducible repeat (first | apply Kd.R_alloc | apply Kd.R_drewN | apply Kd.R_drew)); exact HO365.out) hb); have n1_ := Aside0.mk (Kd.R_below (by (with_reducible repeat (first | apply Kd.R_alloc | apply Kd.R_drewN | apply Kd.R_drew)); exact HO370.out) hb); have n2_ := Aside0.mk (Kd.R_below (by (with_reducible repeat (first | apply Kd.R_alloc | apply Kd.R_drewN | apply Kd.R_drew)); exact HO375.out) hb); have n3_ := Aside0.mk (Kd.R_lower ho0 (below_size (by repeat (first | (with_reducible first | exact HB.out | apply below_alloc | apply pw_below_drewN | apply below_drew1) | exact HB.out)))); have n4_ := Aside0.mk (below_step (by repeat (first | (with_reducible first | exact HB.out | apply below_alloc | apply pw_below_drewN | apply below_drew1) | exact HB.out)) hb); clear HO365; clear HO370; clear HO375; clear HB; have HO365 := n0_; have HO370 := n1_; have HO375 := n2_; have HO382 := n3_; have HB := n4_; haveI := GW.of HB.out; clear n0_ n1_ n2_ n3_ n4_; (try clear hb); (try clear hb2); (try clear hk); (try clear hi); (try clear ho0); obtain ⟨Ao27, co27, eo27⟩ := Kd.R_slice HO382.out; subst eo27))
 go_ret
 exact ⟨by first | rfl | (simp [errW_none, errW_some] <;> rfl) | (simp [*, errW_none, errW_some] <;> rfl), by repeat (first | (with_reducible first | exact HB.out | apply below_alloc | apply pw_below_drewN | apply below_drew1) | exact HB.out)⟩


end Go.Proofs.YtbnpgobjbokboaaDoor.PLex
