/- The contract of a value's text. A heap among the blocks of a caller: what it owns is new, and none of what is guarded. Chapter 23's examples. The heap's contracts with their answers given, for ValueApart; what a lookup tells of its things. -/
import Derived.Test.YtjbolkkbehfnmaaDoorHA
import Derived.Test.YtjbolkkbehfnmaaDoorPValx1
import Derived.Test.YtjbolkkbehfnmaaDoorPValx2
import Derived.Test.YtjbolkkbehfnmaaDoorPValx3
import Derived.Test.YtjbolkkbehfnmaaDoorPValx6
namespace Go.Proofs.YtjbolkkbehfnmaaDoor.Val
open Go.RowKit Go.Proofs.YtjbolkkbehfnmaaDoor.PVal Go.Proofs.YtjbolkkbehfnmaaDoorW.PrintWords Go.Proofs.YtjbolkkbehfnmaaDoorW.PrintLast Go.Proofs.YtjbolkkbehfnmaaDoorW.PrintMore
set_option linter.unusedVariables false
set_option linter.unusedSimpArgs false
/-- A value's text. -/
def textV (x : S32) : ByteArray :=
  if x.f0 = 0 then ⟨#[117, 110, 100, 101, 102, 105, 110, 101, 100]⟩
  else if x.f0 = 1 then ⟨#[110, 117, 108, 108]⟩
  else if x.f0 = 2 then ⟨(Lib.formatBool (x.f1 != 0)).toArray⟩
  else if x.f0 = 3 then ⟨(Lib.itoa x.f1).toArray⟩
  else if x.f0 = 4 then x.f2
  else if x.f0 = 5 then ⟨#[97, 114, 114, 97, 121]⟩
  else if x.f0 = 6 then ⟨#[111, 98, 106, 101, 99, 116]⟩
  else if x.f0 = 7 then ⟨#[102, 117, 110, 99, 116, 105, 111, 110]⟩
  else if x.f0 = 8 then ⟨#[99, 108, 97, 115, 115]⟩
  else if x.f0 = 9 then ⟨#[110, 97, 109, 101, 115, 112, 97, 99, 101]⟩
  else ⟨#[]⟩
set_option maxHeartbeats 2000000 in
set_option maxRecDepth 100000 in
theorem text_0 (w : World) [GW w] (q : Option Addr) (x : S32)  (h : x.f0 = 0) :
    Calls Tryd.prog 18 #[.pointer q, .agg #[.int .i64 x.f0, .int .i64 x.f1, .string x.f2]] w fun e w' => e = .returned (.string (⟨#[117, 110, 100, 101, 102, 105, 110, 101, 100]⟩ : ByteArray)) ∧ Below w.heap.size w w' := by
  have e0 : (x.f0 == 0) = true := beq_iff_eq.mpr h
  clear  h
  go_enter Tryd.func18, Tryd.ntmps18
  go_wp2
  go_ret
  exact ⟨rfl, below_alloc (Below.refl _ _) _⟩
set_option maxHeartbeats 2000000 in
set_option maxRecDepth 100000 in
theorem text_1 (w : World) [GW w] (q : Option Addr) (x : S32) (h0 : ¬ x.f0 = 0) (h : x.f0 = 1) :
    Calls Tryd.prog 18 #[.pointer q, .agg #[.int .i64 x.f0, .int .i64 x.f1, .string x.f2]] w fun e w' => e = .returned (.string (⟨#[110, 117, 108, 108]⟩ : ByteArray)) ∧ Below w.heap.size w w' := by
  have e0 : (x.f0 == 0) = false := beq_eq_false_iff_ne.mpr h0
  have e1 : (x.f0 == 1) = true := beq_iff_eq.mpr h
  clear h0 h
  go_enter Tryd.func18, Tryd.ntmps18
  go_wp2
  go_ret
  exact ⟨rfl, below_alloc (Below.refl _ _) _⟩
set_option maxHeartbeats 2000000 in
set_option maxRecDepth 100000 in
theorem text_2 (w : World) [GW w] (q : Option Addr) (x : S32) (h0 : ¬ x.f0 = 0) (h1 : ¬ x.f0 = 1) (h : x.f0 = 2) :
    Calls Tryd.prog 18 #[.pointer q, .agg #[.int .i64 x.f0, .int .i64 x.f1, .string x.f2]] w fun e w' => e = .returned (.string ⟨(Lib.formatBool (x.f1 != 0)).toArray⟩) ∧ Below w.heap.size w w' := by
  have e0 : (x.f0 == 0) = false := beq_eq_false_iff_ne.mpr h0
  have e1 : (x.f0 == 1) = false := beq_eq_false_iff_ne.mpr h1
  have e2 : (x.f0 == 2) = true := beq_iff_eq.mpr h
  clear h0 h1 h
  have HC := Aside0.mk (Tryd.strconv_FormatBool (x.f1 != 0))
  go_enter Tryd.func18, Tryd.ntmps18
  go_wp2_with (go_at_call 37; refine (HC.out _).mono ?_; rintro e w' ⟨rfl, hw⟩; subst hw)
  go_ret
  exact ⟨rfl, below_alloc (Below.refl _ _) _⟩
set_option maxHeartbeats 2000000 in
set_option maxRecDepth 100000 in
theorem text_3 (w : World) [GW w] (q : Option Addr) (x : S32) (h0 : ¬ x.f0 = 0) (h1 : ¬ x.f0 = 1) (h2 : ¬ x.f0 = 2) (h : x.f0 = 3) (hl : -9223372036854775808 ≤ x.f1) (hu : x.f1 ≤ 9223372036854775807) :
    Calls Tryd.prog 18 #[.pointer q, .agg #[.int .i64 x.f0, .int .i64 x.f1, .string x.f2]] w fun e w' => e = .returned (.string ⟨(Lib.itoa x.f1).toArray⟩) ∧ Below w.heap.size w w' := by
  have e0 : (x.f0 == 0) = false := beq_eq_false_iff_ne.mpr h0
  have e1 : (x.f0 == 1) = false := beq_eq_false_iff_ne.mpr h1
  have e2 : (x.f0 == 2) = false := beq_eq_false_iff_ne.mpr h2
  have e3 : (x.f0 == 3) = true := beq_iff_eq.mpr h
  clear h0 h1 h2 h
  have HC := Aside0.mk (fun w [GW w] => Tryd.strconv_Itoa x.f1 hl hu w GW.p10)
  go_enter Tryd.func18, Tryd.ntmps18
  go_wp2_with (go_at_call 38; refine (HC.out _).mono ?_; rintro e w' ⟨rfl, n, os, hw⟩; have HB := Aside0.mk (show Below (w.alloc (.cells #[.int .i64 x.f0, .int .i64 x.f1, .string x.f2] 32)).heap.size _ w' from by rw [hw]; exact Lib.below_grow _ _ (Nat.le_refl _) n os); clear hw)
  go_ret
  exact ⟨rfl, below_step (below_alloc (Below.refl _ _) _) HB.out⟩
set_option maxHeartbeats 2000000 in
set_option maxRecDepth 100000 in
theorem text_4 (w : World) [GW w] (q : Option Addr) (x : S32) (h0 : ¬ x.f0 = 0) (h1 : ¬ x.f0 = 1) (h2 : ¬ x.f0 = 2) (h3 : ¬ x.f0 = 3) (h : x.f0 = 4) :
    Calls Tryd.prog 18 #[.pointer q, .agg #[.int .i64 x.f0, .int .i64 x.f1, .string x.f2]] w fun e w' => e = .returned (.string x.f2) ∧ Below w.heap.size w w' := by
  have e0 : (x.f0 == 0) = false := beq_eq_false_iff_ne.mpr h0
  have e1 : (x.f0 == 1) = false := beq_eq_false_iff_ne.mpr h1
  have e2 : (x.f0 == 2) = false := beq_eq_false_iff_ne.mpr h2
  have e3 : (x.f0 == 3) = false := beq_eq_false_iff_ne.mpr h3
  have e4 : (x.f0 == 4) = true := beq_iff_eq.mpr h
  clear h0 h1 h2 h3 h
  go_enter Tryd.func18, Tryd.ntmps18
  go_wp2
  go_ret
  exact ⟨rfl, below_alloc (Below.refl _ _) _⟩
set_option maxHeartbeats 2000000 in
set_option maxRecDepth 100000 in
theorem text_5 (w : World) [GW w] (q : Option Addr) (x : S32) (h0 : ¬ x.f0 = 0) (h1 : ¬ x.f0 = 1) (h2 : ¬ x.f0 = 2) (h3 : ¬ x.f0 = 3) (h4 : ¬ x.f0 = 4) (h : x.f0 = 5) :
    Calls Tryd.prog 18 #[.pointer q, .agg #[.int .i64 x.f0, .int .i64 x.f1, .string x.f2]] w fun e w' => e = .returned (.string (⟨#[97, 114, 114, 97, 121]⟩ : ByteArray)) ∧ Below w.heap.size w w' := by
  have e0 : (x.f0 == 0) = false := beq_eq_false_iff_ne.mpr h0
  have e1 : (x.f0 == 1) = false := beq_eq_false_iff_ne.mpr h1
  have e2 : (x.f0 == 2) = false := beq_eq_false_iff_ne.mpr h2
  have e3 : (x.f0 == 3) = false := beq_eq_false_iff_ne.mpr h3
  have e4 : (x.f0 == 4) = false := beq_eq_false_iff_ne.mpr h4
  have e5 : (x.f0 == 5) = true := beq_iff_eq.mpr h
  clear h0 h1 h2 h3 h4 h
  go_enter Tryd.func18, Tryd.ntmps18
  go_wp2
  go_ret
  exact ⟨rfl, below_alloc (Below.refl _ _) _⟩
set_option maxHeartbeats 2000000 in
set_option maxRecDepth 100000 in
theorem text_6 (w : World) [GW w] (q : Option Addr) (x : S32) (h0 : ¬ x.f0 = 0) (h1 : ¬ x.f0 = 1) (h2 : ¬ x.f0 = 2) (h3 : ¬ x.f0 = 3) (h4 : ¬ x.f0 = 4) (h5 : ¬ x.f0 = 5) (h : x.f0 = 6) :
    Calls Tryd.prog 18 #[.pointer q, .agg #[.int .i64 x.f0, .int .i64 x.f1, .string x.f2]] w fun e w' => e = .returned (.string (⟨#[111, 98, 106, 101, 99, 116]⟩ : ByteArray)) ∧ Below w.heap.size w w' := by
  have e0 : (x.f0 == 0) = false := beq_eq_false_iff_ne.mpr h0
  have e1 : (x.f0 == 1) = false := beq_eq_false_iff_ne.mpr h1
  have e2 : (x.f0 == 2) = false := beq_eq_false_iff_ne.mpr h2
  have e3 : (x.f0 == 3) = false := beq_eq_false_iff_ne.mpr h3
  have e4 : (x.f0 == 4) = false := beq_eq_false_iff_ne.mpr h4
  have e5 : (x.f0 == 5) = false := beq_eq_false_iff_ne.mpr h5
  have e6 : (x.f0 == 6) = true := beq_iff_eq.mpr h
  clear h0 h1 h2 h3 h4 h5 h
  go_enter Tryd.func18, Tryd.ntmps18
  go_wp2
  go_ret
  exact ⟨rfl, below_alloc (Below.refl _ _) _⟩
set_option maxHeartbeats 2000000 in
set_option maxRecDepth 100000 in
theorem text_7 (w : World) [GW w] (q : Option Addr) (x : S32) (h0 : ¬ x.f0 = 0) (h1 : ¬ x.f0 = 1) (h2 : ¬ x.f0 = 2) (h3 : ¬ x.f0 = 3) (h4 : ¬ x.f0 = 4) (h5 : ¬ x.f0 = 5) (h6 : ¬ x.f0 = 6) (h : x.f0 = 7) :
    Calls Tryd.prog 18 #[.pointer q, .agg #[.int .i64 x.f0, .int .i64 x.f1, .string x.f2]] w fun e w' => e = .returned (.string (⟨#[102, 117, 110, 99, 116, 105, 111, 110]⟩ : ByteArray)) ∧ Below w.heap.size w w' := by
  have e0 : (x.f0 == 0) = false := beq_eq_false_iff_ne.mpr h0
  have e1 : (x.f0 == 1) = false := beq_eq_false_iff_ne.mpr h1
  have e2 : (x.f0 == 2) = false := beq_eq_false_iff_ne.mpr h2
  have e3 : (x.f0 == 3) = false := beq_eq_false_iff_ne.mpr h3
  have e4 : (x.f0 == 4) = false := beq_eq_false_iff_ne.mpr h4
  have e5 : (x.f0 == 5) = false := beq_eq_false_iff_ne.mpr h5
  have e6 : (x.f0 == 6) = false := beq_eq_false_iff_ne.mpr h6
  have e7 : (x.f0 == 7) = true := beq_iff_eq.mpr h
  clear h0 h1 h2 h3 h4 h5 h6 h
  go_enter Tryd.func18, Tryd.ntmps18
  go_wp2
  go_ret
  exact ⟨rfl, below_alloc (Below.refl _ _) _⟩
set_option maxHeartbeats 2000000 in
set_option maxRecDepth 100000 in
theorem text_8 (w : World) [GW w] (q : Option Addr) (x : S32) (h0 : ¬ x.f0 = 0) (h1 : ¬ x.f0 = 1) (h2 : ¬ x.f0 = 2) (h3 : ¬ x.f0 = 3) (h4 : ¬ x.f0 = 4) (h5 : ¬ x.f0 = 5) (h6 : ¬ x.f0 = 6) (h7 : ¬ x.f0 = 7) (h : x.f0 = 8) :
    Calls Tryd.prog 18 #[.pointer q, .agg #[.int .i64 x.f0, .int .i64 x.f1, .string x.f2]] w fun e w' => e = .returned (.string (⟨#[99, 108, 97, 115, 115]⟩ : ByteArray)) ∧ Below w.heap.size w w' := by
  have e0 : (x.f0 == 0) = false := beq_eq_false_iff_ne.mpr h0
  have e1 : (x.f0 == 1) = false := beq_eq_false_iff_ne.mpr h1
  have e2 : (x.f0 == 2) = false := beq_eq_false_iff_ne.mpr h2
  have e3 : (x.f0 == 3) = false := beq_eq_false_iff_ne.mpr h3
  have e4 : (x.f0 == 4) = false := beq_eq_false_iff_ne.mpr h4
  have e5 : (x.f0 == 5) = false := beq_eq_false_iff_ne.mpr h5
  have e6 : (x.f0 == 6) = false := beq_eq_false_iff_ne.mpr h6
  have e7 : (x.f0 == 7) = false := beq_eq_false_iff_ne.mpr h7
  have e8 : (x.f0 == 8) = true := beq_iff_eq.mpr h
  clear h0 h1 h2 h3 h4 h5 h6 h7 h
  go_enter Tryd.func18, Tryd.ntmps18
  go_wp2
  go_ret
  exact ⟨rfl, below_alloc (Below.refl _ _) _⟩
set_option maxHeartbeats 2000000 in
set_option maxRecDepth 100000 in
theorem text_9 (w : World) [GW w] (q : Option Addr) (x : S32) (h0 : ¬ x.f0 = 0) (h1 : ¬ x.f0 = 1) (h2 : ¬ x.f0 = 2) (h3 : ¬ x.f0 = 3) (h4 : ¬ x.f0 = 4) (h5 : ¬ x.f0 = 5) (h6 : ¬ x.f0 = 6) (h7 : ¬ x.f0 = 7) (h8 : ¬ x.f0 = 8) (h : x.f0 = 9) :
    Calls Tryd.prog 18 #[.pointer q, .agg #[.int .i64 x.f0, .int .i64 x.f1, .string x.f2]] w fun e w' => e = .returned (.string (⟨#[110, 97, 109, 101, 115, 112, 97, 99, 101]⟩ : ByteArray)) ∧ Below w.heap.size w w' := by
  have e0 : (x.f0 == 0) = false := beq_eq_false_iff_ne.mpr h0
  have e1 : (x.f0 == 1) = false := beq_eq_false_iff_ne.mpr h1
  have e2 : (x.f0 == 2) = false := beq_eq_false_iff_ne.mpr h2
  have e3 : (x.f0 == 3) = false := beq_eq_false_iff_ne.mpr h3
  have e4 : (x.f0 == 4) = false := beq_eq_false_iff_ne.mpr h4
  have e5 : (x.f0 == 5) = false := beq_eq_false_iff_ne.mpr h5
  have e6 : (x.f0 == 6) = false := beq_eq_false_iff_ne.mpr h6
  have e7 : (x.f0 == 7) = false := beq_eq_false_iff_ne.mpr h7
  have e8 : (x.f0 == 8) = false := beq_eq_false_iff_ne.mpr h8
  have e9 : (x.f0 == 9) = true := beq_iff_eq.mpr h
  clear h0 h1 h2 h3 h4 h5 h6 h7 h8 h
  go_enter Tryd.func18, Tryd.ntmps18
  go_wp2
  go_ret
  exact ⟨rfl, below_alloc (Below.refl _ _) _⟩
set_option maxHeartbeats 2000000 in
set_option maxRecDepth 100000 in
theorem text_x (w : World) [GW w] (q : Option Addr) (x : S32) (h0 : ¬ x.f0 = 0) (h1 : ¬ x.f0 = 1) (h2 : ¬ x.f0 = 2) (h3 : ¬ x.f0 = 3) (h4 : ¬ x.f0 = 4) (h5 : ¬ x.f0 = 5) (h6 : ¬ x.f0 = 6) (h7 : ¬ x.f0 = 7) (h8 : ¬ x.f0 = 8) (h9 : ¬ x.f0 = 9) :
    Calls Tryd.prog 18 #[.pointer q, .agg #[.int .i64 x.f0, .int .i64 x.f1, .string x.f2]] w fun e w' => e = .returned (.string (⟨#[]⟩ : ByteArray)) ∧ Below w.heap.size w w' := by
  have e0 : (x.f0 == 0) = false := beq_eq_false_iff_ne.mpr h0
  have e1 : (x.f0 == 1) = false := beq_eq_false_iff_ne.mpr h1
  have e2 : (x.f0 == 2) = false := beq_eq_false_iff_ne.mpr h2
  have e3 : (x.f0 == 3) = false := beq_eq_false_iff_ne.mpr h3
  have e4 : (x.f0 == 4) = false := beq_eq_false_iff_ne.mpr h4
  have e5 : (x.f0 == 5) = false := beq_eq_false_iff_ne.mpr h5
  have e6 : (x.f0 == 6) = false := beq_eq_false_iff_ne.mpr h6
  have e7 : (x.f0 == 7) = false := beq_eq_false_iff_ne.mpr h7
  have e8 : (x.f0 == 8) = false := beq_eq_false_iff_ne.mpr h8
  have e9 : (x.f0 == 9) = false := beq_eq_false_iff_ne.mpr h9
  clear h0 h1 h2 h3 h4 h5 h6 h7 h8 h9
  go_enter Tryd.func18, Tryd.ntmps18
  go_wp2
  go_ret
  exact ⟨rfl, below_alloc (Below.refl _ _) _⟩
theorem text_calls (w : World) [GW w] (q : Option Addr) (x : S32) (hl : -9223372036854775808 ≤ x.f1) (hu : x.f1 ≤ 9223372036854775807) :
    Calls Tryd.prog 18 #[.pointer q, .agg #[.int .i64 x.f0, .int .i64 x.f1, .string x.f2]] w fun e w' => e = .returned (.string (textV x)) ∧ Below w.heap.size w w' := by
  unfold textV
  by_cases h0 : x.f0 = 0
  · rw [if_pos h0]; exact text_0 w q x  h0
  rw [if_neg h0]
  by_cases h1 : x.f0 = 1
  · rw [if_pos h1]; exact text_1 w q x h0 h1
  rw [if_neg h1]
  by_cases h2 : x.f0 = 2
  · rw [if_pos h2]; exact text_2 w q x h0 h1 h2
  rw [if_neg h2]
  by_cases h3 : x.f0 = 3
  · rw [if_pos h3]; exact text_3 w q x h0 h1 h2 h3 hl hu
  rw [if_neg h3]
  by_cases h4 : x.f0 = 4
  · rw [if_pos h4]; exact text_4 w q x h0 h1 h2 h3 h4
  rw [if_neg h4]
  by_cases h5 : x.f0 = 5
  · rw [if_pos h5]; exact text_5 w q x h0 h1 h2 h3 h4 h5
  rw [if_neg h5]
  by_cases h6 : x.f0 = 6
  · rw [if_pos h6]; exact text_6 w q x h0 h1 h2 h3 h4 h5 h6
  rw [if_neg h6]
  by_cases h7 : x.f0 = 7
  · rw [if_pos h7]; exact text_7 w q x h0 h1 h2 h3 h4 h5 h6 h7
  rw [if_neg h7]
  by_cases h8 : x.f0 = 8
  · rw [if_pos h8]; exact text_8 w q x h0 h1 h2 h3 h4 h5 h6 h7 h8
  rw [if_neg h8]
  by_cases h9 : x.f0 = 9
  · rw [if_pos h9]; exact text_9 w q x h0 h1 h2 h3 h4 h5 h6 h7 h8 h9
  rw [if_neg h9]
  exact text_x w q x h0 h1 h2 h3 h4 h5 h6 h7 h8 h9
end Go.Proofs.YtjbolkkbehfnmaaDoor.Val
namespace Go.Proofs.YtjbolkkbehfnmaaDoor.Val
open Go.RowKit Go.Proofs.YtjbolkkbehfnmaaDoor.PVal Go.Proofs.YtjbolkkbehfnmaaDoorW.PrintWords Go.Proofs.YtjbolkkbehfnmaaDoorW.PrintLast Go.Proofs.YtjbolkkbehfnmaaDoorW.PrintMore
set_option linter.unusedVariables false
set_option linter.unusedSimpArgs false
theorem eqA32 (d : Nat) (w : World) (x0 y0 : Int) (x1 y1 : Int) (x2 y2 : ByteArray) :
    (Op.equalIn (d + 2) 32 (.agg #[.int .i64 x0, .int .i64 x1, .string x2]) (.agg #[.int .i64 y0, .int .i64 y1, .string y2])).run Tryd.prog w = .ok (x0 == y0 && (x1 == y1 && (x2.toList == y2.toList))) w := by
  refine eqA_of Tryd.underlying32 (by kernel_rfl) ?_
  refine eqf_cons (by rfl) (by go_simp; rfl) (by go_simp; rfl) (by go_simp) ?_
  refine eqf_cons (by rfl) (by go_simp; rfl) (by go_simp; rfl) (by go_simp) ?_
  exact eqf_last (by rfl) (by go_simp; rfl) (by go_simp; rfl) (by go_simp)
/-- B: the caller's heap size at its begin; O: the heap's own blocks, all new since. -/
def Has (B : Nat) (W : World) (O : Nat → Prop) (p : Nat) (D : List Th) : Prop := B ≤ W.heap.size ∧ HP W O p D ∧ ∀ k, O k → B ≤ k ∧ k < W.heap.size
section
variable {B : Nat} {W W' : World} {O : Nat → Prop} {p : Nat} {D : List Th}
theorem Has.below (h : Has B W O p D) (hb : Below W.heap.size W W') : Has B W' O p D := by
  obtain ⟨h0, hp, hO⟩ := h
  have := hb.size
  exact ⟨by omega, hp.keep (Q := No) (Chg.of_below hb) (fun _ _ _ hn => hn), fun k hk => ⟨(hO k hk).1, by have := (hO k hk).2; omega⟩⟩
/-- It stays where others' blocks turn. -/
theorem Has.apart {Q : Nat → Prop} (h : Has B W O p D) (hc : Chg Q W W') (hq : ∀ k, O k → ¬ Q k) : Has B W' O p D := by
  obtain ⟨h0, hp, hO⟩ := h
  have := hc.size
  exact ⟨by omega, hp.keep hc (fun k hk _ => hq k hk), fun k hk => ⟨(hO k hk).1, by have := (hO k hk).2; omega⟩⟩
theorem Has.free (h : Has B W O p D) {k : Nat} (hk : W.heap.size ≤ k) : ¬ O k := fun ho => by have := (h.2.2 k ho).2; omega
theorem Has.old (h : Has B W O p D) {k : Nat} (hk : k < B) : ¬ O k := fun ho => by have := (h.2.2 k ho).1; omega
/-- A call that works on the heap. -/
theorem Has.call (h : Has B W O p D) {P : Program} {f : FuncId} {args : Array Value} {E : Ending} {D' : List Th} (hc : ∀ O, HP W O p D → Calls P f args W fun e w' => e = E ∧ HP w' (Grow O W w') p D' ∧ Chg O W w') :
    Calls P f args W fun e w' => e = E ∧ ∃ O', Has B w' O' p D' ∧ (∀ k, k < W.heap.size → ¬ O k → ¬ O' k) ∧ Chg O W w' := by
  obtain ⟨h0, hp, hO⟩ := h
  refine (hc O hp).mono ?_
  rintro e w' ⟨he, hp', hch⟩
  have hs := hch.size
  refine ⟨he, _, ⟨by omega, hp', fun k hk => ?_⟩, fun k hk hn hg => ?_, hch⟩
  · rcases hk with hk | hk
    · exact ⟨(hO k hk.1).1, by omega⟩
    · exact ⟨by omega, hk.2⟩
  · rcases hg with hg | hg
    · exact hn hg.1
    · omega
theorem Has.own (h : Has B W O p D) (hc : Chg O W W') {w : World} (hb : Below B w W) : Below B w W' := hb.trans (hc.below h.1 (fun k hk => (h.2.2 k hk).1))
/-- A heap that is none yet. -/
theorem Has.new (w W : World) (hb : Below w.heap.size w W) : Has w.heap.size (W.alloc (.cells #[.slice none 0 0] 52)) (fun k => k = W.heap.size) W.heap.size [] :=
  ⟨by have := hb.size; simp; omega, new_heap W, fun k hk => by have := hb.size; subst hk; simp; omega⟩
theorem Has.get (h : Has B W O p D) (x : S32) (n : ByteArray) :
    Calls Tryd.prog 10 #[.pointer (some ⟨p, 0, none⟩), .agg #[.int .i64 x.f0, .int .i64 x.f1, .string x.f2], .string n] W fun e w' => e = .returned (.tuple #[enc (oGet D x n).1, .bool (oGet D x n).2]) ∧ Below W.heap.size W w' := by
  obtain ⟨_, ⟨v, xs, Os, hp⟩, _⟩ := h
  exact get_calls hp x n
theorem Has.at (h : Has B W O p D) (x : S32) (i : Int) :
    Calls Tryd.prog 11 #[.pointer (some ⟨p, 0, none⟩), .agg #[.int .i64 x.f0, .int .i64 x.f1, .string x.f2], .int .i64 i] W fun e w' => e = .returned (.tuple #[enc (aAt D x i).1, .bool (aAt D x i).2]) ∧ Below W.heap.size W w' := by
  obtain ⟨_, ⟨v, xs, Os, hp⟩, _⟩ := h
  exact atx_calls hp x i
theorem Has.len (h : Has B W O p D) (x : S32) :
    Calls Tryd.prog 14 #[.pointer (some ⟨p, 0, none⟩), .agg #[.int .i64 x.f0, .int .i64 x.f1, .string x.f2]] W fun e w' => e = .returned (.int .i64 (aLen D x)) ∧ Below W.heap.size W w' := by
  obtain ⟨_, ⟨v, xs, Os, hp⟩, _⟩ := h
  exact len_calls hp x
theorem Has.set (h : Has B W O p D) (x y : S32) (n : ByteArray) :
    Calls Tryd.prog 15 #[.pointer (some ⟨p, 0, none⟩), .agg #[.int .i64 x.f0, .int .i64 x.f1, .string x.f2], .string n, .agg #[.int .i64 y.f0, .int .i64 y.f1, .string y.f2]] W fun e w' => e = .returned (.bool (oSet D x n y).2) ∧ ∃ O', Has B w' O' p (oSet D x n y).1 ∧ (∀ k, k < W.heap.size → ¬ O k → ¬ O' k) ∧ Chg O W w' :=
  h.call (fun O hp => set_calls hp x y n)
theorem Has.push (h : Has B W O p D) (x y : S32) (hR : Room D 100000000000) :
    Calls Tryd.prog 17 #[.pointer (some ⟨p, 0, none⟩), .agg #[.int .i64 x.f0, .int .i64 x.f1, .string x.f2], .agg #[.int .i64 y.f0, .int .i64 y.f1, .string y.f2]] W fun e w' => e = .returned (.bool (aPush D x y).2) ∧ ∃ O', Has B w' O' p (aPush D x y).1 ∧ (∀ k, k < W.heap.size → ¬ O k → ¬ O' k) ∧ Chg O W w' :=
  h.call (fun O hp => push_calls hp x y hR)
theorem Has.put (h : Has B W O p D) (x y : S32) (i : Int) (hR : Room D 100000000000) :
    Calls Tryd.prog 16 #[.pointer (some ⟨p, 0, none⟩), .agg #[.int .i64 x.f0, .int .i64 x.f1, .string x.f2], .int .i64 i, .agg #[.int .i64 y.f0, .int .i64 y.f1, .string y.f2]] W fun e w' => e = .returned (.bool (aPut D x i y).2) ∧ ∃ O', Has B w' O' p (aPut D x i y).1 ∧ (∀ k, k < W.heap.size → ¬ O k → ¬ O' k) ∧ Chg O W w' :=
  h.call (fun O hp => put_calls hp x y i hR)
theorem Has.arr (h : Has B W O p D) {A : Option Addr} {c : Nat} {l : List S32} (hC : k32.C W A l.length l) (hc : l.length ≤ c) (hmax : l.length < 1000000000000) (hlen : D.length < 1000000000000) :
    Calls Tryd.prog 12 #[.pointer (some ⟨p, 0, none⟩), .slice A l.length c] W fun e w' => e = .returned (enc ⟨5, D.length, ⟨#[]⟩⟩) ∧ ∃ O', Has B w' O' p (D ++ [.arr l]) ∧ (∀ k, k < W.heap.size → ¬ O k → ¬ O' k) ∧ Chg O W w' :=
  h.call (fun O hp => mkarr_calls hp hC hc hmax hlen)
theorem Has.obj (h : Has B W O p D) {A A2 : Option Addr} {c d : Nat} {ns : List ByteArray} {l : List S32} (hN : Kd.string.C W A ns.length ns) (hC : k32.C W A2 l.length l) (hmax : l.length < 1000000000000) (hmax2 : ns.length < 1000000000000) (hlen : D.length < 1000000000000) :
    Calls Tryd.prog 13 #[.pointer (some ⟨p, 0, none⟩), .slice A ns.length c, .slice A2 l.length d] W fun e w' => e = .returned (enc ⟨6, D.length, ⟨#[]⟩⟩) ∧ ∃ O', Has B w' O' p (D ++ [.obj (kvFold ns l)]) ∧ (∀ k, k < W.heap.size → ¬ O k → ¬ O' k) ∧ Chg O W w' :=
  h.call (fun O hp => mkobj_calls hp hN hC hmax hmax2 hlen)
end
/-- A row of values as the walk builds it. -/
def vcells (l : List S32) : List Value := l.flatMap fun x => [.int .i64 x.f0, .int .i64 x.f1, .string x.f2]
theorem row_built (W : World) (l : List S32) (cs : Array Value) (hcs : cs.toList = vcells l) (hm : l.length ≤ 9223372036854775807) : k32.C (W.alloc (.cells cs 32)) (some ⟨W.heap.size, 0, none⟩) l.length l := by
  refine ⟨rfl, hm, fun _ => ⟨⟨W.heap.size, 0, none⟩, rfl, fun j q hj => ⟨[.int .i64 q.f0, .int .i64 q.f1, .string q.f2], rfl, k32_mk _ q, fun i u hu => ?_⟩⟩⟩
  have key : ∀ (l : List S32) (j : Nat), l[j]? = some q → (vcells l)[j * 3 + i]? = some u := by
    intro l
    induction l with
    | nil => intro j h; simp at h
    | cons a r ih =>
      intro j h
      have hi : i < 3 := by
        have := (List.getElem?_eq_some_iff.1 hu).1
        simpa using this
      cases j with
      | zero =>
        injection h with h
        subst h
        have e : vcells (a :: r) = [.int .i64 a.f0, .int .i64 a.f1, .string a.f2] ++ vcells r := by simp [vcells]
        rw [e, List.getElem?_append_left (by simpa using hi)]
        simpa using hu
      | succ j =>
        have e : vcells (a :: r) = [.int .i64 a.f0, .int .i64 a.f1, .string a.f2] ++ vcells r := by simp [vcells]
        rw [e, List.getElem?_append_right (by simp; omega)]
        have := ih j (by simpa using h)
        rw [← this]
        congr 1
        simp
        omega
  have hk := key l j hj
  rw [← hcs] at hk
  have h1 : (W.alloc (.cells cs 32)).cell? ⟨W.heap.size, j * 3 + i, none⟩ = cs[j * 3 + i]? := blk_cell (heap_alloc_new W (.cells cs 32)) _
  rw [add_plain]
  exact h1.trans (by simpa using hk)
theorem names_built (W : World) (l : List ByteArray) (cs : Array Value) (hcs : cs.toList = l.map Value.string) (hm : l.length ≤ 9223372036854775807) : Kd.string.C (W.alloc (.cells cs 9)) (some ⟨W.heap.size, 0, none⟩) l.length l := by
  refine ⟨rfl, hm, fun _ => ⟨⟨W.heap.size, 0, none⟩, rfl, fun j q hj => ⟨[.string q], rfl, rfl, fun i u hu => ?_⟩⟩⟩
  have hi : i = 0 := by
    have := (List.getElem?_eq_some_iff.1 hu).1
    simp at this
    omega
  subst hi
  injection hu with hu
  subst hu
  have h1 : (W.alloc (.cells cs 9)).cell? ⟨W.heap.size, j, none⟩ = cs[j]? := blk_cell (heap_alloc_new W (.cells cs 9)) _
  have hk : cs.toList[j]? = some (.string q) := by rw [hcs, List.getElem?_map, hj]; rfl
  show (W.alloc (.cells cs 9)).cell? ((⟨W.heap.size, 0, none⟩ : Addr).add (j * 1 + 0)) = _
  rw [Nat.mul_one, Nat.add_zero, add_plain]
  exact h1.trans (by simpa using hk)
end Go.Proofs.YtjbolkkbehfnmaaDoor.Val
namespace Go.Proofs.YtjbolkkbehfnmaaDoor.Val
open Go.RowKit Go.Proofs.YtjbolkkbehfnmaaDoor.PVal Go.Proofs.YtjbolkkbehfnmaaDoorW.PrintWords Go.Proofs.YtjbolkkbehfnmaaDoorW.PrintLast Go.Proofs.YtjbolkkbehfnmaaDoorW.PrintMore
set_option linter.unusedVariables false
set_option linter.unusedSimpArgs false
attribute [local go_sem high] eqA32
def num (n : Int) : S32 := ⟨3, n, ⟨#[]⟩⟩
theorem num_calls (n : Int) (w : World) : Calls Tryd.prog 21 #[.int .i64 n] w fun e w' => e = .returned (.agg #[.int .i64 3, .int .i64 n, .string ⟨#[]⟩]) ∧ Below w.heap.size w w' := gussetlaw23_number.calls n 3 n ⟨#[]⟩ w rfl
def rb (D : List Th) : Bool := decide (D.length ≤ 1000) && D.all fun t => match t with | .arr l => decide (l.length ≤ 1000) | .obj kv => decide (kv.length ≤ 1000)
theorem room_b (D : List Th) (h : rb D = true) : Room D 100000000000 := by
  unfold rb at h; unfold Room
  simp only [Bool.and_eq_true, decide_eq_true_eq, List.all_eq_true] at h
  refine ⟨by omega, fun t ht => ?_⟩
  have := h.2 t ht
  cases t <;> simp at this ⊢ <;> omega
theorem text5 (w : World) [GW w] (q : Option Addr) : Calls Tryd.prog 18 #[.pointer q, .agg #[.int .i64 3, .int .i64 (-5), .string ⟨#[]⟩]] w fun e w' => e = .returned (.string ⟨#[45, 53]⟩) ∧ Below w.heap.size w w' := by
  have h := text_calls w q ⟨3, -5, ⟨#[]⟩⟩ (by decide) (by decide)
  rw [show textV ⟨3, -5, ⟨#[]⟩⟩ = ⟨#[45, 53]⟩ by kernel_rfl] at h
  exact h
set_option maxHeartbeats 4000000 in
set_option maxRecDepth 100000 in
theorem awake_calls (w : World) [GW w] : Calls Tryd.prog 7 #[] w fun e w' => e = .returned (.bool true) ∧ Below w.heap.size w w' := by
  go_enter Tryd.func7, Tryd.ntmps7
  go_wp2_with (first
    | (go_at_call 6; refine (new_calls _).mono ?_; rintro e w' ⟨rfl, rfl⟩; have HH := Aside0.mk (Has.new w w (Below.refl _ _)); have HB := Aside0.mk (below_alloc (Below.refl w.heap.size w) (.cells #[.slice none 0 0] 52)))
    | (go_at_call 21; refine (num_calls _ _).mono ?_; rintro e w' ⟨rfl, hb⟩; have n0_ := Aside0.mk (HH.out.below (below_step (by repeat (first | (with_reducible exact Below.refl _ _) | apply below_alloc | apply pw_below_drewN | apply below_drew1)) hb)); have n1_ := Aside0.mk (below_step (by repeat (first | (with_reducible exact HB.out) | apply below_alloc | apply pw_below_drewN | apply below_drew1)) hb); clear HH HB; have HH := n0_; have HB := n1_; clear n0_ n1_; haveI := GW.of HB.out)
    | (go_at_call 12; refine hold_ ?_))
  unfold Held
  refine ((HH.out.below (below_alloc (Below.refl _ _) _)).arr (row_built _ [num 1, num 2] #[.int .i64 3, .int .i64 1, .string ⟨#[]⟩, .int .i64 3, .int .i64 2, .string ⟨#[]⟩] rfl (by decide)) (by decide) (by decide) (by decide)).mono ?_
  rintro e w5 ⟨rfl, O1, hh, hno, hch⟩
  have n0_ := Aside0.mk hh
  have n1_ := Aside0.mk ((HH.out.below (by repeat (first | (with_reducible exact Below.refl _ _) | apply below_alloc | apply pw_below_drewN | apply below_drew1))).own hch (by repeat (first | (with_reducible exact HB.out) | apply below_alloc | apply pw_below_drewN | apply below_drew1)))
  clear HH HB
  have HH := n0_
  have HB := n1_
  clear n0_ n1_
  haveI := GW.of HB.out
  clear hh hno hch
  unfold enc
  go_wp2_with (first
    | (go_at_call 21; refine hold_ ?_))
  unfold Held
  have BX2 := Aside0.mk (blk_alloc (heap_alloc_new w5 (.cells #[.int .i64 5, .int .i64 0, .string ⟨#[]⟩] 32)) (.cells #[.string ⟨#[97]⟩, .string ⟨#[98]⟩, .string ⟨#[97]⟩] 9))
  have G2 := Aside0.mk (HH.out.free (Nat.le_refl _))
  have NM := Aside0.mk (names_built (w5.alloc (.cells #[.int .i64 5, .int .i64 0, .string ⟨#[]⟩] 32)) [⟨#[97]⟩, ⟨#[98]⟩, ⟨#[97]⟩] #[.string ⟨#[97]⟩, .string ⟨#[98]⟩, .string ⟨#[97]⟩] rfl (by decide))
  have hs5 : (w5.alloc (.cells #[.int .i64 5, .int .i64 0, .string ⟨#[]⟩] 32)).heap.size = w5.heap.size + 1 := by simp
  rw [hs5] at NM
  clear hs5
  obtain ⟨b2, hb2⟩ : ∃ b, w5.heap.size = b := ⟨_, rfl⟩
  rw [hb2] at BX2 G2 NM
  refine (num_calls _ _).mono ?_
  rintro e w6 ⟨rfl, hb⟩
  have n0_ := Aside0.mk (HH.out.below (below_step (by repeat (first | (with_reducible exact Below.refl _ _) | apply below_alloc | apply pw_below_drewN | apply below_drew1)) hb))
  have n1_ := Aside0.mk (below_step (by repeat (first | (with_reducible exact HB.out) | apply below_alloc | apply pw_below_drewN | apply below_drew1)) hb)
  have n2_ := Aside0.mk (blk_below (g := b2) (o := (.cells #[.int .i64 5, .int .i64 0, .string ⟨#[]⟩] 32)) (by repeat (first | (with_reducible exact BX2.out) | refine blk_alloc ?_ _ | refine blk_drewN ?_ _ | refine blk_drew ?_)) hb)
  have n3_ := Aside0.mk (Kd.C_below (by repeat (first | (with_reducible exact NM.out) | refine Kd.C_alloc ?_ _ | refine Kd.C_drewN ?_ _ | refine Kd.C_drew ?_)) hb)
  clear HH HB BX2 NM
  have HH := n0_
  have HB := n1_
  have BX2 := n2_
  have NM := n3_
  clear n0_ n1_ n2_ n3_
  haveI := GW.of HB.out
  clear hb
  rw [hb2]
  clear hb2
  go_wp2_with (first
    | (go_at_call 21; refine (num_calls _ _).mono ?_; rintro e w' ⟨rfl, hb⟩; have n0_ := Aside0.mk (HH.out.below (below_step (by repeat (first | (with_reducible exact Below.refl _ _) | apply below_alloc | apply pw_below_drewN | apply below_drew1)) hb)); have n1_ := Aside0.mk (below_step (by repeat (first | (with_reducible exact HB.out) | apply below_alloc | apply pw_below_drewN | apply below_drew1)) hb); have n2_ := Aside0.mk (blk_below (g := b2) (o := (.cells #[.int .i64 5, .int .i64 0, .string ⟨#[]⟩] 32)) (by repeat (first | (with_reducible exact BX2.out) | refine blk_alloc ?_ _ | refine blk_drewN ?_ _ | refine blk_drew ?_)) hb); have n3_ := Aside0.mk (Kd.C_below (by repeat (first | (with_reducible exact NM.out) | refine Kd.C_alloc ?_ _ | refine Kd.C_drewN ?_ _ | refine Kd.C_drew ?_)) hb); clear HH HB BX2 NM; have HH := n0_; have HB := n1_; have BX2 := n2_; have NM := n3_; clear n0_ n1_ n2_ n3_; haveI := GW.of HB.out)
    | (go_at_call 13; refine hold_ ?_))
  unfold Held
  refine ((HH.out.below (below_alloc (Below.refl _ _) _)).obj (Kd.C_alloc NM.out _) (row_built _ [num 1, num 2, num 3] #[.int .i64 3, .int .i64 1, .string ⟨#[]⟩, .int .i64 3, .int .i64 2, .string ⟨#[]⟩, .int .i64 3, .int .i64 3, .string ⟨#[]⟩] rfl (by decide)) (by decide) (by decide) (by decide)).mono ?_
  rintro e w7 ⟨rfl, O2, hh, hno, hch⟩
  have hlt2 := (Array.getElem?_eq_some_iff.1 BX2.out).1
  have hs7 := hch.size
  simp at hs7
  have n5_ := Aside0.mk (hno _ (by simp; omega) G2.out)
  have n0_ := Aside0.mk hh
  have n1_ := Aside0.mk ((HH.out.below (by repeat (first | (with_reducible exact Below.refl _ _) | apply below_alloc | apply pw_below_drewN | apply below_drew1))).own hch (by repeat (first | (with_reducible exact HB.out) | apply below_alloc | apply pw_below_drewN | apply below_drew1)))
  have n2_ := Aside0.mk (hch.blk (k := b2) (o := (.cells #[.int .i64 5, .int .i64 0, .string ⟨#[]⟩] 32)) (by repeat (first | (with_reducible exact BX2.out) | refine blk_alloc ?_ _ | refine blk_drewN ?_ _ | refine blk_drew ?_)) G2.out)
  clear HH HB BX2
  have HH := n0_
  have HB := n1_
  have BX2 := n2_
  clear n0_ n1_ n2_
  haveI := GW.of HB.out
  clear hh hno hch G2 NM hlt2 hs7
  have G2 := n5_
  clear n5_
  unfold enc
  go_wp2_with (first
    | (go_at_call 10; refine hold_ ?_))
  unfold Held
  have hg : oGet ([] ++ [.arr [num 1, num 2]] ++ [.obj (kvFold [⟨#[97]⟩, ⟨#[98]⟩, ⟨#[97]⟩] [num 1, num 2, num 3])]) ⟨6, 1, ⟨#[]⟩⟩ ⟨#[97]⟩ = (num 3, true) := by kernel_rfl
  have HG := Aside0.mk ((HH.out.below (below_alloc (Below.refl _ _) (.cells #[.int .i64 6, .int .i64 1, .string ⟨#[]⟩] 32))).get ⟨6, 1, ⟨#[]⟩⟩ ⟨#[97]⟩)
  rw [hg] at HG
  clear hg
  have BX3 := Aside0.mk (heap_alloc_new w7 (.cells #[.int .i64 6, .int .i64 1, .string ⟨#[]⟩] 32))
  have G3 := Aside0.mk (HH.out.free (Nat.le_refl _))
  obtain ⟨b3, hb3⟩ : ∃ b, w7.heap.size = b := ⟨_, rfl⟩
  rw [hb3] at BX3 G3
  refine HG.out.mono ?_
  clear HG
  rintro e w8 ⟨rfl, hb⟩
  have n0_ := Aside0.mk (HH.out.below (below_step (by repeat (first | (with_reducible exact Below.refl _ _) | apply below_alloc | apply pw_below_drewN | apply below_drew1)) hb))
  have n1_ := Aside0.mk (below_step (by repeat (first | (with_reducible exact HB.out) | apply below_alloc | apply pw_below_drewN | apply below_drew1)) hb)
  have n2_ := Aside0.mk (blk_below (g := b2) (o := (.cells #[.int .i64 5, .int .i64 0, .string ⟨#[]⟩] 32)) (by repeat (first | (with_reducible exact BX2.out) | refine blk_alloc ?_ _ | refine blk_drewN ?_ _ | refine blk_drew ?_)) hb)
  have n3_ := Aside0.mk (blk_below (g := b3) (o := (.cells #[.int .i64 6, .int .i64 1, .string ⟨#[]⟩] 32)) (by repeat (first | (with_reducible exact BX3.out) | refine blk_alloc ?_ _ | refine blk_drewN ?_ _ | refine blk_drew ?_)) hb)
  clear HH HB BX2 BX3
  have HH := n0_
  have HB := n1_
  have BX2 := n2_
  have BX3 := n3_
  clear n0_ n1_ n2_ n3_
  haveI := GW.of HB.out
  clear hb
  have BX4 := Aside0.mk (heap_alloc_new w8 (.cells #[.int .i64 3, .int .i64 3, .string ⟨#[]⟩] 32))
  have G4 := Aside0.mk (HH.out.free (Nat.le_refl _))
  have n0_ := Aside0.mk (HH.out.below (below_alloc (Below.refl _ _) (.cells #[.int .i64 3, .int .i64 3, .string ⟨#[]⟩] 32)))
  have n1_ := Aside0.mk (below_alloc HB.out (.cells #[.int .i64 3, .int .i64 3, .string ⟨#[]⟩] 32))
  have n2_ := Aside0.mk (blk_alloc BX2.out (.cells #[.int .i64 3, .int .i64 3, .string ⟨#[]⟩] 32))
  have n3_ := Aside0.mk (blk_alloc BX3.out (.cells #[.int .i64 3, .int .i64 3, .string ⟨#[]⟩] 32))
  clear HH HB BX2 BX3
  have HH := n0_
  have HB := n1_
  have BX2 := n2_
  have BX3 := n3_
  clear n0_ n1_ n2_ n3_
  haveI := GW.of HB.out
  unfold enc num
  go_wp2
  try rw [hb3]
  clear hb3
  generalize w8.heap.size = b4 at BX4 G4 ⊢
  generalize w8.alloc (.cells #[.int .i64 3, .int .i64 3, .string ⟨#[]⟩] 32) = w9 at HH HB BX2 BX3 BX4 G4 ⊢
  refine start_ (n := 56) (S := fun w' => w'.cell? ⟨b2, 0, none⟩ = some (.int .i64 5) ∧ w'.cell? ⟨b2, 1, none⟩ = some (.int .i64 0) ∧ w'.cell? ⟨b2, 2, none⟩ = some (.string ⟨#[]⟩) ∧ w'.cell? ⟨b3, 0, none⟩ = some (.int .i64 6) ∧ w'.cell? ⟨b3, 1, none⟩ = some (.int .i64 1) ∧ w'.cell? ⟨b3, 2, none⟩ = some (.string ⟨#[]⟩) ∧ w'.cell? ⟨b4, 0, none⟩ = some (.int .i64 3) ∧ w'.cell? ⟨b4, 1, none⟩ = some (.int .i64 3) ∧ w'.cell? ⟨b4, 2, none⟩ = some (.string ⟨#[]⟩)) (ds := []) #[false, false, false, false, false, false, false, false, false, false, false, false, false, false, false, false, false, false, false, false, false, false, false, false, false, false, false, false, false, false, false, false, false, false, false, false, false, false, false, false, false, false, false, false, false, false, false, false, false, false, false, false, false, false, false, false] (by kernel_rfl) rfl rfl ⟨(blk_cell BX2.out 0).trans rfl, (blk_cell BX2.out 1).trans rfl, (blk_cell BX2.out 2).trans rfl, (blk_cell BX3.out 0).trans rfl, (blk_cell BX3.out 1).trans rfl, (blk_cell BX3.out 2).trans rfl, (blk_cell BX4.out 0).trans rfl, (blk_cell BX4.out 1).trans rfl, (blk_cell BX4.out 2).trans rfl⟩ (fun hHeld => ?_)
  refine pure_ (i := 1) (N := some 28) (v := ?_) (a' := ?_) #[false, true, false, false, false, false, false, false, false, false, false, false, false, false, false, false, false, false, false, false, false, false, false, false, false, false, false, false, false, false, false, false, false, false, false, false, false, false, false, false, false, false, false, false, false, false, false, false, false, false, false, false, false, false, false, false] rfl rfl (by kernel_rfl) (fun _ _ _ h => h) (Or.inl ⟨by rfl, ?_⟩) ?_ ?_
  rotate_left
  · intro w'
    go_simp
    with_reducible rfl
  rotate_left
  · simp only [Act.put, List.setIfInBounds_toArray, List.set_cons_zero, List.set_cons_succ, i64_w, i32_w]
    rfl
  refine take_ (i := 0) (N := some 27) (v := ?_) (a' := ?_) #[true, true, false, false, false, false, false, false, false, false, false, false, false, false, false, false, false, false, false, false, false, false, false, false, false, false, false, false, false, false, false, false, false, false, false, false, false, false, false, false, false, false, false, false, false, false, false, false, false, false, false, false, false, false, false, false] rfl rfl (by kernel_rfl) (fun _ _ _ h => h) (Or.inl ⟨by rfl, ?_⟩) hHeld ?_ ?_
  rotate_left
  · rintro w' ⟨s0, s1, s2, s3, s4, s5, s6, s7, s8⟩
    go_simp
    with_reducible rfl
  rotate_left
  · simp only [Act.put, List.setIfInBounds_toArray, List.set_cons_zero, List.set_cons_succ, i64_w, i32_w]
    rfl
  refine pure_ (i := 2) (N := some 29) (v := ?_) (a' := ?_) #[true, true, true, false, false, false, false, false, false, false, false, false, false, false, false, false, false, false, false, false, false, false, false, false, false, false, false, false, false, false, false, false, false, false, false, false, false, false, false, false, false, false, false, false, false, false, false, false, false, false, false, false, false, false, false, false] rfl rfl (by kernel_rfl) (fun _ _ _ h => h) (Or.inl ⟨by rfl, ?_⟩) ?_ ?_
  rotate_left
  · intro w'
    go_simp
    with_reducible rfl
  rotate_left
  · simp only [Act.put, List.setIfInBounds_toArray, List.set_cons_zero, List.set_cons_succ, i64_w, i32_w]
    rfl
  refine pure_ (i := 3) (N := some 30) (v := ?_) (a' := ?_) #[true, true, true, true, false, false, false, false, false, false, false, false, false, false, false, false, false, false, false, false, false, false, false, false, false, false, false, false, false, false, false, false, false, false, false, false, false, false, false, false, false, false, false, false, false, false, false, false, false, false, false, false, false, false, false, false] rfl rfl (by kernel_rfl) (fun _ _ _ h => h) (Or.inl ⟨by rfl, ?_⟩) ?_ ?_
  rotate_left
  · intro w'
    go_simp
    with_reducible rfl
  rotate_left
  · simp only [Act.put, List.setIfInBounds_toArray, List.set_cons_zero, List.set_cons_succ, i64_w, i32_w]
    rfl
  refine pure_ (i := 4) (N := some 31) (v := ?_) (a' := ?_) #[true, true, true, true, true, false, false, false, false, false, false, false, false, false, false, false, false, false, false, false, false, false, false, false, false, false, false, false, false, false, false, false, false, false, false, false, false, false, false, false, false, false, false, false, false, false, false, false, false, false, false, false, false, false, false, false] rfl rfl (by kernel_rfl) (fun _ _ _ h => h) (Or.inl ⟨by rfl, ?_⟩) ?_ ?_
  rotate_left
  · intro w'
    go_simp
    with_reducible rfl
  rotate_left
  · simp only [Act.put, List.setIfInBounds_toArray, List.set_cons_zero, List.set_cons_succ, i64_w, i32_w]
    rfl
  refine take_ (i := 5) (N := some 32) (v := ?_) (a' := ?_) #[true, true, true, true, true, true, false, false, false, false, false, false, false, false, false, false, false, false, false, false, false, false, false, false, false, false, false, false, false, false, false, false, false, false, false, false, false, false, false, false, false, false, false, false, false, false, false, false, false, false, false, false, false, false, false, false] rfl rfl (by kernel_rfl) (fun _ _ _ h => h) (Or.inl ⟨by rfl, ?_⟩) hHeld ?_ ?_
  rotate_left
  · rintro w' ⟨s0, s1, s2, s3, s4, s5, s6, s7, s8⟩
    go_simp
    with_reducible rfl
  rotate_left
  · simp only [Act.put, List.setIfInBounds_toArray, List.set_cons_zero, List.set_cons_succ, i64_w, i32_w]
    rfl
  refine pure_ (i := 6) (N := some 33) (v := ?_) (a' := ?_) #[true, true, true, true, true, true, true, false, false, false, false, false, false, false, false, false, false, false, false, false, false, false, false, false, false, false, false, false, false, false, false, false, false, false, false, false, false, false, false, false, false, false, false, false, false, false, false, false, false, false, false, false, false, false, false, false] rfl rfl (by kernel_rfl) (fun _ _ _ h => h) (Or.inl ⟨by rfl, ?_⟩) ?_ ?_
  rotate_left
  · intro w'
    go_simp
    with_reducible rfl
  rotate_left
  · simp only [Act.put, List.setIfInBounds_toArray, List.set_cons_zero, List.set_cons_succ, i64_w, i32_w]
    rfl
  refine pure_ (i := 7) (N := some 34) (v := ?_) (a' := ?_) #[true, true, true, true, true, true, true, true, false, false, false, false, false, false, false, false, false, false, false, false, false, false, false, false, false, false, false, false, false, false, false, false, false, false, false, false, false, false, false, false, false, false, false, false, false, false, false, false, false, false, false, false, false, false, false, false] rfl rfl (by kernel_rfl) (fun _ _ _ h => h) (Or.inl ⟨by rfl, ?_⟩) ?_ ?_
  rotate_left
  · intro w'
    go_simp
    with_reducible rfl
  rotate_left
  · simp only [Act.put, List.setIfInBounds_toArray, List.set_cons_zero, List.set_cons_succ, i64_w, i32_w]
    rfl
  refine pure_ (i := 8) (N := some 35) (v := ?_) (a' := ?_) #[true, true, true, true, true, true, true, true, true, false, false, false, false, false, false, false, false, false, false, false, false, false, false, false, false, false, false, false, false, false, false, false, false, false, false, false, false, false, false, false, false, false, false, false, false, false, false, false, false, false, false, false, false, false, false, false] rfl rfl (by kernel_rfl) (fun _ _ _ h => h) (Or.inl ⟨by rfl, ?_⟩) ?_ ?_
  rotate_left
  · intro w'
    go_simp
    with_reducible rfl
  rotate_left
  · simp only [Act.put, List.setIfInBounds_toArray, List.set_cons_zero, List.set_cons_succ, i64_w, i32_w]
    rfl
  refine pure_ (i := 9) (N := some 36) (v := ?_) (a' := ?_) #[true, true, true, true, true, true, true, true, true, true, false, false, false, false, false, false, false, false, false, false, false, false, false, false, false, false, false, false, false, false, false, false, false, false, false, false, false, false, false, false, false, false, false, false, false, false, false, false, false, false, false, false, false, false, false, false] rfl rfl (by kernel_rfl) (fun _ _ _ h => h) (Or.inl ⟨by rfl, ?_⟩) ?_ ?_
  rotate_left
  · intro w'
    go_simp
    with_reducible rfl
  rotate_left
  · simp only [Act.put, List.setIfInBounds_toArray, List.set_cons_zero, List.set_cons_succ, i64_w, i32_w]
    rfl
  refine take_ (i := 10) (N := some 37) (v := ?_) (a' := ?_) #[true, true, true, true, true, true, true, true, true, true, true, false, false, false, false, false, false, false, false, false, false, false, false, false, false, false, false, false, false, false, false, false, false, false, false, false, false, false, false, false, false, false, false, false, false, false, false, false, false, false, false, false, false, false, false, false] rfl rfl (by kernel_rfl) (fun _ _ _ h => h) (Or.inl ⟨by rfl, ?_⟩) hHeld ?_ ?_
  rotate_left
  · rintro w' ⟨s0, s1, s2, s3, s4, s5, s6, s7, s8⟩
    go_simp
    with_reducible rfl
  rotate_left
  · simp only [Act.put, List.setIfInBounds_toArray, List.set_cons_zero, List.set_cons_succ, i64_w, i32_w]
    rfl
  refine pure_ (i := 11) (N := some 38) (v := ?_) (a' := ?_) #[true, true, true, true, true, true, true, true, true, true, true, true, false, false, false, false, false, false, false, false, false, false, false, false, false, false, false, false, false, false, false, false, false, false, false, false, false, false, false, false, false, false, false, false, false, false, false, false, false, false, false, false, false, false, false, false] rfl rfl (by kernel_rfl) (fun _ _ _ h => h) (Or.inl ⟨by rfl, ?_⟩) ?_ ?_
  rotate_left
  · intro w'
    go_simp
    with_reducible rfl
  rotate_left
  · simp only [Act.put, List.setIfInBounds_toArray, List.set_cons_zero, List.set_cons_succ, i64_w, i32_w]
    rfl
  refine pure_ (i := 12) (N := some 39) (v := ?_) (a' := ?_) #[true, true, true, true, true, true, true, true, true, true, true, true, true, false, false, false, false, false, false, false, false, false, false, false, false, false, false, false, false, false, false, false, false, false, false, false, false, false, false, false, false, false, false, false, false, false, false, false, false, false, false, false, false, false, false, false] rfl rfl (by kernel_rfl) (fun _ _ _ h => h) (Or.inl ⟨by rfl, ?_⟩) ?_ ?_
  rotate_left
  · intro w'
    go_simp
    with_reducible rfl
  rotate_left
  · simp only [Act.put, List.setIfInBounds_toArray, List.set_cons_zero, List.set_cons_succ, i64_w, i32_w]
    rfl
  refine pure_ (i := 13) (N := some 40) (v := ?_) (a' := ?_) #[true, true, true, true, true, true, true, true, true, true, true, true, true, true, false, false, false, false, false, false, false, false, false, false, false, false, false, false, false, false, false, false, false, false, false, false, false, false, false, false, false, false, false, false, false, false, false, false, false, false, false, false, false, false, false, false] rfl rfl (by kernel_rfl) (fun _ _ _ h => h) (Or.inl ⟨by rfl, ?_⟩) ?_ ?_
  rotate_left
  · intro w'
    go_simp
    with_reducible rfl
  rotate_left
  · simp only [Act.put, List.setIfInBounds_toArray, List.set_cons_zero, List.set_cons_succ, i64_w, i32_w]
    rfl
  refine take_ (i := 14) (N := some 41) (v := ?_) (a' := ?_) #[true, true, true, true, true, true, true, true, true, true, true, true, true, true, true, false, false, false, false, false, false, false, false, false, false, false, false, false, false, false, false, false, false, false, false, false, false, false, false, false, false, false, false, false, false, false, false, false, false, false, false, false, false, false, false, false] rfl rfl (by kernel_rfl) (fun _ _ _ h => h) (Or.inl ⟨by rfl, ?_⟩) hHeld ?_ ?_
  rotate_left
  · rintro w' ⟨s0, s1, s2, s3, s4, s5, s6, s7, s8⟩
    go_simp
    with_reducible rfl
  rotate_left
  · simp only [Act.put, List.setIfInBounds_toArray, List.set_cons_zero, List.set_cons_succ, i64_w, i32_w]
    rfl
  refine one_ (i := 15) (N := some 42) #[true, true, true, true, true, true, true, true, true, true, true, true, true, true, true, true, false, false, false, false, false, false, false, false, false, false, false, false, false, false, false, false, false, false, false, false, false, false, false, false, false, false, false, false, false, false, false, false, false, false, false, false, false, false, false, false] rfl rfl (by kernel_rfl) (by decide) (fun K hK => ?_)
  refine goes_ Tryd.func21 (by kernel_rfl) rfl #[.int .i64 3] (by rfl) rfl rfl (by (try simp only [List.map_toArray, List.map_cons, List.map_nil]); first | done | rfl) ?_
  refine (num_calls 3 _).mono ?_
  rintro e w' ⟨rfl, hb⟩
  refine ⟨_, rfl, ?_⟩
  have n0_ := Aside0.mk (HH.out.below (below_step (by repeat (first | (with_reducible exact Below.refl _ _) | apply below_alloc | apply pw_below_drewN | apply below_drew1)) hb))
  have n1_ := Aside0.mk (below_step (by repeat (first | (with_reducible exact HB.out) | apply below_alloc | apply pw_below_drewN | apply below_drew1)) hb)
  have n2_ := Aside0.mk (blk_below (g := b2) (o := (.cells #[.int .i64 5, .int .i64 0, .string ⟨#[]⟩] 32)) (by repeat (first | (with_reducible exact BX2.out) | refine blk_alloc ?_ _ | refine blk_drewN ?_ _ | refine blk_drew ?_)) hb)
  have n3_ := Aside0.mk (blk_below (g := b3) (o := (.cells #[.int .i64 6, .int .i64 1, .string ⟨#[]⟩] 32)) (by repeat (first | (with_reducible exact BX3.out) | refine blk_alloc ?_ _ | refine blk_drewN ?_ _ | refine blk_drew ?_)) hb)
  have n4_ := Aside0.mk (blk_below (g := b4) (o := (.cells #[.int .i64 3, .int .i64 3, .string ⟨#[]⟩] 32)) (by repeat (first | (with_reducible exact BX4.out) | refine blk_alloc ?_ _ | refine blk_drewN ?_ _ | refine blk_drew ?_)) hb)
  clear HH HB BX2 BX3 BX4
  have HH := n0_
  have HB := n1_
  have BX2 := n2_
  have BX3 := n3_
  have BX4 := n4_
  clear n0_ n1_ n2_ n3_ n4_
  haveI := GW.of HB.out
  clear hb
  refine hK.out _ _ ⟨(blk_cell BX2.out 0).trans rfl, (blk_cell BX2.out 1).trans rfl, (blk_cell BX2.out 2).trans rfl, (blk_cell BX3.out 0).trans rfl, (blk_cell BX3.out 1).trans rfl, (blk_cell BX3.out 2).trans rfl, (blk_cell BX4.out 0).trans rfl, (blk_cell BX4.out 1).trans rfl, (blk_cell BX4.out 2).trans rfl⟩ (fun hHeld => ?_)
  clear hK K
  refine norm_ (a' := ?_) ?_ ?_
  rotate_left
  · show Act.put _ (some 42) _ = _
    simp only [Act.put, List.setIfInBounds_toArray, List.set_cons_zero, List.set_cons_succ, i64_w, i32_w]
    rfl
  refine pure_ (i := 16) (N := some 43) (v := ?_) (a' := ?_) #[true, true, true, true, true, true, true, true, true, true, true, true, true, true, true, true, true, false, false, false, false, false, false, false, false, false, false, false, false, false, false, false, false, false, false, false, false, false, false, false, false, false, false, false, false, false, false, false, false, false, false, false, false, false, false, false] rfl rfl (by kernel_rfl) (fun _ _ _ h => h) (Or.inl ⟨by rfl, ?_⟩) ?_ ?_
  rotate_left
  · intro w'
    go_simp
    with_reducible rfl
  rotate_left
  · simp only [Act.put, List.setIfInBounds_toArray, List.set_cons_zero, List.set_cons_succ, i64_w, i32_w]
    rfl
  refine pure_ (i := 17) (N := some 44) (v := ?_) (a' := ?_) #[true, true, true, true, true, true, true, true, true, true, true, true, true, true, true, true, true, true, false, false, false, false, false, false, false, false, false, false, false, false, false, false, false, false, false, false, false, false, false, false, false, false, false, false, false, false, false, false, false, false, false, false, false, false, false, false] rfl rfl (by kernel_rfl) (fun _ _ _ h => h) (Or.inl ⟨by rfl, ?_⟩) ?_ ?_
  rotate_left
  · intro w'
    go_simp
    with_reducible rfl
  rotate_left
  · simp only [Act.put, List.setIfInBounds_toArray, List.set_cons_zero, List.set_cons_succ, i64_w, i32_w]
    rfl
  refine pure_ (i := 18) (N := some 45) (v := ?_) (a' := ?_) #[true, true, true, true, true, true, true, true, true, true, true, true, true, true, true, true, true, true, true, false, false, false, false, false, false, false, false, false, false, false, false, false, false, false, false, false, false, false, false, false, false, false, false, false, false, false, false, false, false, false, false, false, false, false, false, false] rfl rfl (by kernel_rfl) (fun _ _ _ h => h) (Or.inl ⟨by rfl, ?_⟩) ?_ ?_
  rotate_left
  · intro w'
    go_simp
    with_reducible rfl
  rotate_left
  · simp only [Act.put, List.setIfInBounds_toArray, List.set_cons_zero, List.set_cons_succ, i64_w, i32_w]
    rfl
  refine pure_ (i := 19) (N := some 46) (v := ?_) (a' := ?_) #[true, true, true, true, true, true, true, true, true, true, true, true, true, true, true, true, true, true, true, true, false, false, false, false, false, false, false, false, false, false, false, false, false, false, false, false, false, false, false, false, false, false, false, false, false, false, false, false, false, false, false, false, false, false, false, false] rfl rfl (by kernel_rfl) (fun _ _ _ h => h) (Or.inl ⟨by rfl, ?_⟩) ?_ ?_
  rotate_left
  · intro w'
    go_simp
    with_reducible rfl
  rotate_left
  · simp only [Act.put, List.setIfInBounds_toArray, List.set_cons_zero, List.set_cons_succ, i64_w, i32_w]
    rfl
  refine pure_ (i := 20) (N := some 47) (v := ?_) (a' := ?_) #[true, true, true, true, true, true, true, true, true, true, true, true, true, true, true, true, true, true, true, true, true, false, false, false, false, false, false, false, false, false, false, false, false, false, false, false, false, false, false, false, false, false, false, false, false, false, false, false, false, false, false, false, false, false, false, false] rfl rfl (by kernel_rfl) (fun _ _ _ h => h) (Or.inl ⟨by rfl, ?_⟩) ?_ ?_
  rotate_left
  · intro w'
    go_simp
    with_reducible rfl
  rotate_left
  · simp only [Act.put, List.setIfInBounds_toArray, List.set_cons_zero, List.set_cons_succ, i64_w, i32_w]
    rfl
  refine pure_ (i := 21) (N := some 48) (v := ?_) (a' := ?_) #[true, true, true, true, true, true, true, true, true, true, true, true, true, true, true, true, true, true, true, true, true, true, false, false, false, false, false, false, false, false, false, false, false, false, false, false, false, false, false, false, false, false, false, false, false, false, false, false, false, false, false, false, false, false, false, false] rfl rfl (by kernel_rfl) (fun _ _ _ h => h) (Or.inl ⟨by rfl, ?_⟩) ?_ ?_
  rotate_left
  · intro w'
    go_simp
    with_reducible rfl
  rotate_left
  · simp only [Act.put, List.setIfInBounds_toArray, List.set_cons_zero, List.set_cons_succ, i64_w, i32_w]
    rfl
  refine pure_ (i := 22) (N := some 49) (v := ?_) (a' := ?_) #[true, true, true, true, true, true, true, true, true, true, true, true, true, true, true, true, true, true, true, true, true, true, true, false, false, false, false, false, false, false, false, false, false, false, false, false, false, false, false, false, false, false, false, false, false, false, false, false, false, false, false, false, false, false, false, false] rfl rfl (by kernel_rfl) (fun _ _ _ h => h) (Or.inl ⟨by rfl, ?_⟩) ?_ ?_
  rotate_left
  · intro w'
    go_simp
    with_reducible rfl
  rotate_left
  · simp only [Act.put, List.setIfInBounds_toArray, List.set_cons_zero, List.set_cons_succ, i64_w, i32_w]
    rfl
  refine take_ (i := 23) (N := some 50) (v := ?_) (a' := ?_) #[true, true, true, true, true, true, true, true, true, true, true, true, true, true, true, true, true, true, true, true, true, true, true, true, false, false, false, false, false, false, false, false, false, false, false, false, false, false, false, false, false, false, false, false, false, false, false, false, false, false, false, false, false, false, false, false] rfl rfl (by kernel_rfl) (fun _ _ _ h => h) (Or.inl ⟨by rfl, ?_⟩) hHeld ?_ ?_
  rotate_left
  · rintro w' ⟨s0, s1, s2, s3, s4, s5, s6, s7, s8⟩
    go_simp
    with_reducible rfl
  rotate_left
  · simp only [Act.put, List.setIfInBounds_toArray, List.set_cons_zero, List.set_cons_succ, i64_w, i32_w]
    rfl
  refine one_ (i := 24) (N := some 51) #[true, true, true, true, true, true, true, true, true, true, true, true, true, true, true, true, true, true, true, true, true, true, true, true, true, false, false, false, false, false, false, false, false, false, false, false, false, false, false, false, false, false, false, false, false, false, false, false, false, false, false, false, false, false, false, false] rfl rfl (by kernel_rfl) (by decide) (fun K hK => ?_)
  refine goes_ Tryd.func21 (by kernel_rfl) rfl #[.int .i64 5] (by rfl) rfl rfl (by (try simp only [List.map_toArray, List.map_cons, List.map_nil]); first | done | rfl) ?_
  refine (num_calls 5 _).mono ?_
  rintro e w' ⟨rfl, hb⟩
  refine ⟨_, rfl, ?_⟩
  have n0_ := Aside0.mk (HH.out.below (below_step (by repeat (first | (with_reducible exact Below.refl _ _) | apply below_alloc | apply pw_below_drewN | apply below_drew1)) hb))
  have n1_ := Aside0.mk (below_step (by repeat (first | (with_reducible exact HB.out) | apply below_alloc | apply pw_below_drewN | apply below_drew1)) hb)
  have n2_ := Aside0.mk (blk_below (g := b2) (o := (.cells #[.int .i64 5, .int .i64 0, .string ⟨#[]⟩] 32)) (by repeat (first | (with_reducible exact BX2.out) | refine blk_alloc ?_ _ | refine blk_drewN ?_ _ | refine blk_drew ?_)) hb)
  have n3_ := Aside0.mk (blk_below (g := b3) (o := (.cells #[.int .i64 6, .int .i64 1, .string ⟨#[]⟩] 32)) (by repeat (first | (with_reducible exact BX3.out) | refine blk_alloc ?_ _ | refine blk_drewN ?_ _ | refine blk_drew ?_)) hb)
  have n4_ := Aside0.mk (blk_below (g := b4) (o := (.cells #[.int .i64 3, .int .i64 3, .string ⟨#[]⟩] 32)) (by repeat (first | (with_reducible exact BX4.out) | refine blk_alloc ?_ _ | refine blk_drewN ?_ _ | refine blk_drew ?_)) hb)
  clear HH HB BX2 BX3 BX4
  have HH := n0_
  have HB := n1_
  have BX2 := n2_
  have BX3 := n3_
  have BX4 := n4_
  clear n0_ n1_ n2_ n3_ n4_
  haveI := GW.of HB.out
  clear hb
  refine hK.out _ _ ⟨(blk_cell BX2.out 0).trans rfl, (blk_cell BX2.out 1).trans rfl, (blk_cell BX2.out 2).trans rfl, (blk_cell BX3.out 0).trans rfl, (blk_cell BX3.out 1).trans rfl, (blk_cell BX3.out 2).trans rfl, (blk_cell BX4.out 0).trans rfl, (blk_cell BX4.out 1).trans rfl, (blk_cell BX4.out 2).trans rfl⟩ (fun hHeld => ?_)
  clear hK K
  refine norm_ (a' := ?_) ?_ ?_
  rotate_left
  · show Act.put _ (some 51) _ = _
    simp only [Act.put, List.setIfInBounds_toArray, List.set_cons_zero, List.set_cons_succ, i64_w, i32_w]
    rfl
  refine one_ (i := 25) (N := some 52) #[true, true, true, true, true, true, true, true, true, true, true, true, true, true, true, true, true, true, true, true, true, true, true, true, true, true, false, false, false, false, false, false, false, false, false, false, false, false, false, false, false, false, false, false, false, false, false, false, false, false, false, false, false, false, false, false] rfl rfl (by kernel_rfl) (by decide) (fun K hK => ?_)
  refine goes_ Tryd.func16 (by kernel_rfl) rfl #[.pointer (some ⟨w.heap.size, 0, none⟩), .agg #[.int .i64 5, .int .i64 0, .string ⟨#[]⟩], .int .i64 2, .agg #[.int .i64 3, .int .i64 5, .string ⟨#[]⟩]] (by rfl) rfl rfl (by (try simp only [List.map_toArray, List.map_cons, List.map_nil]); first | done | rfl) ?_
  refine (HH.out.put ⟨5, 0, ⟨#[]⟩⟩ ⟨3, 5, ⟨#[]⟩⟩ 2 (room_b _ (by kernel_rfl))).mono ?_
  rintro e w' ⟨rfl, O', hh, hno, hch⟩
  rw [show aPut ([] ++ [Th.arr [num 1, num 2]] ++ [Th.obj (kvFold [⟨#[97]⟩, ⟨#[98]⟩, ⟨#[97]⟩] [num 1, num 2, num 3])]) ⟨5, 0, ⟨#[]⟩⟩ 2 ⟨3, 5, ⟨#[]⟩⟩ = ([Th.arr [num 1, num 2, num 5], Th.obj (kvFold [⟨#[97]⟩, ⟨#[98]⟩, ⟨#[97]⟩] [num 1, num 2, num 3])], true) by kernel_rfl] at hh
  rw [show aPut ([] ++ [Th.arr [num 1, num 2]] ++ [Th.obj (kvFold [⟨#[97]⟩, ⟨#[98]⟩, ⟨#[97]⟩] [num 1, num 2, num 3])]) ⟨5, 0, ⟨#[]⟩⟩ 2 ⟨3, 5, ⟨#[]⟩⟩ = ([Th.arr [num 1, num 2, num 5], Th.obj (kvFold [⟨#[97]⟩, ⟨#[98]⟩, ⟨#[97]⟩] [num 1, num 2, num 3])], true) by kernel_rfl]
  refine ⟨_, rfl, ?_⟩
  have g2_ := Aside0.mk (hno _ (blk_lt BX2.out) G2.out)
  have g3_ := Aside0.mk (hno _ (blk_lt BX3.out) G3.out)
  have g4_ := Aside0.mk (hno _ (blk_lt BX4.out) G4.out)
  have n0_ := Aside0.mk hh
  have n1_ := Aside0.mk ((HH.out.below (by repeat (first | (with_reducible exact Below.refl _ _) | apply below_alloc | apply pw_below_drewN | apply below_drew1))).own hch (by repeat (first | (with_reducible exact HB.out) | apply below_alloc | apply pw_below_drewN | apply below_drew1)))
  have n2_ := Aside0.mk (hch.blk (k := b2) (o := (.cells #[.int .i64 5, .int .i64 0, .string ⟨#[]⟩] 32)) (by repeat (first | (with_reducible exact BX2.out) | refine blk_alloc ?_ _ | refine blk_drewN ?_ _ | refine blk_drew ?_)) G2.out)
  have n3_ := Aside0.mk (hch.blk (k := b3) (o := (.cells #[.int .i64 6, .int .i64 1, .string ⟨#[]⟩] 32)) (by repeat (first | (with_reducible exact BX3.out) | refine blk_alloc ?_ _ | refine blk_drewN ?_ _ | refine blk_drew ?_)) G3.out)
  have n4_ := Aside0.mk (hch.blk (k := b4) (o := (.cells #[.int .i64 3, .int .i64 3, .string ⟨#[]⟩] 32)) (by repeat (first | (with_reducible exact BX4.out) | refine blk_alloc ?_ _ | refine blk_drewN ?_ _ | refine blk_drew ?_)) G4.out)
  clear HH HB BX2 BX3 BX4
  have HH := n0_
  have HB := n1_
  have BX2 := n2_
  have BX3 := n3_
  have BX4 := n4_
  clear n0_ n1_ n2_ n3_ n4_
  haveI := GW.of HB.out
  clear hh hno hch G2 G3 G4
  have G2 := g2_
  have G3 := g3_
  have G4 := g4_
  clear g2_ g3_ g4_
  refine hK.out _ _ ⟨(blk_cell BX2.out 0).trans rfl, (blk_cell BX2.out 1).trans rfl, (blk_cell BX2.out 2).trans rfl, (blk_cell BX3.out 0).trans rfl, (blk_cell BX3.out 1).trans rfl, (blk_cell BX3.out 2).trans rfl, (blk_cell BX4.out 0).trans rfl, (blk_cell BX4.out 1).trans rfl, (blk_cell BX4.out 2).trans rfl⟩ (fun hHeld => ?_)
  clear hK K
  refine norm_ (a' := ?_) ?_ ?_
  rotate_left
  · show Act.put _ (some 52) _ = _
    simp only [Act.put, List.setIfInBounds_toArray, List.set_cons_zero, List.set_cons_succ, i64_w, i32_w]
    rfl
  refine pure_ (i := 26) (N := some 53) (v := ?_) (a' := ?_) #[true, true, true, true, true, true, true, true, true, true, true, true, true, true, true, true, true, true, true, true, true, true, true, true, true, true, true, false, false, false, false, false, false, false, false, false, false, false, false, false, false, false, false, false, false, false, false, false, false, false, false, false, false, false, false, false] rfl rfl (by kernel_rfl) (fun _ _ _ h => h) (Or.inl ⟨by rfl, ?_⟩) ?_ ?_
  rotate_left
  · intro w'
    go_simp
    with_reducible rfl
  rotate_left
  · simp only [Act.put, List.setIfInBounds_toArray, List.set_cons_zero, List.set_cons_succ, i64_w, i32_w]
    rfl
  refine pure_ (i := 27) (N := some 54) (v := ?_) (a' := ?_) #[true, true, true, true, true, true, true, true, true, true, true, true, true, true, true, true, true, true, true, true, true, true, true, true, true, true, true, true, false, false, false, false, false, false, false, false, false, false, false, false, false, false, false, false, false, false, false, false, false, false, false, false, false, false, false, false] rfl rfl (by kernel_rfl) (fun _ _ _ h => h) (Or.inl ⟨by rfl, ?_⟩) ?_ ?_
  rotate_left
  · intro w'
    go_simp
    with_reducible rfl
  rotate_left
  · simp only [Act.put, List.setIfInBounds_toArray, List.set_cons_zero, List.set_cons_succ, i64_w, i32_w]
    rfl
  refine pure_ (i := 28) (N := some 55) (v := ?_) (a' := ?_) #[true, true, true, true, true, true, true, true, true, true, true, true, true, true, true, true, true, true, true, true, true, true, true, true, true, true, true, true, true, false, false, false, false, false, false, false, false, false, false, false, false, false, false, false, false, false, false, false, false, false, false, false, false, false, false, false] rfl rfl (by kernel_rfl) (fun _ _ _ h => h) (Or.inl ⟨by rfl, ?_⟩) ?_ ?_
  rotate_left
  · intro w'
    go_simp
    with_reducible rfl
  rotate_left
  · simp only [Act.put, List.setIfInBounds_toArray, List.set_cons_zero, List.set_cons_succ, i64_w, i32_w]
    rfl
  refine take_ (i := 29) (N := some 56) (v := ?_) (a' := ?_) #[true, true, true, true, true, true, true, true, true, true, true, true, true, true, true, true, true, true, true, true, true, true, true, true, true, true, true, true, true, true, false, false, false, false, false, false, false, false, false, false, false, false, false, false, false, false, false, false, false, false, false, false, false, false, false, false] rfl rfl (by kernel_rfl) (fun _ _ _ h => h) (Or.inl ⟨by rfl, ?_⟩) hHeld ?_ ?_
  rotate_left
  · rintro w' ⟨s0, s1, s2, s3, s4, s5, s6, s7, s8⟩
    go_simp
    with_reducible rfl
  rotate_left
  · simp only [Act.put, List.setIfInBounds_toArray, List.set_cons_zero, List.set_cons_succ, i64_w, i32_w]
    rfl
  refine one_ (i := 30) (N := some 57) #[true, true, true, true, true, true, true, true, true, true, true, true, true, true, true, true, true, true, true, true, true, true, true, true, true, true, true, true, true, true, true, false, false, false, false, false, false, false, false, false, false, false, false, false, false, false, false, false, false, false, false, false, false, false, false, false] rfl rfl (by kernel_rfl) (by decide) (fun K hK => ?_)
  refine goes_ Tryd.func14 (by kernel_rfl) rfl #[.pointer (some ⟨w.heap.size, 0, none⟩), .agg #[.int .i64 5, .int .i64 0, .string ⟨#[]⟩]] (by rfl) rfl rfl (by (try simp only [List.map_toArray, List.map_cons, List.map_nil]); first | done | rfl) ?_
  refine (HH.out.len ⟨5, 0, ⟨#[]⟩⟩).mono ?_
  rintro e w' ⟨rfl, hb⟩
  refine ⟨_, rfl, ?_⟩
  have n0_ := Aside0.mk (HH.out.below (below_step (by repeat (first | (with_reducible exact Below.refl _ _) | apply below_alloc | apply pw_below_drewN | apply below_drew1)) hb))
  have n1_ := Aside0.mk (below_step (by repeat (first | (with_reducible exact HB.out) | apply below_alloc | apply pw_below_drewN | apply below_drew1)) hb)
  have n2_ := Aside0.mk (blk_below (g := b2) (o := (.cells #[.int .i64 5, .int .i64 0, .string ⟨#[]⟩] 32)) (by repeat (first | (with_reducible exact BX2.out) | refine blk_alloc ?_ _ | refine blk_drewN ?_ _ | refine blk_drew ?_)) hb)
  have n3_ := Aside0.mk (blk_below (g := b3) (o := (.cells #[.int .i64 6, .int .i64 1, .string ⟨#[]⟩] 32)) (by repeat (first | (with_reducible exact BX3.out) | refine blk_alloc ?_ _ | refine blk_drewN ?_ _ | refine blk_drew ?_)) hb)
  have n4_ := Aside0.mk (blk_below (g := b4) (o := (.cells #[.int .i64 3, .int .i64 3, .string ⟨#[]⟩] 32)) (by repeat (first | (with_reducible exact BX4.out) | refine blk_alloc ?_ _ | refine blk_drewN ?_ _ | refine blk_drew ?_)) hb)
  clear HH HB BX2 BX3 BX4
  have HH := n0_
  have HB := n1_
  have BX2 := n2_
  have BX3 := n3_
  have BX4 := n4_
  clear n0_ n1_ n2_ n3_ n4_
  haveI := GW.of HB.out
  clear hb
  refine hK.out _ _ ⟨(blk_cell BX2.out 0).trans rfl, (blk_cell BX2.out 1).trans rfl, (blk_cell BX2.out 2).trans rfl, (blk_cell BX3.out 0).trans rfl, (blk_cell BX3.out 1).trans rfl, (blk_cell BX3.out 2).trans rfl, (blk_cell BX4.out 0).trans rfl, (blk_cell BX4.out 1).trans rfl, (blk_cell BX4.out 2).trans rfl⟩ (fun hHeld => ?_)
  clear hK K
  refine norm_ (a' := ?_) ?_ ?_
  rotate_left
  · show Act.put _ (some 57) _ = _
    simp only [Act.put, List.setIfInBounds_toArray, List.set_cons_zero, List.set_cons_succ, i64_w, i32_w]
    rfl
  refine pure_ (i := 31) (N := some 58) (v := ?_) (a' := ?_) #[true, true, true, true, true, true, true, true, true, true, true, true, true, true, true, true, true, true, true, true, true, true, true, true, true, true, true, true, true, true, true, true, false, false, false, false, false, false, false, false, false, false, false, false, false, false, false, false, false, false, false, false, false, false, false, false] rfl rfl (by kernel_rfl) (fun _ _ _ h => h) (Or.inl ⟨by rfl, ?_⟩) ?_ ?_
  rotate_left
  · intro w'
    go_simp
    with_reducible rfl
  rotate_left
  · simp only [Act.put, List.setIfInBounds_toArray, List.set_cons_zero, List.set_cons_succ, i64_w, i32_w]
    rfl
  refine pure_ (i := 32) (N := some 59) (v := ?_) (a' := ?_) #[true, true, true, true, true, true, true, true, true, true, true, true, true, true, true, true, true, true, true, true, true, true, true, true, true, true, true, true, true, true, true, true, true, false, false, false, false, false, false, false, false, false, false, false, false, false, false, false, false, false, false, false, false, false, false, false] rfl rfl (by kernel_rfl) (fun _ _ _ h => h) (Or.inl ⟨by rfl, ?_⟩) ?_ ?_
  rotate_left
  · intro w'
    go_simp
    with_reducible rfl
  rotate_left
  · simp only [Act.put, List.setIfInBounds_toArray, List.set_cons_zero, List.set_cons_succ, i64_w, i32_w]
    rfl
  refine pure_ (i := 33) (N := some 60) (v := ?_) (a' := ?_) #[true, true, true, true, true, true, true, true, true, true, true, true, true, true, true, true, true, true, true, true, true, true, true, true, true, true, true, true, true, true, true, true, true, true, false, false, false, false, false, false, false, false, false, false, false, false, false, false, false, false, false, false, false, false, false, false] rfl rfl (by kernel_rfl) (fun _ _ _ h => h) (Or.inl ⟨by rfl, ?_⟩) ?_ ?_
  rotate_left
  · intro w'
    go_simp
    with_reducible rfl
  rotate_left
  · simp only [Act.put, List.setIfInBounds_toArray, List.set_cons_zero, List.set_cons_succ, i64_w, i32_w]
    rfl
  refine pure_ (i := 34) (N := some 61) (v := ?_) (a' := ?_) #[true, true, true, true, true, true, true, true, true, true, true, true, true, true, true, true, true, true, true, true, true, true, true, true, true, true, true, true, true, true, true, true, true, true, true, false, false, false, false, false, false, false, false, false, false, false, false, false, false, false, false, false, false, false, false, false] rfl rfl (by kernel_rfl) (fun _ _ _ h => h) (Or.inl ⟨by rfl, ?_⟩) ?_ ?_
  rotate_left
  · intro w'
    go_simp
    with_reducible rfl
  rotate_left
  · simp only [Act.put, List.setIfInBounds_toArray, List.set_cons_zero, List.set_cons_succ, i64_w, i32_w]
    rfl
  refine take_ (i := 35) (N := some 62) (v := ?_) (a' := ?_) #[true, true, true, true, true, true, true, true, true, true, true, true, true, true, true, true, true, true, true, true, true, true, true, true, true, true, true, true, true, true, true, true, true, true, true, true, false, false, false, false, false, false, false, false, false, false, false, false, false, false, false, false, false, false, false, false] rfl rfl (by kernel_rfl) (fun _ _ _ h => h) (Or.inl ⟨by rfl, ?_⟩) hHeld ?_ ?_
  rotate_left
  · rintro w' ⟨s0, s1, s2, s3, s4, s5, s6, s7, s8⟩
    go_simp
    with_reducible rfl
  rotate_left
  · simp only [Act.put, List.setIfInBounds_toArray, List.set_cons_zero, List.set_cons_succ, i64_w, i32_w]
    rfl
  refine one_ (i := 36) (N := some 63) #[true, true, true, true, true, true, true, true, true, true, true, true, true, true, true, true, true, true, true, true, true, true, true, true, true, true, true, true, true, true, true, true, true, true, true, true, true, false, false, false, false, false, false, false, false, false, false, false, false, false, false, false, false, false, false, false] rfl rfl (by kernel_rfl) (by decide) (fun K hK => ?_)
  refine goes_ Tryd.func21 (by kernel_rfl) rfl #[.int .i64 5] (by rfl) rfl rfl (by (try simp only [List.map_toArray, List.map_cons, List.map_nil]); first | done | rfl) ?_
  refine (num_calls 5 _).mono ?_
  rintro e w' ⟨rfl, hb⟩
  refine ⟨_, rfl, ?_⟩
  have n0_ := Aside0.mk (HH.out.below (below_step (by repeat (first | (with_reducible exact Below.refl _ _) | apply below_alloc | apply pw_below_drewN | apply below_drew1)) hb))
  have n1_ := Aside0.mk (below_step (by repeat (first | (with_reducible exact HB.out) | apply below_alloc | apply pw_below_drewN | apply below_drew1)) hb)
  have n2_ := Aside0.mk (blk_below (g := b2) (o := (.cells #[.int .i64 5, .int .i64 0, .string ⟨#[]⟩] 32)) (by repeat (first | (with_reducible exact BX2.out) | refine blk_alloc ?_ _ | refine blk_drewN ?_ _ | refine blk_drew ?_)) hb)
  have n3_ := Aside0.mk (blk_below (g := b3) (o := (.cells #[.int .i64 6, .int .i64 1, .string ⟨#[]⟩] 32)) (by repeat (first | (with_reducible exact BX3.out) | refine blk_alloc ?_ _ | refine blk_drewN ?_ _ | refine blk_drew ?_)) hb)
  have n4_ := Aside0.mk (blk_below (g := b4) (o := (.cells #[.int .i64 3, .int .i64 3, .string ⟨#[]⟩] 32)) (by repeat (first | (with_reducible exact BX4.out) | refine blk_alloc ?_ _ | refine blk_drewN ?_ _ | refine blk_drew ?_)) hb)
  clear HH HB BX2 BX3 BX4
  have HH := n0_
  have HB := n1_
  have BX2 := n2_
  have BX3 := n3_
  have BX4 := n4_
  clear n0_ n1_ n2_ n3_ n4_
  haveI := GW.of HB.out
  clear hb
  refine hK.out _ _ ⟨(blk_cell BX2.out 0).trans rfl, (blk_cell BX2.out 1).trans rfl, (blk_cell BX2.out 2).trans rfl, (blk_cell BX3.out 0).trans rfl, (blk_cell BX3.out 1).trans rfl, (blk_cell BX3.out 2).trans rfl, (blk_cell BX4.out 0).trans rfl, (blk_cell BX4.out 1).trans rfl, (blk_cell BX4.out 2).trans rfl⟩ (fun hHeld => ?_)
  clear hK K
  refine norm_ (a' := ?_) ?_ ?_
  rotate_left
  · show Act.put _ (some 63) _ = _
    simp only [Act.put, List.setIfInBounds_toArray, List.set_cons_zero, List.set_cons_succ, i64_w, i32_w]
    rfl
  refine one_ (i := 37) (N := some 64) #[true, true, true, true, true, true, true, true, true, true, true, true, true, true, true, true, true, true, true, true, true, true, true, true, true, true, true, true, true, true, true, true, true, true, true, true, true, true, false, false, false, false, false, false, false, false, false, false, false, false, false, false, false, false, false, false] rfl rfl (by kernel_rfl) (by decide) (fun K hK => ?_)
  refine goes_ Tryd.func16 (by kernel_rfl) rfl #[.pointer (some ⟨w.heap.size, 0, none⟩), .agg #[.int .i64 5, .int .i64 0, .string ⟨#[]⟩], .int .i64 9, .agg #[.int .i64 3, .int .i64 5, .string ⟨#[]⟩]] (by rfl) rfl rfl (by (try simp only [List.map_toArray, List.map_cons, List.map_nil]); first | done | rfl) ?_
  refine (HH.out.put ⟨5, 0, ⟨#[]⟩⟩ ⟨3, 5, ⟨#[]⟩⟩ 9 (room_b _ (by kernel_rfl))).mono ?_
  rintro e w' ⟨rfl, O', hh, hno, hch⟩
  rw [show aPut [Th.arr [num 1, num 2, num 5], Th.obj (kvFold [⟨#[97]⟩, ⟨#[98]⟩, ⟨#[97]⟩] [num 1, num 2, num 3])] ⟨5, 0, ⟨#[]⟩⟩ 9 ⟨3, 5, ⟨#[]⟩⟩ = ([Th.arr [num 1, num 2, num 5], Th.obj (kvFold [⟨#[97]⟩, ⟨#[98]⟩, ⟨#[97]⟩] [num 1, num 2, num 3])], false) by kernel_rfl] at hh
  rw [show aPut [Th.arr [num 1, num 2, num 5], Th.obj (kvFold [⟨#[97]⟩, ⟨#[98]⟩, ⟨#[97]⟩] [num 1, num 2, num 3])] ⟨5, 0, ⟨#[]⟩⟩ 9 ⟨3, 5, ⟨#[]⟩⟩ = ([Th.arr [num 1, num 2, num 5], Th.obj (kvFold [⟨#[97]⟩, ⟨#[98]⟩, ⟨#[97]⟩] [num 1, num 2, num 3])], false) by kernel_rfl]
  refine ⟨_, rfl, ?_⟩
  have g2_ := Aside0.mk (hno _ (blk_lt BX2.out) G2.out)
  have g3_ := Aside0.mk (hno _ (blk_lt BX3.out) G3.out)
  have g4_ := Aside0.mk (hno _ (blk_lt BX4.out) G4.out)
  have n0_ := Aside0.mk hh
  have n1_ := Aside0.mk ((HH.out.below (by repeat (first | (with_reducible exact Below.refl _ _) | apply below_alloc | apply pw_below_drewN | apply below_drew1))).own hch (by repeat (first | (with_reducible exact HB.out) | apply below_alloc | apply pw_below_drewN | apply below_drew1)))
  have n2_ := Aside0.mk (hch.blk (k := b2) (o := (.cells #[.int .i64 5, .int .i64 0, .string ⟨#[]⟩] 32)) (by repeat (first | (with_reducible exact BX2.out) | refine blk_alloc ?_ _ | refine blk_drewN ?_ _ | refine blk_drew ?_)) G2.out)
  have n3_ := Aside0.mk (hch.blk (k := b3) (o := (.cells #[.int .i64 6, .int .i64 1, .string ⟨#[]⟩] 32)) (by repeat (first | (with_reducible exact BX3.out) | refine blk_alloc ?_ _ | refine blk_drewN ?_ _ | refine blk_drew ?_)) G3.out)
  have n4_ := Aside0.mk (hch.blk (k := b4) (o := (.cells #[.int .i64 3, .int .i64 3, .string ⟨#[]⟩] 32)) (by repeat (first | (with_reducible exact BX4.out) | refine blk_alloc ?_ _ | refine blk_drewN ?_ _ | refine blk_drew ?_)) G4.out)
  clear HH HB BX2 BX3 BX4
  have HH := n0_
  have HB := n1_
  have BX2 := n2_
  have BX3 := n3_
  have BX4 := n4_
  clear n0_ n1_ n2_ n3_ n4_
  haveI := GW.of HB.out
  clear hh hno hch G2 G3 G4
  have G2 := g2_
  have G3 := g3_
  have G4 := g4_
  clear g2_ g3_ g4_
  refine hK.out _ _ ⟨(blk_cell BX2.out 0).trans rfl, (blk_cell BX2.out 1).trans rfl, (blk_cell BX2.out 2).trans rfl, (blk_cell BX3.out 0).trans rfl, (blk_cell BX3.out 1).trans rfl, (blk_cell BX3.out 2).trans rfl, (blk_cell BX4.out 0).trans rfl, (blk_cell BX4.out 1).trans rfl, (blk_cell BX4.out 2).trans rfl⟩ (fun hHeld => ?_)
  clear hK K
  refine norm_ (a' := ?_) ?_ ?_
  rotate_left
  · show Act.put _ (some 64) _ = _
    simp only [Act.put, List.setIfInBounds_toArray, List.set_cons_zero, List.set_cons_succ, i64_w, i32_w]
    rfl
  refine pure_ (i := 38) (N := some 65) (v := ?_) (a' := ?_) #[true, true, true, true, true, true, true, true, true, true, true, true, true, true, true, true, true, true, true, true, true, true, true, true, true, true, true, true, true, true, true, true, true, true, true, true, true, true, true, false, false, false, false, false, false, false, false, false, false, false, false, false, false, false, false, false] rfl rfl (by kernel_rfl) (fun _ _ _ h => h) (Or.inl ⟨by rfl, ?_⟩) ?_ ?_
  rotate_left
  · intro w'
    go_simp
    with_reducible rfl
  rotate_left
  · simp only [Act.put, List.setIfInBounds_toArray, List.set_cons_zero, List.set_cons_succ, i64_w, i32_w]
    rfl
  refine pure_ (i := 39) (N := some 66) (v := ?_) (a' := ?_) #[true, true, true, true, true, true, true, true, true, true, true, true, true, true, true, true, true, true, true, true, true, true, true, true, true, true, true, true, true, true, true, true, true, true, true, true, true, true, true, true, false, false, false, false, false, false, false, false, false, false, false, false, false, false, false, false] rfl rfl (by kernel_rfl) (fun _ _ _ h => h) (Or.inl ⟨by rfl, ?_⟩) ?_ ?_
  rotate_left
  · intro w'
    go_simp
    with_reducible rfl
  rotate_left
  · simp only [Act.put, List.setIfInBounds_toArray, List.set_cons_zero, List.set_cons_succ, i64_w, i32_w]
    rfl
  refine pure_ (i := 40) (N := some 67) (v := ?_) (a' := ?_) #[true, true, true, true, true, true, true, true, true, true, true, true, true, true, true, true, true, true, true, true, true, true, true, true, true, true, true, true, true, true, true, true, true, true, true, true, true, true, true, true, true, false, false, false, false, false, false, false, false, false, false, false, false, false, false, false] rfl rfl (by kernel_rfl) (fun _ _ _ h => h) (Or.inl ⟨by rfl, ?_⟩) ?_ ?_
  rotate_left
  · intro w'
    go_simp
    with_reducible rfl
  rotate_left
  · simp only [Act.put, List.setIfInBounds_toArray, List.set_cons_zero, List.set_cons_succ, i64_w, i32_w]
    rfl
  refine pure_ (i := 41) (N := some 68) (v := ?_) (a' := ?_) #[true, true, true, true, true, true, true, true, true, true, true, true, true, true, true, true, true, true, true, true, true, true, true, true, true, true, true, true, true, true, true, true, true, true, true, true, true, true, true, true, true, true, false, false, false, false, false, false, false, false, false, false, false, false, false, false] rfl rfl (by kernel_rfl) (fun _ _ _ h => h) (Or.inl ⟨by rfl, ?_⟩) ?_ ?_
  rotate_left
  · intro w'
    go_simp
    with_reducible rfl
  rotate_left
  · simp only [Act.put, List.setIfInBounds_toArray, List.set_cons_zero, List.set_cons_succ, i64_w, i32_w]
    rfl
  refine one_ (i := 42) (N := some 69) #[true, true, true, true, true, true, true, true, true, true, true, true, true, true, true, true, true, true, true, true, true, true, true, true, true, true, true, true, true, true, true, true, true, true, true, true, true, true, true, true, true, true, true, false, false, false, false, false, false, false, false, false, false, false, false, false] rfl rfl (by kernel_rfl) (by decide) (fun K hK => ?_)
  refine goes_ Tryd.func22 (by kernel_rfl) rfl #[.agg #[.int .i64 1, .int .i64 0, .string ⟨#[]⟩]] (by rfl) rfl rfl (by (try simp only [List.map_toArray, List.map_cons, List.map_nil]); first | done | rfl) ?_
  refine (value_Typeof.calls 1 0 ⟨#[]⟩ ⟨#[111, 98, 106, 101, 99, 116]⟩ _ rfl).mono ?_
  rintro e w' ⟨rfl, hb⟩
  refine ⟨_, rfl, ?_⟩
  have n0_ := Aside0.mk (HH.out.below (below_step (by repeat (first | (with_reducible exact Below.refl _ _) | apply below_alloc | apply pw_below_drewN | apply below_drew1)) hb))
  have n1_ := Aside0.mk (below_step (by repeat (first | (with_reducible exact HB.out) | apply below_alloc | apply pw_below_drewN | apply below_drew1)) hb)
  have n2_ := Aside0.mk (blk_below (g := b2) (o := (.cells #[.int .i64 5, .int .i64 0, .string ⟨#[]⟩] 32)) (by repeat (first | (with_reducible exact BX2.out) | refine blk_alloc ?_ _ | refine blk_drewN ?_ _ | refine blk_drew ?_)) hb)
  have n3_ := Aside0.mk (blk_below (g := b3) (o := (.cells #[.int .i64 6, .int .i64 1, .string ⟨#[]⟩] 32)) (by repeat (first | (with_reducible exact BX3.out) | refine blk_alloc ?_ _ | refine blk_drewN ?_ _ | refine blk_drew ?_)) hb)
  have n4_ := Aside0.mk (blk_below (g := b4) (o := (.cells #[.int .i64 3, .int .i64 3, .string ⟨#[]⟩] 32)) (by repeat (first | (with_reducible exact BX4.out) | refine blk_alloc ?_ _ | refine blk_drewN ?_ _ | refine blk_drew ?_)) hb)
  clear HH HB BX2 BX3 BX4
  have HH := n0_
  have HB := n1_
  have BX2 := n2_
  have BX3 := n3_
  have BX4 := n4_
  clear n0_ n1_ n2_ n3_ n4_
  haveI := GW.of HB.out
  clear hb
  refine hK.out _ _ ⟨(blk_cell BX2.out 0).trans rfl, (blk_cell BX2.out 1).trans rfl, (blk_cell BX2.out 2).trans rfl, (blk_cell BX3.out 0).trans rfl, (blk_cell BX3.out 1).trans rfl, (blk_cell BX3.out 2).trans rfl, (blk_cell BX4.out 0).trans rfl, (blk_cell BX4.out 1).trans rfl, (blk_cell BX4.out 2).trans rfl⟩ (fun hHeld => ?_)
  clear hK K
  refine norm_ (a' := ?_) ?_ ?_
  rotate_left
  · show Act.put _ (some 69) _ = _
    simp only [Act.put, List.setIfInBounds_toArray, List.set_cons_zero, List.set_cons_succ, i64_w, i32_w]
    rfl
  refine pure_ (i := 43) (N := some 70) (v := ?_) (a' := ?_) #[true, true, true, true, true, true, true, true, true, true, true, true, true, true, true, true, true, true, true, true, true, true, true, true, true, true, true, true, true, true, true, true, true, true, true, true, true, true, true, true, true, true, true, true, false, false, false, false, false, false, false, false, false, false, false, false] rfl rfl (by kernel_rfl) (fun _ _ _ h => h) (Or.inl ⟨by rfl, ?_⟩) ?_ ?_
  rotate_left
  · intro w'
    go_simp
    with_reducible rfl
  rotate_left
  · simp only [Act.put, List.setIfInBounds_toArray, List.set_cons_zero, List.set_cons_succ, i64_w, i32_w]
    rfl
  refine pure_ (i := 44) (N := some 71) (v := ?_) (a' := ?_) #[true, true, true, true, true, true, true, true, true, true, true, true, true, true, true, true, true, true, true, true, true, true, true, true, true, true, true, true, true, true, true, true, true, true, true, true, true, true, true, true, true, true, true, true, true, false, false, false, false, false, false, false, false, false, false, false] rfl rfl (by kernel_rfl) (fun _ _ _ h => h) (Or.inl ⟨by rfl, ?_⟩) ?_ ?_
  rotate_left
  · intro w'
    go_simp
    with_reducible rfl
  rotate_left
  · simp only [Act.put, List.setIfInBounds_toArray, List.set_cons_zero, List.set_cons_succ, i64_w, i32_w]
    rfl
  refine pure_ (i := 45) (N := some 72) (v := ?_) (a' := ?_) #[true, true, true, true, true, true, true, true, true, true, true, true, true, true, true, true, true, true, true, true, true, true, true, true, true, true, true, true, true, true, true, true, true, true, true, true, true, true, true, true, true, true, true, true, true, true, false, false, false, false, false, false, false, false, false, false] rfl rfl (by kernel_rfl) (fun _ _ _ h => h) (Or.inl ⟨by rfl, ?_⟩) ?_ ?_
  rotate_left
  · intro w'
    go_simp
    with_reducible rfl
  rotate_left
  · simp only [Act.put, List.setIfInBounds_toArray, List.set_cons_zero, List.set_cons_succ, i64_w, i32_w]
    rfl
  refine one_ (i := 46) (N := some 73) #[true, true, true, true, true, true, true, true, true, true, true, true, true, true, true, true, true, true, true, true, true, true, true, true, true, true, true, true, true, true, true, true, true, true, true, true, true, true, true, true, true, true, true, true, true, true, true, false, false, false, false, false, false, false, false, false] rfl rfl (by kernel_rfl) (by decide) (fun K hK => ?_)
  refine goes_ Tryd.func21 (by kernel_rfl) rfl #[.int .i64 1] (by rfl) rfl rfl (by (try simp only [List.map_toArray, List.map_cons, List.map_nil]); first | done | rfl) ?_
  refine (num_calls 1 _).mono ?_
  rintro e w' ⟨rfl, hb⟩
  refine ⟨_, rfl, ?_⟩
  have n0_ := Aside0.mk (HH.out.below (below_step (by repeat (first | (with_reducible exact Below.refl _ _) | apply below_alloc | apply pw_below_drewN | apply below_drew1)) hb))
  have n1_ := Aside0.mk (below_step (by repeat (first | (with_reducible exact HB.out) | apply below_alloc | apply pw_below_drewN | apply below_drew1)) hb)
  have n2_ := Aside0.mk (blk_below (g := b2) (o := (.cells #[.int .i64 5, .int .i64 0, .string ⟨#[]⟩] 32)) (by repeat (first | (with_reducible exact BX2.out) | refine blk_alloc ?_ _ | refine blk_drewN ?_ _ | refine blk_drew ?_)) hb)
  have n3_ := Aside0.mk (blk_below (g := b3) (o := (.cells #[.int .i64 6, .int .i64 1, .string ⟨#[]⟩] 32)) (by repeat (first | (with_reducible exact BX3.out) | refine blk_alloc ?_ _ | refine blk_drewN ?_ _ | refine blk_drew ?_)) hb)
  have n4_ := Aside0.mk (blk_below (g := b4) (o := (.cells #[.int .i64 3, .int .i64 3, .string ⟨#[]⟩] 32)) (by repeat (first | (with_reducible exact BX4.out) | refine blk_alloc ?_ _ | refine blk_drewN ?_ _ | refine blk_drew ?_)) hb)
  clear HH HB BX2 BX3 BX4
  have HH := n0_
  have HB := n1_
  have BX2 := n2_
  have BX3 := n3_
  have BX4 := n4_
  clear n0_ n1_ n2_ n3_ n4_
  haveI := GW.of HB.out
  clear hb
  refine hK.out _ _ ⟨(blk_cell BX2.out 0).trans rfl, (blk_cell BX2.out 1).trans rfl, (blk_cell BX2.out 2).trans rfl, (blk_cell BX3.out 0).trans rfl, (blk_cell BX3.out 1).trans rfl, (blk_cell BX3.out 2).trans rfl, (blk_cell BX4.out 0).trans rfl, (blk_cell BX4.out 1).trans rfl, (blk_cell BX4.out 2).trans rfl⟩ (fun hHeld => ?_)
  clear hK K
  refine norm_ (a' := ?_) ?_ ?_
  rotate_left
  · show Act.put _ (some 73) _ = _
    simp only [Act.put, List.setIfInBounds_toArray, List.set_cons_zero, List.set_cons_succ, i64_w, i32_w]
    rfl
  refine one_ (i := 47) (N := some 74) #[true, true, true, true, true, true, true, true, true, true, true, true, true, true, true, true, true, true, true, true, true, true, true, true, true, true, true, true, true, true, true, true, true, true, true, true, true, true, true, true, true, true, true, true, true, true, true, true, false, false, false, false, false, false, false, false] rfl rfl (by kernel_rfl) (by decide) (fun K hK => ?_)
  refine goes_ Tryd.func23 (by kernel_rfl) rfl #[.agg #[.int .i64 3, .int .i64 1, .string ⟨#[]⟩]] (by rfl) rfl rfl (by (try simp only [List.map_toArray, List.map_cons, List.map_nil]); first | done | rfl) ?_
  refine (value_Truth.calls 5 3 1 ⟨#[]⟩ true _ (by kernel_rfl)).mono ?_
  rintro e w' ⟨rfl, hb⟩
  refine ⟨_, rfl, ?_⟩
  have n0_ := Aside0.mk (HH.out.below (below_step (by repeat (first | (with_reducible exact Below.refl _ _) | apply below_alloc | apply pw_below_drewN | apply below_drew1)) hb))
  have n1_ := Aside0.mk (below_step (by repeat (first | (with_reducible exact HB.out) | apply below_alloc | apply pw_below_drewN | apply below_drew1)) hb)
  have n2_ := Aside0.mk (blk_below (g := b2) (o := (.cells #[.int .i64 5, .int .i64 0, .string ⟨#[]⟩] 32)) (by repeat (first | (with_reducible exact BX2.out) | refine blk_alloc ?_ _ | refine blk_drewN ?_ _ | refine blk_drew ?_)) hb)
  have n3_ := Aside0.mk (blk_below (g := b3) (o := (.cells #[.int .i64 6, .int .i64 1, .string ⟨#[]⟩] 32)) (by repeat (first | (with_reducible exact BX3.out) | refine blk_alloc ?_ _ | refine blk_drewN ?_ _ | refine blk_drew ?_)) hb)
  have n4_ := Aside0.mk (blk_below (g := b4) (o := (.cells #[.int .i64 3, .int .i64 3, .string ⟨#[]⟩] 32)) (by repeat (first | (with_reducible exact BX4.out) | refine blk_alloc ?_ _ | refine blk_drewN ?_ _ | refine blk_drew ?_)) hb)
  clear HH HB BX2 BX3 BX4
  have HH := n0_
  have HB := n1_
  have BX2 := n2_
  have BX3 := n3_
  have BX4 := n4_
  clear n0_ n1_ n2_ n3_ n4_
  haveI := GW.of HB.out
  clear hb
  refine hK.out _ _ ⟨(blk_cell BX2.out 0).trans rfl, (blk_cell BX2.out 1).trans rfl, (blk_cell BX2.out 2).trans rfl, (blk_cell BX3.out 0).trans rfl, (blk_cell BX3.out 1).trans rfl, (blk_cell BX3.out 2).trans rfl, (blk_cell BX4.out 0).trans rfl, (blk_cell BX4.out 1).trans rfl, (blk_cell BX4.out 2).trans rfl⟩ (fun hHeld => ?_)
  clear hK K
  refine norm_ (a' := ?_) ?_ ?_
  rotate_left
  · show Act.put _ (some 74) _ = _
    simp only [Act.put, List.setIfInBounds_toArray, List.set_cons_zero, List.set_cons_succ, i64_w, i32_w]
    rfl
  refine pure_ (i := 48) (N := some 75) (v := ?_) (a' := ?_) #[true, true, true, true, true, true, true, true, true, true, true, true, true, true, true, true, true, true, true, true, true, true, true, true, true, true, true, true, true, true, true, true, true, true, true, true, true, true, true, true, true, true, true, true, true, true, true, true, true, false, false, false, false, false, false, false] rfl rfl (by kernel_rfl) (fun _ _ _ h => h) (Or.inl ⟨by rfl, ?_⟩) ?_ ?_
  rotate_left
  · intro w'
    go_simp
    with_reducible rfl
  rotate_left
  · simp only [Act.put, List.setIfInBounds_toArray, List.set_cons_zero, List.set_cons_succ, i64_w, i32_w]
    rfl
  refine pure_ (i := 49) (N := some 76) (v := ?_) (a' := ?_) #[true, true, true, true, true, true, true, true, true, true, true, true, true, true, true, true, true, true, true, true, true, true, true, true, true, true, true, true, true, true, true, true, true, true, true, true, true, true, true, true, true, true, true, true, true, true, true, true, true, true, false, false, false, false, false, false] rfl rfl (by kernel_rfl) (fun _ _ _ h => h) (Or.inl ⟨by rfl, ?_⟩) ?_ ?_
  rotate_left
  · intro w'
    go_simp
    with_reducible rfl
  rotate_left
  · simp only [Act.put, List.setIfInBounds_toArray, List.set_cons_zero, List.set_cons_succ, i64_w, i32_w]
    rfl
  refine pure_ (i := 50) (N := some 77) (v := ?_) (a' := ?_) #[true, true, true, true, true, true, true, true, true, true, true, true, true, true, true, true, true, true, true, true, true, true, true, true, true, true, true, true, true, true, true, true, true, true, true, true, true, true, true, true, true, true, true, true, true, true, true, true, true, true, true, false, false, false, false, false] rfl rfl (by kernel_rfl) (fun _ _ _ h => h) (Or.inl ⟨by rfl, ?_⟩) ?_ ?_
  rotate_left
  · intro w'
    go_simp
    with_reducible rfl
  rotate_left
  · simp only [Act.put, List.setIfInBounds_toArray, List.set_cons_zero, List.set_cons_succ, i64_w, i32_w]
    rfl
  refine one_ (i := 51) (N := some 78) #[true, true, true, true, true, true, true, true, true, true, true, true, true, true, true, true, true, true, true, true, true, true, true, true, true, true, true, true, true, true, true, true, true, true, true, true, true, true, true, true, true, true, true, true, true, true, true, true, true, true, true, true, false, false, false, false] rfl rfl (by kernel_rfl) (by decide) (fun K hK => ?_)
  refine goes_ Tryd.func21 (by kernel_rfl) rfl #[.int .i64 (-5)] (by rfl) rfl rfl (by (try simp only [List.map_toArray, List.map_cons, List.map_nil]); first | done | rfl) ?_
  refine (num_calls (-5) _).mono ?_
  rintro e w' ⟨rfl, hb⟩
  refine ⟨_, rfl, ?_⟩
  have n0_ := Aside0.mk (HH.out.below (below_step (by repeat (first | (with_reducible exact Below.refl _ _) | apply below_alloc | apply pw_below_drewN | apply below_drew1)) hb))
  have n1_ := Aside0.mk (below_step (by repeat (first | (with_reducible exact HB.out) | apply below_alloc | apply pw_below_drewN | apply below_drew1)) hb)
  have n2_ := Aside0.mk (blk_below (g := b2) (o := (.cells #[.int .i64 5, .int .i64 0, .string ⟨#[]⟩] 32)) (by repeat (first | (with_reducible exact BX2.out) | refine blk_alloc ?_ _ | refine blk_drewN ?_ _ | refine blk_drew ?_)) hb)
  have n3_ := Aside0.mk (blk_below (g := b3) (o := (.cells #[.int .i64 6, .int .i64 1, .string ⟨#[]⟩] 32)) (by repeat (first | (with_reducible exact BX3.out) | refine blk_alloc ?_ _ | refine blk_drewN ?_ _ | refine blk_drew ?_)) hb)
  have n4_ := Aside0.mk (blk_below (g := b4) (o := (.cells #[.int .i64 3, .int .i64 3, .string ⟨#[]⟩] 32)) (by repeat (first | (with_reducible exact BX4.out) | refine blk_alloc ?_ _ | refine blk_drewN ?_ _ | refine blk_drew ?_)) hb)
  clear HH HB BX2 BX3 BX4
  have HH := n0_
  have HB := n1_
  have BX2 := n2_
  have BX3 := n3_
  have BX4 := n4_
  clear n0_ n1_ n2_ n3_ n4_
  haveI := GW.of HB.out
  clear hb
  refine hK.out _ _ ⟨(blk_cell BX2.out 0).trans rfl, (blk_cell BX2.out 1).trans rfl, (blk_cell BX2.out 2).trans rfl, (blk_cell BX3.out 0).trans rfl, (blk_cell BX3.out 1).trans rfl, (blk_cell BX3.out 2).trans rfl, (blk_cell BX4.out 0).trans rfl, (blk_cell BX4.out 1).trans rfl, (blk_cell BX4.out 2).trans rfl⟩ (fun hHeld => ?_)
  clear hK K
  refine norm_ (a' := ?_) ?_ ?_
  rotate_left
  · show Act.put _ (some 78) _ = _
    simp only [Act.put, List.setIfInBounds_toArray, List.set_cons_zero, List.set_cons_succ, i64_w, i32_w]
    rfl
  refine one_ (i := 52) (N := some 79) #[true, true, true, true, true, true, true, true, true, true, true, true, true, true, true, true, true, true, true, true, true, true, true, true, true, true, true, true, true, true, true, true, true, true, true, true, true, true, true, true, true, true, true, true, true, true, true, true, true, true, true, true, true, false, false, false] rfl rfl (by kernel_rfl) (by decide) (fun K hK => ?_)
  refine goes_ Tryd.func18 (by kernel_rfl) rfl #[.pointer (some ⟨w.heap.size, 0, none⟩), .agg #[.int .i64 3, .int .i64 (-5), .string ⟨#[]⟩]] (by rfl) rfl rfl (by (try simp only [List.map_toArray, List.map_cons, List.map_nil]); first | done | rfl) ?_
  refine (text5 _ _).mono ?_
  rintro e w' ⟨rfl, hb⟩
  refine ⟨_, rfl, ?_⟩
  have n0_ := Aside0.mk (HH.out.below (below_step (by repeat (first | (with_reducible exact Below.refl _ _) | apply below_alloc | apply pw_below_drewN | apply below_drew1)) hb))
  have n1_ := Aside0.mk (below_step (by repeat (first | (with_reducible exact HB.out) | apply below_alloc | apply pw_below_drewN | apply below_drew1)) hb)
  have n2_ := Aside0.mk (blk_below (g := b2) (o := (.cells #[.int .i64 5, .int .i64 0, .string ⟨#[]⟩] 32)) (by repeat (first | (with_reducible exact BX2.out) | refine blk_alloc ?_ _ | refine blk_drewN ?_ _ | refine blk_drew ?_)) hb)
  have n3_ := Aside0.mk (blk_below (g := b3) (o := (.cells #[.int .i64 6, .int .i64 1, .string ⟨#[]⟩] 32)) (by repeat (first | (with_reducible exact BX3.out) | refine blk_alloc ?_ _ | refine blk_drewN ?_ _ | refine blk_drew ?_)) hb)
  have n4_ := Aside0.mk (blk_below (g := b4) (o := (.cells #[.int .i64 3, .int .i64 3, .string ⟨#[]⟩] 32)) (by repeat (first | (with_reducible exact BX4.out) | refine blk_alloc ?_ _ | refine blk_drewN ?_ _ | refine blk_drew ?_)) hb)
  clear HH HB BX2 BX3 BX4
  have HH := n0_
  have HB := n1_
  have BX2 := n2_
  have BX3 := n3_
  have BX4 := n4_
  clear n0_ n1_ n2_ n3_ n4_
  haveI := GW.of HB.out
  clear hb
  refine hK.out _ _ ⟨(blk_cell BX2.out 0).trans rfl, (blk_cell BX2.out 1).trans rfl, (blk_cell BX2.out 2).trans rfl, (blk_cell BX3.out 0).trans rfl, (blk_cell BX3.out 1).trans rfl, (blk_cell BX3.out 2).trans rfl, (blk_cell BX4.out 0).trans rfl, (blk_cell BX4.out 1).trans rfl, (blk_cell BX4.out 2).trans rfl⟩ (fun hHeld => ?_)
  clear hK K
  refine norm_ (a' := ?_) ?_ ?_
  rotate_left
  · show Act.put _ (some 79) _ = _
    simp only [Act.put, List.setIfInBounds_toArray, List.set_cons_zero, List.set_cons_succ, i64_w, i32_w]
    rfl
  refine pure_ (i := 53) (N := some 80) (v := ?_) (a' := ?_) #[true, true, true, true, true, true, true, true, true, true, true, true, true, true, true, true, true, true, true, true, true, true, true, true, true, true, true, true, true, true, true, true, true, true, true, true, true, true, true, true, true, true, true, true, true, true, true, true, true, true, true, true, true, true, false, false] rfl rfl (by kernel_rfl) (fun _ _ _ h => h) (Or.inl ⟨by rfl, ?_⟩) ?_ ?_
  rotate_left
  · intro w'
    go_simp
    with_reducible rfl
  rotate_left
  · simp only [Act.put, List.setIfInBounds_toArray, List.set_cons_zero, List.set_cons_succ, i64_w, i32_w]
    rfl
  refine pure_ (i := 54) (N := some 81) (v := ?_) (a' := ?_) #[true, true, true, true, true, true, true, true, true, true, true, true, true, true, true, true, true, true, true, true, true, true, true, true, true, true, true, true, true, true, true, true, true, true, true, true, true, true, true, true, true, true, true, true, true, true, true, true, true, true, true, true, true, true, true, false] rfl rfl (by kernel_rfl) (fun _ _ _ h => h) (Or.inl ⟨by rfl, ?_⟩) ?_ ?_
  rotate_left
  · intro w'
    go_simp
    with_reducible rfl
  rotate_left
  · simp only [Act.put, List.setIfInBounds_toArray, List.set_cons_zero, List.set_cons_succ, i64_w, i32_w]
    rfl
  refine pure_ (i := 55) (N := some 0) (v := ?_) (a' := ?_) #[true, true, true, true, true, true, true, true, true, true, true, true, true, true, true, true, true, true, true, true, true, true, true, true, true, true, true, true, true, true, true, true, true, true, true, true, true, true, true, true, true, true, true, true, true, true, true, true, true, true, true, true, true, true, true, true] rfl rfl (by kernel_rfl) (fun _ _ _ h => h) (Or.inl ⟨by rfl, ?_⟩) ?_ ?_
  rotate_left
  · intro w'
    go_simp
    with_reducible rfl
  rotate_left
  · simp only [Act.put, List.setIfInBounds_toArray, List.set_cons_zero, List.set_cons_succ, i64_w, i32_w]
    rfl
  refine done_ (by kernel_rfl) ?_
  go_wp2
  go_ret
  exact ⟨rfl, HB.out⟩
end Go.Proofs.YtjbolkkbehfnmaaDoor.Val
namespace Go.Proofs.YtjbolkkbehfnmaaDoor.Val
open Go.RowKit Go.Proofs.YtjbolkkbehfnmaaDoor.PVal Go.Proofs.YtjbolkkbehfnmaaDoorW.PrintWords Go.Proofs.YtjbolkkbehfnmaaDoorW.PrintLast Go.Proofs.YtjbolkkbehfnmaaDoorW.PrintMore
set_option linter.unusedVariables false
set_option linter.unusedSimpArgs false
section
variable {B : Nat} {W : World} {O : Nat → Prop} {p : Nat} {D D' : List Th}
theorem Has.arrE (h : Has B W O p D) {A : Option Addr} {c : Nat} {l : List S32} (hC : k32.C W A l.length l) (hc : l.length ≤ c) (hmax : l.length < 1000000000000) (hlen : D.length < 1000000000000) (i : Int) (hi : (D.length : Int) = i) (hD : D ++ [.arr l] = D') :
    Calls Tryd.prog 12 #[.pointer (some ⟨p, 0, none⟩), .slice A l.length c] W fun e w' => e = .returned (.agg #[.int .i64 5, .int .i64 i, .string ⟨#[]⟩]) ∧ ∃ O', Has B w' O' p D' ∧ (∀ k, k < W.heap.size → ¬ O k → ¬ O' k) ∧ Chg O W w' := by
  subst hi
  subst hD
  exact h.arr hC hc hmax hlen
theorem Has.objE (h : Has B W O p D) {A A2 : Option Addr} {c d n m : Nat} {ns : List ByteArray} {l : List S32} (hN : Kd.string.C W A ns.length ns) (hC : k32.C W A2 l.length l) (hn : ns.length = n) (hm : l.length = m) (hmax : l.length < 1000000000000) (hmax2 : ns.length < 1000000000000) (hlen : D.length < 1000000000000) (i : Int) (hi : (D.length : Int) = i) (hD : D ++ [.obj (kvFold ns l)] = D') :
    Calls Tryd.prog 13 #[.pointer (some ⟨p, 0, none⟩), .slice A n c, .slice A2 m d] W fun e w' => e = .returned (.agg #[.int .i64 6, .int .i64 i, .string ⟨#[]⟩]) ∧ ∃ O', Has B w' O' p D' ∧ (∀ k, k < W.heap.size → ¬ O k → ¬ O' k) ∧ Chg O W w' := by
  subst hi
  subst hD
  subst hn
  subst hm
  exact h.obj hN hC hmax hmax2 hlen
theorem Has.pushE (h : Has B W O p D) (x y : S32) (hR : Room D 100000000000) (r : Bool) (hD : aPush D x y = (D', r)) :
    Calls Tryd.prog 17 #[.pointer (some ⟨p, 0, none⟩), .agg #[.int .i64 x.f0, .int .i64 x.f1, .string x.f2], .agg #[.int .i64 y.f0, .int .i64 y.f1, .string y.f2]] W fun e w' => e = .returned (.bool r) ∧ ∃ O', Has B w' O' p D' ∧ (∀ k, k < W.heap.size → ¬ O k → ¬ O' k) ∧ Chg O W w' := by
  have := h.push x y hR
  rw [hD] at this
  exact this
theorem Has.setE (h : Has B W O p D) (x y : S32) (n : ByteArray) (r : Bool) (hD : oSet D x n y = (D', r)) :
    Calls Tryd.prog 15 #[.pointer (some ⟨p, 0, none⟩), .agg #[.int .i64 x.f0, .int .i64 x.f1, .string x.f2], .string n, .agg #[.int .i64 y.f0, .int .i64 y.f1, .string y.f2]] W fun e w' => e = .returned (.bool r) ∧ ∃ O', Has B w' O' p D' ∧ (∀ k, k < W.heap.size → ¬ O k → ¬ O' k) ∧ Chg O W w' := by
  have := h.set x y n
  rw [hD] at this
  exact this
theorem Has.atE (h : Has B W O p D) (x : S32) (i : Int) (y : S32) (r : Bool) (hD : aAt D x i = (y, r)) :
    Calls Tryd.prog 11 #[.pointer (some ⟨p, 0, none⟩), .agg #[.int .i64 x.f0, .int .i64 x.f1, .string x.f2], .int .i64 i] W fun e w' => e = .returned (.tuple #[.agg #[.int .i64 y.f0, .int .i64 y.f1, .string y.f2], .bool r]) ∧ Below W.heap.size W w' := by
  have := h.at x i
  rw [hD] at this
  exact this
theorem Has.getE (h : Has B W O p D) (x : S32) (n : ByteArray) (y : S32) (r : Bool) (hD : oGet D x n = (y, r)) :
    Calls Tryd.prog 10 #[.pointer (some ⟨p, 0, none⟩), .agg #[.int .i64 x.f0, .int .i64 x.f1, .string x.f2], .string n] W fun e w' => e = .returned (.tuple #[.agg #[.int .i64 y.f0, .int .i64 y.f1, .string y.f2], .bool r]) ∧ Below W.heap.size W w' := by
  have := h.get x n
  rw [hD] at this
  exact this
theorem Has.lenE (h : Has B W O p D) (x : S32) (n : Int) (hD : aLen D x = n) :
    Calls Tryd.prog 14 #[.pointer (some ⟨p, 0, none⟩), .agg #[.int .i64 x.f0, .int .i64 x.f1, .string x.f2]] W fun e w' => e = .returned (.int .i64 n) ∧ Below W.heap.size W w' := by
  have := h.len x
  rw [hD] at this
  exact this
end
def a0 : S32 := ⟨5, 0, ⟨#[]⟩⟩
def a1 : S32 := ⟨5, 1, ⟨#[]⟩⟩
def p2 : S32 := ⟨6, 2, ⟨#[]⟩⟩
def q3 : S32 := ⟨6, 3, ⟨#[]⟩⟩
section
variable (l m : List S32) (P Q : List (ByteArray × S32)) (x : S32) (n : ByteArray)
theorem push_a0 : aPush [.arr l, .arr m, .obj P, .obj Q] a0 x = ([.arr (l ++ [x]), .arr m, .obj P, .obj Q], true) := rfl
theorem push_p2 : aPush [.arr l, .arr m, .obj P, .obj Q] p2 x = ([.arr l, .arr m, .obj P, .obj Q], false) := rfl
theorem set_p2 : oSet [.arr l, .arr m, .obj P, .obj Q] p2 n x = ([.arr l, .arr m, .obj (kvPut P n x), .obj Q], true) := rfl
theorem set_a0 : oSet [.arr l, .arr m, .obj P, .obj Q] a0 n x = ([.arr l, .arr m, .obj P, .obj Q], false) := rfl
theorem at_a0 (i : Int) (h0 : 0 ≤ i) (h1 : i < (l.length : Int)) : aAt [.arr l, .arr m, .obj P, .obj Q] a0 i = (rd_T32 l i, true) := by
  show (if 0 ≤ i ∧ i < (l.length : Int) then (rd_T32 l i, true) else (z32, false)) = _
  rw [if_pos ⟨h0, h1⟩]
theorem at_a1 (i : Int) (h1 : (m.length : Int) ≤ i) : aAt [.arr l, .arr m, .obj P, .obj Q] a1 i = (z32, false) := by
  show (if 0 ≤ i ∧ i < (m.length : Int) then (rd_T32 m i, true) else (z32, false)) = _
  rw [if_neg (by omega)]
theorem get_p2 : oGet [.arr l, .arr m, .obj P, .obj Q] p2 n = ((kvGet P n).getD z32, (kvGet P n).isSome) := rfl
theorem get_q3 : oGet [.arr l, .arr m, .obj P, .obj Q] q3 n = ((kvGet Q n).getD z32, (kvGet Q n).isSome) := rfl
theorem get_a0 : oGet [.arr l, .arr m, .obj P, .obj Q] a0 n = (z32, false) := rfl
theorem len_a0 : aLen [.arr l, .arr m, .obj P, .obj Q] a0 = (l.length : Int) := rfl
theorem len_a1 : aLen [.arr l, .arr m, .obj P, .obj Q] a1 = (m.length : Int) := rfl
theorem len_p2 : aLen [.arr l, .arr m, .obj P, .obj Q] p2 = 0 := rfl
theorem room4 (hl : l.length ≤ 1048577) (hm : m.length ≤ 1048577) (hP : P.length ≤ 1048577) (hQ : Q.length ≤ 1048577) : Room [.arr l, .arr m, .obj P, .obj Q] 100000000000 := by
  refine ⟨by simp, fun t ht => ?_⟩
  simp only [List.mem_cons, List.mem_nil_iff, or_false] at ht
  rcases ht with rfl | rfl | rfl | rfl <;> simp <;> omega
theorem fold_one : kvFold [n] l = match l with | [] => [] | y :: _ => [(n, y)] := by
  cases l <;> rfl
theorem fold_len : (kvFold [n] l).length ≤ 1 := by
  rw [fold_one]
  cases l <;> simp
theorem get_one : kvGet [(n, x)] n = some x := by
  unfold kvGet
  rw [if_pos rfl]
theorem fold_nil (h : l.length = 0) : kvGet (kvFold [n] l) n = none := by
  cases l with
  | nil => rfl
  | cons a r => simp at h
theorem fold_cons (h : 0 < l.length) : kvGet (kvFold [n] l) n = some (rd_T32 l 0) := by
  cases l with
  | nil => simp at h
  | cons a r => rw [fold_one]; exact get_one a n
theorem rd_new : rd_T32 (l ++ [x]) (l.length : Int) = x := by
  unfold rd_T32
  simp
theorem rd_old (i : Nat) (h : i < l.length) : rd_T32 (l ++ [x]) (i : Int) = rd_T32 l (i : Int) := by
  unfold rd_T32
  simp [List.getElem?_append_left h]
end
end Go.Proofs.YtjbolkkbehfnmaaDoor.Val
