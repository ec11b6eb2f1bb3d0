/- HB, as this claim needs it. -/
import Derived.Test.YtdheakalfleleaaDoorHAq
import Derived.Test.YtdheakalfleleaaDoorPOperx0q
import Derived.Test.YtdheakalfleleaaDoorPOperx8q
namespace Go.Proofs.YtdheakalfleleaaDoor.Val
open Go.RowKit Go.Proofs.YtdheakalfleleaaDoor.POper Go.Proofs.YtdheakalfleleaaDoorW.PrintWords Go.Proofs.YtdheakalfleleaaDoorW.PrintLast Go.Proofs.YtdheakalfleleaaDoorW.PrintMore
set_option linter.unusedVariables false
set_option linter.unusedSimpArgs false
def textV (x : S23) : ByteArray :=
  if x.f0 = 0 then ⟨#[117, 110, 100, 101, 102, 105, 110, 101, 100]⟩
  else if x.f0 = 1 then ⟨#[110, 117, 108, 108]⟩
  else if x.f0 = 2 then ⟨(Lib.formatBool (x.f1 != 0)).toArray⟩
  else if x.f0 = 3 then ⟨(Lib.itoa x.f1).toArray⟩
  else if x.f0 = 4 then x.f2
  else if x.f0 = 5 then ⟨#[97, 114, 114, 97, 121]⟩
  else if x.f0 = 6 then ⟨#[111, 98, 106, 101, 99, 116]⟩
  else if x.f0 = 7 then ⟨#[102, 117, 110, 99, 116, 105, 111, 110]⟩
  else if x.f0 = 8 then ⟨#[99, 108, 97, 115, 115]⟩
  else if x.f0 = 9 then ⟨#[110, 97, 109, 101, 115, 112, 97, 99, 101]⟩
  else ⟨#[]⟩
set_option maxHeartbeats 2000000 in
set_option maxRecDepth 100000 in
theorem text_0 (w : World) [GW w] (q : Option Addr) (x : S23)  (h : x.f0 = 0) :
    Calls Tryd.prog 47 #[.pointer q, .agg #[.int .i64 x.f0, .int .i64 x.f1, .string x.f2]] w fun e w' => e = .returned (.string (⟨#[117, 110, 100, 101, 102, 105, 110, 101, 100]⟩ : ByteArray)) ∧ Below w.heap.size w w' := by
  have e0 : (x.f0 == 0) = true := beq_iff_eq.mpr h
  clear  h
  go_enter Tryd.func47, Tryd.ntmps47
  go_wp2
  go_ret
  exact ⟨rfl, below_alloc (Below.refl _ _) _⟩
set_option maxHeartbeats 2000000 in
set_option maxRecDepth 100000 in
theorem text_1 (w : World) [GW w] (q : Option Addr) (x : S23) (h0 : ¬ x.f0 = 0) (h : x.f0 = 1) :
    Calls Tryd.prog 47 #[.pointer q, .agg #[.int .i64 x.f0, .int .i64 x.f1, .string x.f2]] w fun e w' => e = .returned (.string (⟨#[110, 117, 108, 108]⟩ : ByteArray)) ∧ Below w.heap.size w w' := by
  have e0 : (x.f0 == 0) = false := beq_eq_false_iff_ne.mpr h0
  have e1 : (x.f0 == 1) = true := beq_iff_eq.mpr h
  clear h0 h
  go_enter Tryd.func47, Tryd.ntmps47
  go_wp2
  go_ret
  exact ⟨rfl, below_alloc (Below.refl _ _) _⟩
set_option maxHeartbeats 2000000 in
set_option maxRecDepth 100000 in
theorem text_2 (w : World) [GW w] (q : Option Addr) (x : S23) (h0 : ¬ x.f0 = 0) (h1 : ¬ x.f0 = 1) (h : x.f0 = 2) :
    Calls Tryd.prog 47 #[.pointer q, .agg #[.int .i64 x.f0, .int .i64 x.f1, .string x.f2]] w fun e w' => e = .returned (.string ⟨(Lib.formatBool (x.f1 != 0)).toArray⟩) ∧ Below w.heap.size w w' := by
  have e0 : (x.f0 == 0) = false := beq_eq_false_iff_ne.mpr h0
  have e1 : (x.f0 == 1) = false := beq_eq_false_iff_ne.mpr h1
  have e2 : (x.f0 == 2) = true := beq_iff_eq.mpr h
  clear h0 h1 h
  have HC := Aside0.mk (Tryd.strconv_FormatBool (x.f1 != 0))
  go_enter Tryd.func47, Tryd.ntmps47
  go_wp2_with (go_at_call 73; refine (HC.out _).mono ?_; rintro e w' ⟨rfl, hw⟩; subst hw)
  go_ret
  exact ⟨rfl, below_alloc (Below.refl _ _) _⟩
set_option maxHeartbeats 2000000 in
set_option maxRecDepth 100000 in
theorem text_3 (w : World) [GW w] (q : Option Addr) (x : S23) (h0 : ¬ x.f0 = 0) (h1 : ¬ x.f0 = 1) (h2 : ¬ x.f0 = 2) (h : x.f0 = 3) (hl : -9223372036854775808 ≤ x.f1) (hu : x.f1 ≤ 9223372036854775807) :
    Calls Tryd.prog 47 #[.pointer q, .agg #[.int .i64 x.f0, .int .i64 x.f1, .string x.f2]] w fun e w' => e = .returned (.string ⟨(Lib.itoa x.f1).toArray⟩) ∧ Below w.heap.size w w' := by
  have e0 : (x.f0 == 0) = false := beq_eq_false_iff_ne.mpr h0
  have e1 : (x.f0 == 1) = false := beq_eq_false_iff_ne.mpr h1
  have e2 : (x.f0 == 2) = false := beq_eq_false_iff_ne.mpr h2
  have e3 : (x.f0 == 3) = true := beq_iff_eq.mpr h
  clear h0 h1 h2 h
  have HC := Aside0.mk (fun w [GW w] => Tryd.strconv_Itoa x.f1 hl hu w GW.p10)
  go_enter Tryd.func47, Tryd.ntmps47
  go_wp2_with (go_at_call 74; refine (HC.out _).mono ?_; rintro e w' ⟨rfl, n, os, hw⟩; have HB := Aside0.mk (show Below (w.alloc (.cells #[.int .i64 x.f0, .int .i64 x.f1, .string x.f2] 23)).heap.size _ w' from by rw [hw]; exact Lib.below_grow _ _ (Nat.le_refl _) n os); clear hw)
  go_ret
  exact ⟨rfl, below_step (below_alloc (Below.refl _ _) _) HB.out⟩
set_option maxHeartbeats 2000000 in
set_option maxRecDepth 100000 in
theorem text_4 (w : World) [GW w] (q : Option Addr) (x : S23) (h0 : ¬ x.f0 = 0) (h1 : ¬ x.f0 = 1) (h2 : ¬ x.f0 = 2) (h3 : ¬ x.f0 = 3) (h : x.f0 = 4) :
    Calls Tryd.prog 47 #[.pointer q, .agg #[.int .i64 x.f0, .int .i64 x.f1, .string x.f2]] w fun e w' => e = .returned (.string x.f2) ∧ Below w.heap.size w w' := by
  have e0 : (x.f0 == 0) = false := beq_eq_false_iff_ne.mpr h0
  have e1 : (x.f0 == 1) = false := beq_eq_false_iff_ne.mpr h1
  have e2 : (x.f0 == 2) = false := beq_eq_false_iff_ne.mpr h2
  have e3 : (x.f0 == 3) = false := beq_eq_false_iff_ne.mpr h3
  have e4 : (x.f0 == 4) = true := beq_iff_eq.mpr h
  clear h0 h1 h2 h3 h
  go_enter Tryd.func47, Tryd.ntmps47
  go_wp2
  go_ret
  exact ⟨rfl, below_alloc (Below.refl _ _) _⟩
set_option maxHeartbeats 2000000 in
set_option maxRecDepth 100000 in
theorem text_5 (w : World) [GW w] (q : Option Addr) (x : S23) (h0 : ¬ x.f0 = 0) (h1 : ¬ x.f0 = 1) (h2 : ¬ x.f0 = 2) (h3 : ¬ x.f0 = 3) (h4 : ¬ x.f0 = 4) (h : x.f0 = 5) :
    Calls Tryd.prog 47 #[.pointer q, .agg #[.int .i64 x.f0, .int .i64 x.f1, .string x.f2]] w fun e w' => e = .returned (.string (⟨#[97, 114, 114, 97, 121]⟩ : ByteArray)) ∧ Below w.heap.size w w' := by
  have e0 : (x.f0 == 0) = false := beq_eq_false_iff_ne.mpr h0
  have e1 : (x.f0 == 1) = false := beq_eq_false_iff_ne.mpr h1
  have e2 : (x.f0 == 2) = false := beq_eq_false_iff_ne.mpr h2
  have e3 : (x.f0 == 3) = false := beq_eq_false_iff_ne.mpr h3
  have e4 : (x.f0 == 4) = false := beq_eq_false_iff_ne.mpr h4
  have e5 : (x.f0 == 5) = true := beq_iff_eq.mpr h
  clear h0 h1 h2 h3 h4 h
  go_enter Tryd.func47, Tryd.ntmps47
  go_wp2
  go_ret
  exact ⟨rfl, below_alloc (Below.refl _ _) _⟩
set_option maxHeartbeats 2000000 in
set_option maxRecDepth 100000 in
theorem text_6 (w : World) [GW w] (q : Option Addr) (x : S23) (h0 : ¬ x.f0 = 0) (h1 : ¬ x.f0 = 1) (h2 : ¬ x.f0 = 2) (h3 : ¬ x.f0 = 3) (h4 : ¬ x.f0 = 4) (h5 : ¬ x.f0 = 5) (h : x.f0 = 6) :
    Calls Tryd.prog 47 #[.pointer q, .agg #[.int .i64 x.f0, .int .i64 x.f1, .string x.f2]] w fun e w' => e = .returned (.string (⟨#[111, 98, 106, 101, 99, 116]⟩ : ByteArray)) ∧ Below w.heap.size w w' := by
  have e0 : (x.f0 == 0) = false := beq_eq_false_iff_ne.mpr h0
  have e1 : (x.f0 == 1) = false := beq_eq_false_iff_ne.mpr h1
  have e2 : (x.f0 == 2) = false := beq_eq_false_iff_ne.mpr h2
  have e3 : (x.f0 == 3) = false := beq_eq_false_iff_ne.mpr h3
  have e4 : (x.f0 == 4) = false := beq_eq_false_iff_ne.mpr h4
  have e5 : (x.f0 == 5) = false := beq_eq_false_iff_ne.mpr h5
  have e6 : (x.f0 == 6) = true := beq_iff_eq.mpr h
  clear h0 h1 h2 h3 h4 h5 h
  go_enter Tryd.func47, Tryd.ntmps47
  go_wp2
  go_ret
  exact ⟨rfl, below_alloc (Below.refl _ _) _⟩
set_option maxHeartbeats 2000000 in
set_option maxRecDepth 100000 in
theorem text_7 (w : World) [GW w] (q : Option Addr) (x : S23) (h0 : ¬ x.f0 = 0) (h1 : ¬ x.f0 = 1) (h2 : ¬ x.f0 = 2) (h3 : ¬ x.f0 = 3) (h4 : ¬ x.f0 = 4) (h5 : ¬ x.f0 = 5) (h6 : ¬ x.f0 = 6) (h : x.f0 = 7) :
    Calls Tryd.prog 47 #[.pointer q, .agg #[.int .i64 x.f0, .int .i64 x.f1, .string x.f2]] w fun e w' => e = .returned (.string (⟨#[102, 117, 110, 99, 116, 105, 111, 110]⟩ : ByteArray)) ∧ Below w.heap.size w w' := by
  have e0 : (x.f0 == 0) = false := beq_eq_false_iff_ne.mpr h0
  have e1 : (x.f0 == 1) = false := beq_eq_false_iff_ne.mpr h1
  have e2 : (x.f0 == 2) = false := beq_eq_false_iff_ne.mpr h2
  have e3 : (x.f0 == 3) = false := beq_eq_false_iff_ne.mpr h3
  have e4 : (x.f0 == 4) = false := beq_eq_false_iff_ne.mpr h4
  have e5 : (x.f0 == 5) = false := beq_eq_false_iff_ne.mpr h5
  have e6 : (x.f0 == 6) = false := beq_eq_false_iff_ne.mpr h6
  have e7 : (x.f0 == 7) = true := beq_iff_eq.mpr h
  clear h0 h1 h2 h3 h4 h5 h6 h
  go_enter Tryd.func47, Tryd.ntmps47
  go_wp2
  go_ret
  exact ⟨rfl, below_alloc (Below.refl _ _) _⟩
set_option maxHeartbeats 2000000 in
set_option maxRecDepth 100000 in
theorem text_8 (w : World) [GW w] (q : Option Addr) (x : S23) (h0 : ¬ x.f0 = 0) (h1 : ¬ x.f0 = 1) (h2 : ¬ x.f0 = 2) (h3 : ¬ x.f0 = 3) (h4 : ¬ x.f0 = 4) (h5 : ¬ x.f0 = 5) (h6 : ¬ x.f0 = 6) (h7 : ¬ x.f0 = 7) (h : x.f0 = 8) :
    Calls Tryd.prog 47 #[.pointer q, .agg #[.int .i64 x.f0, .int .i64 x.f1, .string x.f2]] w fun e w' => e = .returned (.string (⟨#[99, 108, 97, 115, 115]⟩ : ByteArray)) ∧ Below w.heap.size w w' := by
  have e0 : (x.f0 == 0) = false := beq_eq_false_iff_ne.mpr h0
  have e1 : (x.f0 == 1) = false := beq_eq_false_iff_ne.mpr h1
  have e2 : (x.f0 == 2) = false := beq_eq_false_iff_ne.mpr h2
  have e3 : (x.f0 == 3) = false := beq_eq_false_iff_ne.mpr h3
  have e4 : (x.f0 == 4) = false := beq_eq_false_iff_ne.mpr h4
  have e5 : (x.f0 == 5) = false := beq_eq_false_iff_ne.mpr h5
  have e6 : (x.f0 == 6) = false := beq_eq_false_iff_ne.mpr h6
  have e7 : (x.f0 == 7) = false := beq_eq_false_iff_ne.mpr h7
  have e8 : (x.f0 == 8) = true := beq_iff_eq.mpr h
  clear h0 h1 h2 h3 h4 h5 h6 h7 h
  go_enter Tryd.func47, Tryd.ntmps47
  go_wp2
  go_ret
  exact ⟨rfl, below_alloc (Below.refl _ _) _⟩
set_option maxHeartbeats 2000000 in
set_option maxRecDepth 100000 in
theorem text_9 (w : World) [GW w] (q : Option Addr) (x : S23) (h0 : ¬ x.f0 = 0) (h1 : ¬ x.f0 = 1) (h2 : ¬ x.f0 = 2) (h3 : ¬ x.f0 = 3) (h4 : ¬ x.f0 = 4) (h5 : ¬ x.f0 = 5) (h6 : ¬ x.f0 = 6) (h7 : ¬ x.f0 = 7) (h8 : ¬ x.f0 = 8) (h : x.f0 = 9) :
    Calls Tryd.prog 47 #[.pointer q, .agg #[.int .i64 x.f0, .int .i64 x.f1, .string x.f2]] w fun e w' => e = .returned (.string (⟨#[110, 97, 109, 101, 115, 112, 97, 99, 101]⟩ : ByteArray)) ∧ Below w.heap.size w w' := by
  have e0 : (x.f0 == 0) = false := beq_eq_false_iff_ne.mpr h0
  have e1 : (x.f0 == 1) = false := beq_eq_false_iff_ne.mpr h1
  have e2 : (x.f0 == 2) = false := beq_eq_false_iff_ne.mpr h2
  have e3 : (x.f0 == 3) = false := beq_eq_false_iff_ne.mpr h3
  have e4 : (x.f0 == 4) = false := beq_eq_false_iff_ne.mpr h4
  have e5 : (x.f0 == 5) = false := beq_eq_false_iff_ne.mpr h5
  have e6 : (x.f0 == 6) = false := beq_eq_false_iff_ne.mpr h6
  have e7 : (x.f0 == 7) = false := beq_eq_false_iff_ne.mpr h7
  have e8 : (x.f0 == 8) = false := beq_eq_false_iff_ne.mpr h8
  have e9 : (x.f0 == 9) = true := beq_iff_eq.mpr h
  clear h0 h1 h2 h3 h4 h5 h6 h7 h8 h
  go_enter Tryd.func47, Tryd.ntmps47
  go_wp2
  go_ret
  exact ⟨rfl, below_alloc (Below.refl _ _) _⟩
set_option maxHeartbeats 2000000 in
set_option maxRecDepth 100000 in
theorem text_x (w : World) [GW w] (q : Option Addr) (x : S23) (h0 : ¬ x.f0 = 0) (h1 : ¬ x.f0 = 1) (h2 : ¬ x.f0 = 2) (h3 : ¬ x.f0 = 3) (h4 : ¬ x.f0 = 4) (h5 : ¬ x.f0 = 5) (h6 : ¬ x.f0 = 6) (h7 : ¬ x.f0 = 7) (h8 : ¬ x.f0 = 8) (h9 : ¬ x.f0 = 9) :
    Calls Tryd.prog 47 #[.pointer q, .agg #[.int .i64 x.f0, .int .i64 x.f1, .string x.f2]] w fun e w' => e = .returned (.string (⟨#[]⟩ : ByteArray)) ∧ Below w.heap.size w w' := by
  have e0 : (x.f0 == 0) = false := beq_eq_false_iff_ne.mpr h0
  have e1 : (x.f0 == 1) = false := beq_eq_false_iff_ne.mpr h1
  have e2 : (x.f0 == 2) = false := beq_eq_false_iff_ne.mpr h2
  have e3 : (x.f0 == 3) = false := beq_eq_false_iff_ne.mpr h3
  have e4 : (x.f0 == 4) = false := beq_eq_false_iff_ne.mpr h4
  have e5 : (x.f0 == 5) = false := beq_eq_false_iff_ne.mpr h5
  have e6 : (x.f0 == 6) = false := beq_eq_false_iff_ne.mpr h6
  have e7 : (x.f0 == 7) = false := beq_eq_false_iff_ne.mpr h7
  have e8 : (x.f0 == 8) = false := beq_eq_false_iff_ne.mpr h8
  have e9 : (x.f0 == 9) = false := beq_eq_false_iff_ne.mpr h9
  clear h0 h1 h2 h3 h4 h5 h6 h7 h8 h9
  go_enter Tryd.func47, Tryd.ntmps47
  go_wp2
  go_ret
  exact ⟨rfl, below_alloc (Below.refl _ _) _⟩
theorem text_calls (w : World) [GW w] (q : Option Addr) (x : S23) (hl : -9223372036854775808 ≤ x.f1) (hu : x.f1 ≤ 9223372036854775807) :
    Calls Tryd.prog 47 #[.pointer q, .agg #[.int .i64 x.f0, .int .i64 x.f1, .string x.f2]] w fun e w' => e = .returned (.string (textV x)) ∧ Below w.heap.size w w' := by
  unfold textV
  by_cases h0 : x.f0 = 0
  · rw [if_pos h0]; exact text_0 w q x  h0
  rw [if_neg h0]
  by_cases h1 : x.f0 = 1
  · rw [if_pos h1]; exact text_1 w q x h0 h1
  rw [if_neg h1]
  by_cases h2 : x.f0 = 2
  · rw [if_pos h2]; exact text_2 w q x h0 h1 h2
  rw [if_neg h2]
  by_cases h3 : x.f0 = 3
  · rw [if_pos h3]; exact text_3 w q x h0 h1 h2 h3 hl hu
  rw [if_neg h3]
  by_cases h4 : x.f0 = 4
  · rw [if_pos h4]; exact text_4 w q x h0 h1 h2 h3 h4
  rw [if_neg h4]
  by_cases h5 : x.f0 = 5
  · rw [if_pos h5]; exact text_5 w q x h0 h1 h2 h3 h4 h5
  rw [if_neg h5]
  by_cases h6 : x.f0 = 6
  · rw [if_pos h6]; exact text_6 w q x h0 h1 h2 h3 h4 h5 h6
  rw [if_neg h6]
  by_cases h7 : x.f0 = 7
  · rw [if_pos h7]; exact text_7 w q x h0 h1 h2 h3 h4 h5 h6 h7
  rw [if_neg h7]
  by_cases h8 : x.f0 = 8
  · rw [if_pos h8]; exact text_8 w q x h0 h1 h2 h3 h4 h5 h6 h7 h8
  rw [if_neg h8]
  by_cases h9 : x.f0 = 9
  · rw [if_pos h9]; exact text_9 w q x h0 h1 h2 h3 h4 h5 h6 h7 h8 h9
  rw [if_neg h9]
  exact text_x w q x h0 h1 h2 h3 h4 h5 h6 h7 h8 h9
end Go.Proofs.YtdheakalfleleaaDoor.Val
