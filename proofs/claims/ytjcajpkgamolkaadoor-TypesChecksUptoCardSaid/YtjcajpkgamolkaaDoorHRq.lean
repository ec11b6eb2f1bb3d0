/- HR, as this claim needs it. -/
import Derived.Test.YtjcajpkgamolkaaDoorHCq
namespace Go.Proofs.YtjcajpkgamolkaaDoor.Ty
open Go.RowKit Go.Proofs.YtjcajpkgamolkaaDoor.PTyp Go.Proofs.YtjcajpkgamolkaaDoorW.PrintWords Go.Proofs.YtjcajpkgamolkaaDoorW.PrintLast Go.Proofs.YtjcajpkgamolkaaDoorW.PrintMore
set_option linter.unusedVariables false
set_option linter.unusedSimpArgs false
def RShowOk (t : Ty) : Prop := ∀ (A2 : Option Addr) (c2 : Nat) (A3 : Option Addr) (c3 : Nat) (W : World), RowsT W t A2 c2 A3 c3 → Calls Tryd.prog 39 #[.agg #[.int .i64 t.f0, .int .i64 t.f1, .slice A2 t.f2.length c2, .slice A3 t.f3.length c3]] W fun e w' => e = .returned (.string (showT t)) ∧ Below W.heap.size W w'
set_option maxHeartbeats 1000000 in
set_option maxRecDepth 100000 in
theorem rin_true (t : Ty) (h : RShowOk t) (hs : (showT t).size ≤ 70368744177664) (A2 A3 : Option Addr) (c2 c3 : Nat) (w : World) (hr : RowsT w t A2 c2 A3 c3) :
    Calls Tryd.prog 58 #[.agg #[.int .i64 t.f0, .int .i64 t.f1, .slice A2 t.f2.length c2, .slice A3 t.f3.length c3], .bool true] w fun e w' => e = .returned (.string (inT [9] t)) ∧ Below w.heap.size w w' := by
  have hu25 := Tryd.underlying25
  have H := Aside0.mk h
  have HR := Aside0.mk hr
  have hB := Aside0.mk (below_alloc (Below.refl w.heap.size w) (.cells #[.int .i64 t.f0, .int .i64 t.f1, .slice A2 t.f2.length c2, .slice A3 t.f3.length c3] 25))
  have B0 := Aside0.mk (heap_alloc_new w (.cells #[.int .i64 t.f0, .int .i64 t.f1, .slice A2 t.f2.length c2, .slice A3 t.f3.length c3] 25))
  have t0 : (w.alloc (.cells #[.int .i64 t.f0, .int .i64 t.f1, .slice A2 t.f2.length c2, .slice A3 t.f3.length c3] 25)).cell? ⟨w.heap.size, 0, none⟩ = some (.int .i64 t.f0) := (blk_cell B0.out 0).trans rfl
  have t1 : (w.alloc (.cells #[.int .i64 t.f0, .int .i64 t.f1, .slice A2 t.f2.length c2, .slice A3 t.f3.length c3] 25)).cell? ⟨w.heap.size, 1, none⟩ = some (.int .i64 t.f1) := (blk_cell B0.out 1).trans rfl
  have t2 : (w.alloc (.cells #[.int .i64 t.f0, .int .i64 t.f1, .slice A2 t.f2.length c2, .slice A3 t.f3.length c3] 25)).cell? ⟨w.heap.size, 2, none⟩ = some (.slice A2 t.f2.length c2) := (blk_cell B0.out 2).trans rfl
  have t3 : (w.alloc (.cells #[.int .i64 t.f0, .int .i64 t.f1, .slice A2 t.f2.length c2, .slice A3 t.f3.length c3] 25)).cell? ⟨w.heap.size, 3, none⟩ = some (.slice A3 t.f3.length c3) := (blk_cell B0.out 3).trans rfl
  have hs1 : (9223372036854775807 < 1 + (showT t).size) = False := eq_false (by omega)
  clear h hr
  by_cases h9 : t.f0 = 9
  · have g9 : (t.f0 == 9) = true := by simp [h9]
    have HI : Aside0 (inT [9] t = brackB (showT t)) := ⟨by rw [inT_is, if_pos (by simp [h9])]⟩
    clear h9
    go_enter Tryd.func58, Tryd.ntmps58
    go_wp2_with (go_at_call 39; refine holdT_ ?_)
    unfold HeldT
    refine (H.out A2 c2 A3 c3 _ (HR.out.below hB.out)).mono ?_
    rintro e w1 ⟨rfl, hb⟩
    go_wp2
    go_ret
    exact ⟨by rw [HI.out]; rfl, below_step hB.out hb⟩
  · have g9 : (t.f0 == 9) = false := by simp [h9]
    have HI : Aside0 (inT [9] t = showT t) := ⟨by rw [inT_is, if_neg (by simp [h9])]⟩
    clear h9
    go_enter Tryd.func58, Tryd.ntmps58
    go_wp2_with (go_at_call 39; refine holdT_ ?_)
    unfold HeldT
    refine (H.out A2 c2 A3 c3 _ (HR.out.below hB.out)).mono ?_
    rintro e w1 ⟨rfl, hb⟩
    go_wp2
    go_ret
    exact ⟨by rw [HI.out]; rfl, below_step hB.out hb⟩
set_option maxHeartbeats 1000000 in
set_option maxRecDepth 100000 in
theorem rin_false (t : Ty) (h : RShowOk t) (hs : (showT t).size ≤ 70368744177664) (A2 A3 : Option Addr) (c2 c3 : Nat) (w : World) (hr : RowsT w t A2 c2 A3 c3) :
    Calls Tryd.prog 58 #[.agg #[.int .i64 t.f0, .int .i64 t.f1, .slice A2 t.f2.length c2, .slice A3 t.f3.length c3], .bool false] w fun e w' => e = .returned (.string (inT [10, 9] t)) ∧ Below w.heap.size w w' := by
  have hu25 := Tryd.underlying25
  have H := Aside0.mk h
  have HR := Aside0.mk hr
  have hB := Aside0.mk (below_alloc (Below.refl w.heap.size w) (.cells #[.int .i64 t.f0, .int .i64 t.f1, .slice A2 t.f2.length c2, .slice A3 t.f3.length c3] 25))
  have B0 := Aside0.mk (heap_alloc_new w (.cells #[.int .i64 t.f0, .int .i64 t.f1, .slice A2 t.f2.length c2, .slice A3 t.f3.length c3] 25))
  have t0 : (w.alloc (.cells #[.int .i64 t.f0, .int .i64 t.f1, .slice A2 t.f2.length c2, .slice A3 t.f3.length c3] 25)).cell? ⟨w.heap.size, 0, none⟩ = some (.int .i64 t.f0) := (blk_cell B0.out 0).trans rfl
  have t1 : (w.alloc (.cells #[.int .i64 t.f0, .int .i64 t.f1, .slice A2 t.f2.length c2, .slice A3 t.f3.length c3] 25)).cell? ⟨w.heap.size, 1, none⟩ = some (.int .i64 t.f1) := (blk_cell B0.out 1).trans rfl
  have t2 : (w.alloc (.cells #[.int .i64 t.f0, .int .i64 t.f1, .slice A2 t.f2.length c2, .slice A3 t.f3.length c3] 25)).cell? ⟨w.heap.size, 2, none⟩ = some (.slice A2 t.f2.length c2) := (blk_cell B0.out 2).trans rfl
  have t3 : (w.alloc (.cells #[.int .i64 t.f0, .int .i64 t.f1, .slice A2 t.f2.length c2, .slice A3 t.f3.length c3] 25)).cell? ⟨w.heap.size, 3, none⟩ = some (.slice A3 t.f3.length c3) := (blk_cell B0.out 3).trans rfl
  have hs1 : (9223372036854775807 < 1 + (showT t).size) = False := eq_false (by omega)
  clear h hr
  by_cases h9 : t.f0 = 9
  · have g9 : (t.f0 == 9) = true := by simp [h9]
    have HI : Aside0 (inT [10, 9] t = brackB (showT t)) := ⟨by rw [inT_is, if_pos (by simp [h9])]⟩
    clear h9
    go_enter Tryd.func58, Tryd.ntmps58
    go_wp2_with (go_at_call 39; refine holdT_ ?_)
    unfold HeldT
    refine (H.out A2 c2 A3 c3 _ (HR.out.below hB.out)).mono ?_
    rintro e w1 ⟨rfl, hb⟩
    go_wp2
    go_ret
    exact ⟨by rw [HI.out]; rfl, below_step hB.out hb⟩
  · have g9 : (t.f0 == 9) = false := by simp [h9]
    by_cases h10 : t.f0 = 10
    · have g10 : (t.f0 == 10) = true := by simp [h10]
      have HI : Aside0 (inT [10, 9] t = brackB (showT t)) := ⟨by rw [inT_is, if_pos (by simp [h10])]⟩
      clear h9 h10
      go_enter Tryd.func58, Tryd.ntmps58
      go_wp2_with (go_at_call 39; refine holdT_ ?_)
      unfold HeldT
      refine (H.out A2 c2 A3 c3 _ (HR.out.below hB.out)).mono ?_
      rintro e w1 ⟨rfl, hb⟩
      go_wp2
      go_ret
      exact ⟨by rw [HI.out]; rfl, below_step hB.out hb⟩
    · have g10 : (t.f0 == 10) = false := by simp [h10]
      have HI : Aside0 (inT [10, 9] t = showT t) := ⟨by rw [inT_is, if_neg (by simp [h9, h10])]⟩
      clear h9 h10
      go_enter Tryd.func58, Tryd.ntmps58
      go_wp2_with (go_at_call 39; refine holdT_ ?_)
      unfold HeldT
      refine (H.out A2 c2 A3 c3 _ (HR.out.below hB.out)).mono ?_
      rintro e w1 ⟨rfl, hb⟩
      go_wp2
      go_ret
      exact ⟨by rw [HI.out]; rfl, below_step hB.out hb⟩
theorem itoaB_nat (u : Nat) : itoaB (u : Int) = ⟨(Lib.decDigits u).toArray⟩ := by unfold itoaB; rw [Lib.itoa_nonneg]
theorem dec_big {u : Nat} (h : ¬ u < 10) : itoaB (u : Int) = itoaB ((u / 10 : Nat) : Int) ++ (⟨#[UInt8.ofNat (48 + u % 10)]⟩ : ByteArray) := by
  rw [itoaB_nat, itoaB_nat, Lib.decDigits, dif_neg h]
  apply ByteArray.ext
  simp
theorem dec_small {u : Nat} (h : u < 10) : itoaB (u : Int) = (⟨#[UInt8.ofNat (48 + u)]⟩ : ByteArray) := by
  rw [itoaB_nat, Lib.decDigits, dif_pos h]
set_option maxHeartbeats 1000000 in
set_option maxRecDepth 100000 in
theorem digits_calls : ∀ (u : Nat), u ≤ 9223372036854775807 → ∀ (w : World), Calls Tryd.prog 59 #[.int .i64 u] w fun e w' => e = .returned (.string (itoaB u)) ∧ Below w.heap.size w w' := by
  intro u
  induction u using Nat.strongRecOn with
  | _ u ih =>
  intro hu w
  have IH := Aside0.mk ih
  clear ih
  have hcv : (convert 51 9 (.slice (some ⟨w.heap.size, 0, none⟩) 1 1)).run Tryd.prog (w.alloc (.cells #[.int .u8 (48 + (u : Int) % 10)] 5)) = .ok (.string ⟨#[UInt8.ofNat (48 + u % 10)]⟩) (w.alloc (.cells #[.int .u8 (48 + (u : Int) % 10)] 5)) := by
    have hc := run_convert_bytes_arg (P := Tryd.prog) (w.alloc (.cells #[.int .u8 (48 + (u : Int) % 10)] 5)) 51 5 Tryd.underlying51 Tryd.underlying5 w.heap.size 0 1 1 [48 + (u : Int) % 10] rfl (fun i hi => by
      obtain rfl : i = 0 := by omega
      exact (blk_cell (heap_alloc_new w (.cells #[.int .u8 (48 + (u : Int) % 10)] 5)) 0).trans rfl) 9 Tryd.underlying9
    rw [hc]
    have e : (48 + (u : Int) % 10).toNat = 48 + u % 10 := by omega
    simp only [strOfNums, List.map_cons, List.map_nil, e]
  have hB := Aside0.mk (below_alloc (Below.refl w.heap.size w) (.cells #[.int .u8 (48 + (u : Int) % 10)] 5))
  by_cases h9 : u < 10
  · have g9 : ((u : Int) > 9) = False := by simp; omega
    have HD : Aside0 (itoaB (u : Int) = ⟨#[UInt8.ofNat (48 + u % 10)]⟩) := ⟨by rw [dec_small h9, Nat.mod_eq_of_lt h9]⟩
    generalize UInt8.ofNat (48 + u % 10) = z at *
    go_enter Tryd.func59, Tryd.ntmps59
    go_wp2
    go_ret
    exact ⟨by rw [HD.out]; rfl, hB.out⟩
  · have g9 : ((u : Int) > 9) = True := by simp; omega
    have HD := Aside0.mk (dec_big h9)
    generalize UInt8.ofNat (48 + u % 10) = z at *
    go_enter Tryd.func59, Tryd.ntmps59
    go_wp2_with (go_at_call 59; refine holdT_ ?_)
    unfold HeldT
    refine (IH.out (u / 10) (by omega) (by omega) _).mono ?_
    rintro e w1 ⟨rfl, hb⟩
    have hz := itoaB_size ((u / 10 : Nat) : Int) (by omega)
    have hs1 : (9223372036854775807 < (itoaB ((u / 10 : Nat) : Int)).size + 1) = False := eq_false (by omega)
    clear hz
    generalize itoaB ((u / 10 : Nat) : Int) = D at *
    go_wp2
    go_ret
    exact ⟨by rw [HD.out]; rfl, below_step hB.out hb⟩
end Go.Proofs.YtjcajpkgamolkaaDoor.Ty
namespace Go.Proofs.YtjcajpkgamolkaaDoor.Ty
open Go.RowKit Go.Proofs.YtjcajpkgamolkaaDoor.PTyp Go.Proofs.YtjcajpkgamolkaaDoorW.PrintWords Go.Proofs.YtjcajpkgamolkaaDoorW.PrintLast Go.Proofs.YtjcajpkgamolkaaDoorW.PrintMore
set_option linter.unusedVariables false
set_option linter.unusedSimpArgs false
theorem recB_pos {ns xs : List ByteArray} (h : 0 < xs.length) : recB ns xs = ((⟨#[123]⟩ : ByteArray) ++ slotsB ns xs) ++ (⟨#[32, 125]⟩ : ByteArray) := by
  show (if 0 < xs.length then ((⟨#[123]⟩ : ByteArray) ++ slotsB ns xs) ++ (⟨#[32]⟩ : ByteArray) else (⟨#[123]⟩ : ByteArray) ++ slotsB ns xs) ++ (⟨#[125]⟩ : ByteArray) = _
  rw [if_pos h, ByteArray.append_assoc (b := ⟨#[32]⟩)]
  rfl
theorem joinB_nil (s : ByteArray) : joinB [] s = ⟨#[]⟩ := rfl
theorem empty_app (x : ByteArray) : (⟨#[]⟩ : ByteArray) ++ x = x := ByteArray.empty_append
theorem joinB_next (s : ByteArray) : ∀ (xs : List ByteArray) (i : Nat) (h : i < xs.length), joinB (xs.take (i + 1)) s = (if 0 < i then joinB (xs.take i) s ++ s else joinB (xs.take i) s) ++ xs[i]
  | [x], 0, _ => by
    rw [if_neg (by omega), List.take_zero, joinB_nil, empty_app]
    simp [joinB, Lib.join_one]
  | [x], i + 1, h => by simp at h
  | x :: y :: r, 0, _ => by
    rw [if_neg (by omega), List.take_zero, joinB_nil, empty_app]
    simp [joinB, Lib.join_one]
  | x :: y :: r, i + 1, h => by
    have ih := joinB_next s (y :: r) i (by simpa using h)
    have e : ∀ n, joinB ((x :: y :: r).take (n + 2)) s = x ++ (s ++ joinB ((y :: r).take (n + 1)) s) := fun n => by
      simp only [joinB, List.take_succ_cons, List.map_cons, join_two]
      apply ByteArray.ext
      simp
    rw [e, ih, if_pos (Nat.succ_pos i)]
    cases i with
    | zero =>
      rw [if_neg (Nat.lt_irrefl 0), List.take_zero, joinB_nil, empty_app]
      simp [joinB, Lib.join_one, ByteArray.append_assoc]
    | succ i =>
      rw [if_pos (Nat.succ_pos i), e]
      simp [ByteArray.append_assoc]
set_option maxHeartbeats 400000 in
set_option maxRecDepth 100000 in
theorem rshow_word1 (A2 A3 : Option Addr) (c2 c3 : Nat) (w : World) : Calls Tryd.prog 39 #[agT 1 0 A2 0 c2 A3 0 c3] w fun e w' => e = .returned (.string (showT ⟨1, 0, [], []⟩)) ∧ Below w.heap.size w w' := by
  have hu25 := Tryd.underlying25
  have hB := Aside0.mk (below_alloc (Below.refl w.heap.size w) (.cells #[.int .i64 1, .int .i64 0, .slice A2 0 c2, .slice A3 0 c3] 25))
  have B0 := Aside0.mk (heap_alloc_new w (.cells #[.int .i64 1, .int .i64 0, .slice A2 0 c2, .slice A3 0 c3] 25))
  have t0 : (w.alloc (.cells #[.int .i64 1, .int .i64 0, .slice A2 0 c2, .slice A3 0 c3] 25)).cell? ⟨w.heap.size, 0, none⟩ = some (.int .i64 1) := (blk_cell B0.out 0).trans rfl
  have t1 : (w.alloc (.cells #[.int .i64 1, .int .i64 0, .slice A2 0 c2, .slice A3 0 c3] 25)).cell? ⟨w.heap.size, 1, none⟩ = some (.int .i64 0) := (blk_cell B0.out 1).trans rfl
  have t2 : (w.alloc (.cells #[.int .i64 1, .int .i64 0, .slice A2 0 c2, .slice A3 0 c3] 25)).cell? ⟨w.heap.size, 2, none⟩ = some (.slice A2 0 c2) := (blk_cell B0.out 2).trans rfl
  have t3 : (w.alloc (.cells #[.int .i64 1, .int .i64 0, .slice A2 0 c2, .slice A3 0 c3] 25)).cell? ⟨w.heap.size, 3, none⟩ = some (.slice A3 0 c3) := (blk_cell B0.out 3).trans rfl
  go_enter Tryd.func39, Tryd.ntmps39
  go_wp2
  go_ret
  exact ⟨rfl, hB.out⟩
set_option maxHeartbeats 400000 in
set_option maxRecDepth 100000 in
theorem rshow_word2 (A2 A3 : Option Addr) (c2 c3 : Nat) (w : World) : Calls Tryd.prog 39 #[agT 2 0 A2 0 c2 A3 0 c3] w fun e w' => e = .returned (.string (showT ⟨2, 0, [], []⟩)) ∧ Below w.heap.size w w' := by
  have hu25 := Tryd.underlying25
  have hB := Aside0.mk (below_alloc (Below.refl w.heap.size w) (.cells #[.int .i64 2, .int .i64 0, .slice A2 0 c2, .slice A3 0 c3] 25))
  have B0 := Aside0.mk (heap_alloc_new w (.cells #[.int .i64 2, .int .i64 0, .slice A2 0 c2, .slice A3 0 c3] 25))
  have t0 : (w.alloc (.cells #[.int .i64 2, .int .i64 0, .slice A2 0 c2, .slice A3 0 c3] 25)).cell? ⟨w.heap.size, 0, none⟩ = some (.int .i64 2) := (blk_cell B0.out 0).trans rfl
  have t1 : (w.alloc (.cells #[.int .i64 2, .int .i64 0, .slice A2 0 c2, .slice A3 0 c3] 25)).cell? ⟨w.heap.size, 1, none⟩ = some (.int .i64 0) := (blk_cell B0.out 1).trans rfl
  have t2 : (w.alloc (.cells #[.int .i64 2, .int .i64 0, .slice A2 0 c2, .slice A3 0 c3] 25)).cell? ⟨w.heap.size, 2, none⟩ = some (.slice A2 0 c2) := (blk_cell B0.out 2).trans rfl
  have t3 : (w.alloc (.cells #[.int .i64 2, .int .i64 0, .slice A2 0 c2, .slice A3 0 c3] 25)).cell? ⟨w.heap.size, 3, none⟩ = some (.slice A3 0 c3) := (blk_cell B0.out 3).trans rfl
  go_enter Tryd.func39, Tryd.ntmps39
  go_wp2
  go_ret
  exact ⟨rfl, hB.out⟩
set_option maxHeartbeats 400000 in
set_option maxRecDepth 100000 in
theorem rshow_word3 (A2 A3 : Option Addr) (c2 c3 : Nat) (w : World) : Calls Tryd.prog 39 #[agT 3 0 A2 0 c2 A3 0 c3] w fun e w' => e = .returned (.string (showT ⟨3, 0, [], []⟩)) ∧ Below w.heap.size w w' := by
  have hu25 := Tryd.underlying25
  have hB := Aside0.mk (below_alloc (Below.refl w.heap.size w) (.cells #[.int .i64 3, .int .i64 0, .slice A2 0 c2, .slice A3 0 c3] 25))
  have B0 := Aside0.mk (heap_alloc_new w (.cells #[.int .i64 3, .int .i64 0, .slice A2 0 c2, .slice A3 0 c3] 25))
  have t0 : (w.alloc (.cells #[.int .i64 3, .int .i64 0, .slice A2 0 c2, .slice A3 0 c3] 25)).cell? ⟨w.heap.size, 0, none⟩ = some (.int .i64 3) := (blk_cell B0.out 0).trans rfl
  have t1 : (w.alloc (.cells #[.int .i64 3, .int .i64 0, .slice A2 0 c2, .slice A3 0 c3] 25)).cell? ⟨w.heap.size, 1, none⟩ = some (.int .i64 0) := (blk_cell B0.out 1).trans rfl
  have t2 : (w.alloc (.cells #[.int .i64 3, .int .i64 0, .slice A2 0 c2, .slice A3 0 c3] 25)).cell? ⟨w.heap.size, 2, none⟩ = some (.slice A2 0 c2) := (blk_cell B0.out 2).trans rfl
  have t3 : (w.alloc (.cells #[.int .i64 3, .int .i64 0, .slice A2 0 c2, .slice A3 0 c3] 25)).cell? ⟨w.heap.size, 3, none⟩ = some (.slice A3 0 c3) := (blk_cell B0.out 3).trans rfl
  go_enter Tryd.func39, Tryd.ntmps39
  go_wp2
  go_ret
  exact ⟨rfl, hB.out⟩
set_option maxHeartbeats 400000 in
set_option maxRecDepth 100000 in
theorem rshow_word4 (A2 A3 : Option Addr) (c2 c3 : Nat) (w : World) : Calls Tryd.prog 39 #[agT 4 0 A2 0 c2 A3 0 c3] w fun e w' => e = .returned (.string (showT ⟨4, 0, [], []⟩)) ∧ Below w.heap.size w w' := by
  have hu25 := Tryd.underlying25
  have hB := Aside0.mk (below_alloc (Below.refl w.heap.size w) (.cells #[.int .i64 4, .int .i64 0, .slice A2 0 c2, .slice A3 0 c3] 25))
  have B0 := Aside0.mk (heap_alloc_new w (.cells #[.int .i64 4, .int .i64 0, .slice A2 0 c2, .slice A3 0 c3] 25))
  have t0 : (w.alloc (.cells #[.int .i64 4, .int .i64 0, .slice A2 0 c2, .slice A3 0 c3] 25)).cell? ⟨w.heap.size, 0, none⟩ = some (.int .i64 4) := (blk_cell B0.out 0).trans rfl
  have t1 : (w.alloc (.cells #[.int .i64 4, .int .i64 0, .slice A2 0 c2, .slice A3 0 c3] 25)).cell? ⟨w.heap.size, 1, none⟩ = some (.int .i64 0) := (blk_cell B0.out 1).trans rfl
  have t2 : (w.alloc (.cells #[.int .i64 4, .int .i64 0, .slice A2 0 c2, .slice A3 0 c3] 25)).cell? ⟨w.heap.size, 2, none⟩ = some (.slice A2 0 c2) := (blk_cell B0.out 2).trans rfl
  have t3 : (w.alloc (.cells #[.int .i64 4, .int .i64 0, .slice A2 0 c2, .slice A3 0 c3] 25)).cell? ⟨w.heap.size, 3, none⟩ = some (.slice A3 0 c3) := (blk_cell B0.out 3).trans rfl
  go_enter Tryd.func39, Tryd.ntmps39
  go_wp2
  go_ret
  exact ⟨rfl, hB.out⟩
set_option maxHeartbeats 400000 in
set_option maxRecDepth 100000 in
theorem rshow_word5 (A2 A3 : Option Addr) (c2 c3 : Nat) (w : World) : Calls Tryd.prog 39 #[agT 5 0 A2 0 c2 A3 0 c3] w fun e w' => e = .returned (.string (showT ⟨5, 0, [], []⟩)) ∧ Below w.heap.size w w' := by
  have hu25 := Tryd.underlying25
  have hB := Aside0.mk (below_alloc (Below.refl w.heap.size w) (.cells #[.int .i64 5, .int .i64 0, .slice A2 0 c2, .slice A3 0 c3] 25))
  have B0 := Aside0.mk (heap_alloc_new w (.cells #[.int .i64 5, .int .i64 0, .slice A2 0 c2, .slice A3 0 c3] 25))
  have t0 : (w.alloc (.cells #[.int .i64 5, .int .i64 0, .slice A2 0 c2, .slice A3 0 c3] 25)).cell? ⟨w.heap.size, 0, none⟩ = some (.int .i64 5) := (blk_cell B0.out 0).trans rfl
  have t1 : (w.alloc (.cells #[.int .i64 5, .int .i64 0, .slice A2 0 c2, .slice A3 0 c3] 25)).cell? ⟨w.heap.size, 1, none⟩ = some (.int .i64 0) := (blk_cell B0.out 1).trans rfl
  have t2 : (w.alloc (.cells #[.int .i64 5, .int .i64 0, .slice A2 0 c2, .slice A3 0 c3] 25)).cell? ⟨w.heap.size, 2, none⟩ = some (.slice A2 0 c2) := (blk_cell B0.out 2).trans rfl
  have t3 : (w.alloc (.cells #[.int .i64 5, .int .i64 0, .slice A2 0 c2, .slice A3 0 c3] 25)).cell? ⟨w.heap.size, 3, none⟩ = some (.slice A3 0 c3) := (blk_cell B0.out 3).trans rfl
  go_enter Tryd.func39, Tryd.ntmps39
  go_wp2
  go_ret
  exact ⟨rfl, hB.out⟩
set_option maxHeartbeats 400000 in
set_option maxRecDepth 100000 in
theorem rshow_word6 (A2 A3 : Option Addr) (c2 c3 : Nat) (w : World) : Calls Tryd.prog 39 #[agT 6 0 A2 0 c2 A3 0 c3] w fun e w' => e = .returned (.string (showT ⟨6, 0, [], []⟩)) ∧ Below w.heap.size w w' := by
  have hu25 := Tryd.underlying25
  have hB := Aside0.mk (below_alloc (Below.refl w.heap.size w) (.cells #[.int .i64 6, .int .i64 0, .slice A2 0 c2, .slice A3 0 c3] 25))
  have B0 := Aside0.mk (heap_alloc_new w (.cells #[.int .i64 6, .int .i64 0, .slice A2 0 c2, .slice A3 0 c3] 25))
  have t0 : (w.alloc (.cells #[.int .i64 6, .int .i64 0, .slice A2 0 c2, .slice A3 0 c3] 25)).cell? ⟨w.heap.size, 0, none⟩ = some (.int .i64 6) := (blk_cell B0.out 0).trans rfl
  have t1 : (w.alloc (.cells #[.int .i64 6, .int .i64 0, .slice A2 0 c2, .slice A3 0 c3] 25)).cell? ⟨w.heap.size, 1, none⟩ = some (.int .i64 0) := (blk_cell B0.out 1).trans rfl
  have t2 : (w.alloc (.cells #[.int .i64 6, .int .i64 0, .slice A2 0 c2, .slice A3 0 c3] 25)).cell? ⟨w.heap.size, 2, none⟩ = some (.slice A2 0 c2) := (blk_cell B0.out 2).trans rfl
  have t3 : (w.alloc (.cells #[.int .i64 6, .int .i64 0, .slice A2 0 c2, .slice A3 0 c3] 25)).cell? ⟨w.heap.size, 3, none⟩ = some (.slice A3 0 c3) := (blk_cell B0.out 3).trans rfl
  go_enter Tryd.func39, Tryd.ntmps39
  go_wp2
  go_ret
  exact ⟨rfl, hB.out⟩
set_option maxHeartbeats 400000 in
set_option maxRecDepth 100000 in
theorem rshow_ref11 (u : Nat) (hn : u ≤ 9223372036854775807) (A2 A3 : Option Addr) (c2 c3 : Nat) (w : World) : Calls Tryd.prog 39 #[agT 11 u A2 0 c2 A3 0 c3] w fun e w' => e = .returned (.string (showT ⟨11, u, [], []⟩)) ∧ Below w.heap.size w w' := by
  have hu25 := Tryd.underlying25
  have hB := Aside0.mk (below_alloc (Below.refl w.heap.size w) (.cells #[.int .i64 11, .int .i64 u, .slice A2 0 c2, .slice A3 0 c3] 25))
  have B0 := Aside0.mk (heap_alloc_new w (.cells #[.int .i64 11, .int .i64 u, .slice A2 0 c2, .slice A3 0 c3] 25))
  have t0 : (w.alloc (.cells #[.int .i64 11, .int .i64 u, .slice A2 0 c2, .slice A3 0 c3] 25)).cell? ⟨w.heap.size, 0, none⟩ = some (.int .i64 11) := (blk_cell B0.out 0).trans rfl
  have t1 : (w.alloc (.cells #[.int .i64 11, .int .i64 u, .slice A2 0 c2, .slice A3 0 c3] 25)).cell? ⟨w.heap.size, 1, none⟩ = some (.int .i64 u) := (blk_cell B0.out 1).trans rfl
  have t2 : (w.alloc (.cells #[.int .i64 11, .int .i64 u, .slice A2 0 c2, .slice A3 0 c3] 25)).cell? ⟨w.heap.size, 2, none⟩ = some (.slice A2 0 c2) := (blk_cell B0.out 2).trans rfl
  have t3 : (w.alloc (.cells #[.int .i64 11, .int .i64 u, .slice A2 0 c2, .slice A3 0 c3] 25)).cell? ⟨w.heap.size, 3, none⟩ = some (.slice A3 0 c3) := (blk_cell B0.out 3).trans rfl
  have hz := itoaB_size (u : Int) (by omega)
  go_enter Tryd.func39, Tryd.ntmps39
  go_wp2_with (go_at_call 59; refine holdT_ ?_)
  unfold HeldT
  refine (digits_calls u hn _).mono ?_
  rintro e w1 ⟨rfl, hb⟩
  have hs1 : (9223372036854775807 < 5 + (itoaB (u : Int)).size) = False := eq_false (by omega)
  go_wp2
  go_ret
  exact ⟨rfl, below_step hB.out hb⟩
set_option maxHeartbeats 400000 in
set_option maxRecDepth 100000 in
theorem rshow_ref12 (u : Nat) (hn : u ≤ 9223372036854775807) (A2 A3 : Option Addr) (c2 c3 : Nat) (w : World) : Calls Tryd.prog 39 #[agT 12 u A2 0 c2 A3 0 c3] w fun e w' => e = .returned (.string (showT ⟨12, u, [], []⟩)) ∧ Below w.heap.size w w' := by
  have hu25 := Tryd.underlying25
  have hB := Aside0.mk (below_alloc (Below.refl w.heap.size w) (.cells #[.int .i64 12, .int .i64 u, .slice A2 0 c2, .slice A3 0 c3] 25))
  have B0 := Aside0.mk (heap_alloc_new w (.cells #[.int .i64 12, .int .i64 u, .slice A2 0 c2, .slice A3 0 c3] 25))
  have t0 : (w.alloc (.cells #[.int .i64 12, .int .i64 u, .slice A2 0 c2, .slice A3 0 c3] 25)).cell? ⟨w.heap.size, 0, none⟩ = some (.int .i64 12) := (blk_cell B0.out 0).trans rfl
  have t1 : (w.alloc (.cells #[.int .i64 12, .int .i64 u, .slice A2 0 c2, .slice A3 0 c3] 25)).cell? ⟨w.heap.size, 1, none⟩ = some (.int .i64 u) := (blk_cell B0.out 1).trans rfl
  have t2 : (w.alloc (.cells #[.int .i64 12, .int .i64 u, .slice A2 0 c2, .slice A3 0 c3] 25)).cell? ⟨w.heap.size, 2, none⟩ = some (.slice A2 0 c2) := (blk_cell B0.out 2).trans rfl
  have t3 : (w.alloc (.cells #[.int .i64 12, .int .i64 u, .slice A2 0 c2, .slice A3 0 c3] 25)).cell? ⟨w.heap.size, 3, none⟩ = some (.slice A3 0 c3) := (blk_cell B0.out 3).trans rfl
  have hz := itoaB_size (u : Int) (by omega)
  go_enter Tryd.func39, Tryd.ntmps39
  go_wp2_with (go_at_call 59; refine holdT_ ?_)
  unfold HeldT
  refine (digits_calls u hn _).mono ?_
  rintro e w1 ⟨rfl, hb⟩
  have hs1 : (9223372036854775807 < 6 + (itoaB (u : Int)).size) = False := eq_false (by omega)
  go_wp2
  go_ret
  exact ⟨rfl, below_step hB.out hb⟩
set_option maxHeartbeats 400000 in
set_option maxRecDepth 100000 in
theorem rshow_ref13 (u : Nat) (hn : u ≤ 9223372036854775807) (A2 A3 : Option Addr) (c2 c3 : Nat) (w : World) : Calls Tryd.prog 39 #[agT 13 u A2 0 c2 A3 0 c3] w fun e w' => e = .returned (.string (showT ⟨13, u, [], []⟩)) ∧ Below w.heap.size w w' := by
  have hu25 := Tryd.underlying25
  have hB := Aside0.mk (below_alloc (Below.refl w.heap.size w) (.cells #[.int .i64 13, .int .i64 u, .slice A2 0 c2, .slice A3 0 c3] 25))
  have B0 := Aside0.mk (heap_alloc_new w (.cells #[.int .i64 13, .int .i64 u, .slice A2 0 c2, .slice A3 0 c3] 25))
  have t0 : (w.alloc (.cells #[.int .i64 13, .int .i64 u, .slice A2 0 c2, .slice A3 0 c3] 25)).cell? ⟨w.heap.size, 0, none⟩ = some (.int .i64 13) := (blk_cell B0.out 0).trans rfl
  have t1 : (w.alloc (.cells #[.int .i64 13, .int .i64 u, .slice A2 0 c2, .slice A3 0 c3] 25)).cell? ⟨w.heap.size, 1, none⟩ = some (.int .i64 u) := (blk_cell B0.out 1).trans rfl
  have t2 : (w.alloc (.cells #[.int .i64 13, .int .i64 u, .slice A2 0 c2, .slice A3 0 c3] 25)).cell? ⟨w.heap.size, 2, none⟩ = some (.slice A2 0 c2) := (blk_cell B0.out 2).trans rfl
  have t3 : (w.alloc (.cells #[.int .i64 13, .int .i64 u, .slice A2 0 c2, .slice A3 0 c3] 25)).cell? ⟨w.heap.size, 3, none⟩ = some (.slice A3 0 c3) := (blk_cell B0.out 3).trans rfl
  have hz := itoaB_size (u : Int) (by omega)
  go_enter Tryd.func39, Tryd.ntmps39
  go_wp2_with (go_at_call 59; refine holdT_ ?_)
  unfold HeldT
  refine (digits_calls u hn _).mono ?_
  rintro e w1 ⟨rfl, hb⟩
  have hs1 : (9223372036854775807 < 6 + (itoaB (u : Int)).size) = False := eq_false (by omega)
  go_wp2
  go_ret
  exact ⟨rfl, below_step hB.out hb⟩
set_option maxHeartbeats 400000 in
set_option maxRecDepth 100000 in
theorem rshow_list (y : Ty) (H : RShowOk y) (hs : (showT y).size ≤ 70368744177664) (A2 A3 : Option Addr) (m2 c2 c3 : Nat) (ns : List ByteArray) (w : World) (hr : k25.C w A3 1 [y]) : Calls Tryd.prog 39 #[agT 7 0 A2 m2 c2 A3 1 c3] w fun e w' => e = .returned (.string (showT ⟨7, 0, ns, [y]⟩)) ∧ Below w.heap.size w w' := by
  have hu25 := Tryd.underlying25
  have hB := Aside0.mk (below_alloc (Below.refl w.heap.size w) (.cells #[.int .i64 7, .int .i64 0, .slice A2 m2 c2, .slice A3 1 c3] 25))
  have B0 := Aside0.mk (heap_alloc_new w (.cells #[.int .i64 7, .int .i64 0, .slice A2 m2 c2, .slice A3 1 c3] 25))
  have t0 : (w.alloc (.cells #[.int .i64 7, .int .i64 0, .slice A2 m2 c2, .slice A3 1 c3] 25)).cell? ⟨w.heap.size, 0, none⟩ = some (.int .i64 7) := (blk_cell B0.out 0).trans rfl
  have t1 : (w.alloc (.cells #[.int .i64 7, .int .i64 0, .slice A2 m2 c2, .slice A3 1 c3] 25)).cell? ⟨w.heap.size, 1, none⟩ = some (.int .i64 0) := (blk_cell B0.out 1).trans rfl
  have t2 : (w.alloc (.cells #[.int .i64 7, .int .i64 0, .slice A2 m2 c2, .slice A3 1 c3] 25)).cell? ⟨w.heap.size, 2, none⟩ = some (.slice A2 m2 c2) := (blk_cell B0.out 2).trans rfl
  have t3 : (w.alloc (.cells #[.int .i64 7, .int .i64 0, .slice A2 m2 c2, .slice A3 1 c3] 25)).cell? ⟨w.heap.size, 3, none⟩ = some (.slice A3 1 c3) := (blk_cell B0.out 3).trans rfl
  have HT : Aside0 (showT ⟨7, 0, ns, [y]⟩ = inT [10, 9] y ++ ⟨#[91, 93]⟩) := ⟨by rw [showT_is]; rfl⟩
  have hz : (inT [10, 9] y).size ≤ (showT y).size + 2 := withinB_size _ _
  obtain ⟨ad, B2, d2, B3, d3, e, q0, q1, q2, q3, rows⟩ := at_ty (l := [y]) hr hB.out (show 0 < [y].length by simp)
  subst e
  have ROWS := Aside0.mk rows
  clear rows hr
  rw [add0] at q0 q1 q2 q3
  simp only [List.getElem_cons_zero] at q0 q1 q2 q3 ROWS
  go_enter Tryd.func39, Tryd.ntmps39
  go_wp2_with (go_at_call 58; refine holdT_ ?_)
  unfold HeldT
  refine (rin_false y H hs B2 B3 d2 d3 _ (ROWS.out.below hB.out)).mono ?_
  rintro e w1 ⟨rfl, hb⟩
  have hs1 : (9223372036854775807 < (inT [10, 9] y).size + 2) = False := eq_false (by omega)
  go_wp2
  go_ret
  exact ⟨by rw [HT.out]; rfl, below_step hB.out hb⟩
set_option maxHeartbeats 400000 in
set_option maxRecDepth 100000 in
theorem rshow_either (l : List Ty) (H : ∀ y ∈ l, RShowOk y) (hs : ∀ y ∈ l, (showT y).size ≤ 70368744177664) (hn : l.length ≤ 1099511627776) (hz2 : sumS (l.map (inT [9])) ≤ 35184372088832) (A2 A3 : Option Addr) (m2 c2 c3 : Nat) (ns : List ByteArray) (w : World) (hr : k25.C w A3 l.length l) : Calls Tryd.prog 39 #[agT 10 0 A2 m2 c2 A3 l.length c3] w fun e w' => e = .returned (.string (showT ⟨10, 0, ns, l⟩)) ∧ Below w.heap.size w w' := by
  have hu25 := Tryd.underlying25
  have hB := Aside0.mk (below_alloc (Below.refl w.heap.size w) (.cells #[.int .i64 10, .int .i64 0, .slice A2 m2 c2, .slice A3 l.length c3] 25))
  have B0 := Aside0.mk (heap_alloc_new w (.cells #[.int .i64 10, .int .i64 0, .slice A2 m2 c2, .slice A3 l.length c3] 25))
  have t0 : (w.alloc (.cells #[.int .i64 10, .int .i64 0, .slice A2 m2 c2, .slice A3 l.length c3] 25)).cell? ⟨w.heap.size, 0, none⟩ = some (.int .i64 10) := (blk_cell B0.out 0).trans rfl
  have t1 : (w.alloc (.cells #[.int .i64 10, .int .i64 0, .slice A2 m2 c2, .slice A3 l.length c3] 25)).cell? ⟨w.heap.size, 1, none⟩ = some (.int .i64 0) := (blk_cell B0.out 1).trans rfl
  have t2 : (w.alloc (.cells #[.int .i64 10, .int .i64 0, .slice A2 m2 c2, .slice A3 l.length c3] 25)).cell? ⟨w.heap.size, 2, none⟩ = some (.slice A2 m2 c2) := (blk_cell B0.out 2).trans rfl
  have t3 : (w.alloc (.cells #[.int .i64 10, .int .i64 0, .slice A2 m2 c2, .slice A3 l.length c3] 25)).cell? ⟨w.heap.size, 3, none⟩ = some (.slice A3 l.length c3) := (blk_cell B0.out 3).trans rfl
  have HT : Aside0 (showT ⟨10, 0, ns, l⟩ = joinB (l.map (inT [9])) ⟨#[32, 124, 32]⟩) := ⟨by rw [showT_is]; unfold showK; rw [if_neg (by simp), if_neg (by simp), if_neg (by simp), if_pos (by simp), List.map_map]; rfl⟩
  have HRR := Aside0.mk hr
  have HS := Aside0.mk hs
  have HH := Aside0.mk H
  have HZ2 := Aside0.mk hz2
  clear hr hs H hz2
  go_enter Tryd.func39, Tryd.ntmps39
  go_wp2
  go_loopw [3, 6] (fun v3 v6 W => ∃ i : Nat, v6 = .int .i64 i ∧ i ≤ l.length ∧ v3 = .string (joinB ((l.map (inT [9])).take i) ⟨#[32, 124, 32]⟩) ∧ Aside0 (Below w.heap.size w W) ∧ Aside0 (W.heap[w.heap.size]? = some (.cells #[.int .i64 10, .int .i64 0, .slice A2 m2 c2, .slice A3 l.length c3] 25))) (fun _ v6 _ => l.length + 1 - (RowKit.intOf v6).toNat)
  case atStart => exact ⟨0, rfl, Nat.zero_le _, by rw [List.take_zero]; rfl, ⟨hB.out⟩, ⟨B0.out⟩⟩
  case round =>
    obtain ⟨i, rfl, hin, rfl, HB, BX⟩ := hrel
    clear t0 t1 t2 t3 hB B0
    obtain ⟨⟨t0, t1, t2, t3⟩, _⟩ := box4T BX.out
    by_cases hi : i < l.length
    · have hil := hi
      obtain ⟨ad, B2, d2, B3, d3, e, q0, q1, q2, q3, rows⟩ := at_ty HRR.out HB.out hi
      have ROWS := Aside0.mk rows
      have HSi := Aside0.mk (HS.out _ (List.getElem_mem hi))
      have Hi := Aside0.mk (HH.out _ (List.getElem_mem hi))
      have HN : Aside0 (joinB ((l.map (inT [9])).take (i + 1)) ⟨#[32, 124, 32]⟩ = (if 0 < i then joinB ((l.map (inT [9])).take i) ⟨#[32, 124, 32]⟩ ++ ⟨#[32, 124, 32]⟩ else joinB ((l.map (inT [9])).take i) ⟨#[32, 124, 32]⟩) ++ inT [9] l[i]) := ⟨by
        have := joinB_next ⟨#[32, 124, 32]⟩ (l.map (inT [9])) i (by simpa using hi)
        rw [this, List.getElem_map]⟩
      have g3 : (joinB ((l.map (inT [9])).take i) ⟨#[32, 124, 32]⟩).size ≤ 70368744177664 := by
        have h1 := joinB_size ((l.map (inT [9])).take i) ⟨#[32, 124, 32]⟩
        have h2 := sumS_take (l.map (inT [9])) i
        have h3 := HZ2.out
        have h4 : ((l.map (inT [9])).take i).length ≤ l.length := by rw [List.length_take, List.length_map]; omega
        rw [z124] at h1
        omega
      have g4 : (inT [9] l[i]).size ≤ 70368744177666 := by have h1 : (inT [9] l[i]).size ≤ (showT l[i]).size + 2 := withinB_size _ _; have := HSi.out; omega
      clear rows
      generalize joinB ((l.map (inT [9])).take i) ⟨#[32, 124, 32]⟩ = S at *
      generalize l[i] = t at *
      subst e
      have hlt : ((i : Int) < (l.length : Int)) = True := by simp [hi]
      have hge : ((0 : Int) ≤ (i : Int)) = True := by simp
      by_cases hp : 0 < i
      · have hp1 : ((i : Int) > 0) = True := by simp [hp]
        have hp2 : ((0 : Int) < (i : Int)) = True := by simp [hp]
        have hs1 : (9223372036854775807 < S.size + 3 + (inT [9] t).size) = False := eq_false (by omega)
        have hs2 : (9223372036854775807 < S.size + 3) = False := eq_false (by omega)
        rw [if_pos hp] at HN
        go_wp2_with (go_at_call 58; refine holdT_ ?_)
        unfold HeldT
        refine (rin_true t Hi.out HSi.out B2 B3 d2 d3 _ (ROWS.out.below HB.out)).mono ?_
        rintro e w1 ⟨rfl, hb⟩
        have nHB := Aside0.mk (below_step HB.out hb)
        have nBX := Aside0.mk (blk_below BX.out hb)
        clear t0 t1 t2 t3 q0 q1 q2 q3
        go_wp2
        go_roundw
        case measure => simp [RowKit.intOf]; omega
        case rel => exact ⟨i + 1, by go_num, hi, by rw [HN.out], nHB, nBX⟩
      · have hp1 : ((i : Int) > 0) = False := by simp; omega
        have hp2 : ((0 : Int) < (i : Int)) = False := by simp; omega
        have hs1 : (9223372036854775807 < S.size + (inT [9] t).size) = False := eq_false (by omega)
        rw [if_neg hp] at HN
        go_wp2_with (go_at_call 58; refine holdT_ ?_)
        unfold HeldT
        refine (rin_true t Hi.out HSi.out B2 B3 d2 d3 _ (ROWS.out.below HB.out)).mono ?_
        rintro e w1 ⟨rfl, hb⟩
        have nHB := Aside0.mk (below_step HB.out hb)
        have nBX := Aside0.mk (blk_below BX.out hb)
        clear t0 t1 t2 t3 q0 q1 q2 q3
        go_wp2
        go_roundw
        case measure => simp [RowKit.intOf]; omega
        case rel => exact ⟨i + 1, by go_num, hi, by rw [HN.out], nHB, nBX⟩
    · obtain rfl : i = l.length := by omega
      have hlt : ((l.length : Int) < (l.length : Int)) = False := by simp
      have HN : Aside0 (joinB ((l.map (inT [9])).take l.length) ⟨#[32, 124, 32]⟩ = joinB (l.map (inT [9])) ⟨#[32, 124, 32]⟩) := ⟨by rw [List.take_of_length_le (by simp)]⟩
      go_wp2
      go_ret
      exact ⟨by rw [HT.out, HN.out]; rfl, HB.out⟩
set_option maxHeartbeats 400000 in
set_option maxRecDepth 100000 in
theorem rshow_recd (ns : List ByteArray) (l : List Ty) (hl : ns.length = l.length) (H : ∀ y ∈ l, RShowOk y) (hs : ∀ y ∈ l, (showT y).size ≤ 70368744177664) (hn : l.length ≤ 1099511627776) (A2 A3 : Option Addr) (c2 c3 : Nat) (hz1 : sumB ns ≤ 70368744177664) (hz2 : sumS (l.map (inT [])) ≤ 70368744177664) (w : World) (hr2 : Kd.string.C w A2 ns.length ns) (hr : k25.C w A3 l.length l) : Calls Tryd.prog 39 #[agT 8 0 A2 ns.length c2 A3 l.length c3] w fun e w' => e = .returned (.string (showT ⟨8, 0, ns, l⟩)) ∧ Below w.heap.size w w' := by
  have hu25 := Tryd.underlying25
  have hB := Aside0.mk (below_alloc (Below.refl w.heap.size w) (.cells #[.int .i64 8, .int .i64 0, .slice A2 ns.length c2, .slice A3 l.length c3] 25))
  have B0 := Aside0.mk (heap_alloc_new w (.cells #[.int .i64 8, .int .i64 0, .slice A2 ns.length c2, .slice A3 l.length c3] 25))
  have t0 : (w.alloc (.cells #[.int .i64 8, .int .i64 0, .slice A2 ns.length c2, .slice A3 l.length c3] 25)).cell? ⟨w.heap.size, 0, none⟩ = some (.int .i64 8) := (blk_cell B0.out 0).trans rfl
  have t1 : (w.alloc (.cells #[.int .i64 8, .int .i64 0, .slice A2 ns.length c2, .slice A3 l.length c3] 25)).cell? ⟨w.heap.size, 1, none⟩ = some (.int .i64 0) := (blk_cell B0.out 1).trans rfl
  have t2 : (w.alloc (.cells #[.int .i64 8, .int .i64 0, .slice A2 ns.length c2, .slice A3 l.length c3] 25)).cell? ⟨w.heap.size, 2, none⟩ = some (.slice A2 ns.length c2) := (blk_cell B0.out 2).trans rfl
  have t3 : (w.alloc (.cells #[.int .i64 8, .int .i64 0, .slice A2 ns.length c2, .slice A3 l.length c3] 25)).cell? ⟨w.heap.size, 3, none⟩ = some (.slice A3 l.length c3) := (blk_cell B0.out 3).trans rfl
  have HT : Aside0 (showT ⟨8, 0, ns, l⟩ = recB ns (l.map (inT []))) := ⟨by rw [showT_is]; unfold showK; rw [if_neg (by simp), if_pos (by simp), List.map_map]; rfl⟩
  have HRR := Aside0.mk hr
  have HR2 := Aside0.mk hr2
  have HS := Aside0.mk hs
  have HH := Aside0.mk H
  have HZ1 := Aside0.mk hz1
  have HZ2 := Aside0.mk hz2
  have HLL := Aside0.mk hl
  have hnn : ns.length ≤ 1099511627776 := by omega
  clear hr hr2 hs H hz1 hz2 hl
  have HX : Aside0 ((l.map (inT [])).length = l.length) := ⟨by simp⟩
  by_cases hz : ns.length = 0
  · have hz0 : ((ns.length : Int) == 0) = true := by simp [hz]
    have HE : Aside0 (showT ⟨8, 0, ns, l⟩ = ⟨#[123, 125]⟩) := ⟨by
      obtain rfl := List.eq_nil_of_length_eq_zero hz
      obtain rfl := List.eq_nil_of_length_eq_zero (by have := HLL.out; simp at this; exact this.symm : l.length = 0)
      rfl⟩
    clear hz
    go_enter Tryd.func39, Tryd.ntmps39
    go_wp2
    go_ret
    exact ⟨by rw [HE.out]; rfl, hB.out⟩
  · have hz0 : ((ns.length : Int) == 0) = false := by simp [hz]
    have HP : Aside0 (0 < ns.length) := ⟨by omega⟩
    clear hz
    go_enter Tryd.func39, Tryd.ntmps39
    go_wp2
    go_loopw [3, 4] (fun v3 v4 W => ∃ i : Nat, v4 = .int .i64 i ∧ i ≤ ns.length ∧ v3 = .string (slotsB (ns.take i) ((l.map (inT [])).take i)) ∧ Aside0 (Below w.heap.size w W) ∧ Aside0 (W.heap[w.heap.size]? = some (.cells #[.int .i64 8, .int .i64 0, .slice A2 ns.length c2, .slice A3 l.length c3] 25))) (fun _ v4 _ => ns.length + 1 - (RowKit.intOf v4).toNat)
    case atStart => exact ⟨0, rfl, Nat.zero_le _, by rw [List.take_zero, List.take_zero]; rfl, ⟨hB.out⟩, ⟨B0.out⟩⟩
    case round =>
      obtain ⟨i, rfl, hin, rfl, HB, BX⟩ := hrel
      clear t0 t1 t2 t3 hB B0
      obtain ⟨⟨t0, t1, t2, t3⟩, _⟩ := box4T BX.out
      by_cases hi : i < ns.length
      · have hil : i < l.length := by have := HLL.out; omega
        obtain ⟨ad, B2, d2, B3, d3, e, q0, q1, q2, q3, rows⟩ := at_ty HRR.out HB.out hil
        obtain ⟨ad2, e2, hc2⟩ := at_s (Kd.C_below HR2.out HB.out) hi
        have ROWS := Aside0.mk rows
        have HSi := Aside0.mk (HS.out _ (List.getElem_mem hil))
        have Hi := Aside0.mk (HH.out _ (List.getElem_mem hil))
        have hix : i < (l.map (inT [])).length := by rw [List.length_map]; exact hil
        have HN : Aside0 (slotsB (ns.take (i + 1)) ((l.map (inT [])).take (i + 1)) = slotsB (ns.take i) ((l.map (inT [])).take i) ++ slotB ns[i] (showT l[i])) := ⟨by
          rw [slots_next ns (l.map (inT [])) i hi hix, List.getElem_map]; rfl⟩
        have g1 : ns[i].size ≤ 70368744177664 := by have := sumB_mem (List.getElem_mem hi); have := HZ1.out; omega
        have g3 : (slotsB (ns.take i) ((l.map (inT [])).take i)).size ≤ 140737488355328 := by
          have h1 := slotsB_size (ns.take i) ((l.map (inT [])).take i); have h2 := sumB_take ns i; have h3 := sumS_take (l.map (inT [])) i; have := HZ1.out; have := HZ2.out; omega
        have g4 := HSi.out
        clear rows hix
        have HL2 : Aside0 (i < l.length) := ⟨hil⟩
        have hlt2 : ((i : Int) < (l.length : Int)) = True := by simp [hil]
        generalize slotsB (ns.take i) ((l.map (inT [])).take i) = S at *
        generalize ns[i] = x at *
        generalize l[i] = t at *
        clear hil
        subst e
        subst e2
        have hlt : ((i : Int) < (ns.length : Int)) = True := by simp [hi]
        have hge : ((0 : Int) ≤ (i : Int)) = True := by simp
        have hs1 : (9223372036854775807 < S.size + 1) = False := eq_false (by omega)
        have hs2 : (9223372036854775807 < S.size + 1 + x.size) = False := eq_false (by omega)
        have hs3 : (9223372036854775807 < S.size + 1 + x.size + 2) = False := eq_false (by omega)
        have hs4 : (9223372036854775807 < S.size + 1 + x.size + 2 + (showT t).size) = False := eq_false (by omega)
        have hs5 : (9223372036854775807 < S.size + 1 + x.size + 2 + (showT t).size + 1) = False := eq_false (by omega)
        go_wp2
        refine start_ (n := 18) (S := fun w' => w'.cell? ⟨w.heap.size, 0, none⟩ = some (.int .i64 8) ∧ w'.cell? ⟨w.heap.size, 1, none⟩ = some (.int .i64 0) ∧ w'.cell? ⟨w.heap.size, 2, none⟩ = some (.slice (some ad2) ns.length c2) ∧ w'.cell? ⟨w.heap.size, 3, none⟩ = some (.slice (some ad) l.length c3) ∧ w'.cell? (ad.add (i * 4)) = some (.int .i64 t.f0) ∧ w'.cell? ⟨(ad.add (i * 4)).block, (ad.add (i * 4)).off + 1, none⟩ = some (.int .i64 t.f1) ∧ w'.cell? ⟨(ad.add (i * 4)).block, (ad.add (i * 4)).off + 2, none⟩ = some (.slice B2 t.f2.length d2) ∧ w'.cell? ⟨(ad.add (i * 4)).block, (ad.add (i * 4)).off + 3, none⟩ = some (.slice B3 t.f3.length d3) ∧ w'.cell? (ad2.add i) = some (.string x)) (ds := []) #[false, false, false, false, false, false, false, false, false, false, false, false, false, false, false, false, false, false] (by kernel_rfl) rfl rfl ⟨t0, t1, t2, t3, q0, q1, q2, q3, hc2⟩ (fun hHeld => ?_)
        refine pure_ (i := 0) (N := some 42) (v := ?_) (a' := ?_) #[true, false, false, false, false, false, false, false, false, false, false, false, false, false, false, false, false, false] rfl rfl (by kernel_rfl) (fun _ _ _ h => h) (Or.inl ⟨by rfl, ?_⟩) ?_ ?_
        rotate_left
        · intro w'
          go_simp
          with_reducible rfl
        rotate_left
        · simp only [Act.put, List.setIfInBounds_toArray, List.set_cons_zero, List.set_cons_succ, i64_w, i32_w]
          rfl
        refine pure_ (i := 1) (N := some 43) (v := ?_) (a' := ?_) #[true, true, false, false, false, false, false, false, false, false, false, false, false, false, false, false, false, false] rfl rfl (by kernel_rfl) (fun _ _ _ h => h) (Or.inl ⟨by rfl, ?_⟩) ?_ ?_
        rotate_left
        · intro w'
          go_simp
          with_reducible rfl
        rotate_left
        · simp only [Act.put, List.setIfInBounds_toArray, List.set_cons_zero, List.set_cons_succ, i64_w, i32_w]
          rfl
        refine pure_ (i := 2) (N := some 44) (v := ?_) (a' := ?_) #[true, true, true, false, false, false, false, false, false, false, false, false, false, false, false, false, false, false] rfl rfl (by kernel_rfl) (fun _ _ _ h => h) (Or.inl ⟨by rfl, ?_⟩) ?_ ?_
        rotate_left
        · intro w'
          go_simp
          with_reducible rfl
        rotate_left
        · simp only [Act.put, List.setIfInBounds_toArray, List.set_cons_zero, List.set_cons_succ, i64_w, i32_w]
          rfl
        refine pure_ (i := 4) (N := some 46) (v := ?_) (a' := ?_) #[true, true, true, false, true, false, false, false, false, false, false, false, false, false, false, false, false, false] rfl rfl (by kernel_rfl) (fun _ _ _ h => h) (Or.inl ⟨by rfl, ?_⟩) ?_ ?_
        rotate_left
        · intro w'
          go_simp
          with_reducible rfl
        rotate_left
        · simp only [Act.put, List.setIfInBounds_toArray, List.set_cons_zero, List.set_cons_succ, i64_w, i32_w]
          rfl
        refine pure_ (i := 9) (N := some 51) (v := ?_) (a' := ?_) #[true, true, true, false, true, false, false, false, false, true, false, false, false, false, false, false, false, false] rfl rfl (by kernel_rfl) (fun _ _ _ h => h) (Or.inl ⟨by rfl, ?_⟩) ?_ ?_
        rotate_left
        · intro w'
          go_simp
          with_reducible rfl
        rotate_left
        · simp only [Act.put, List.setIfInBounds_toArray, List.set_cons_zero, List.set_cons_succ, i64_w, i32_w]
          rfl
        refine pure_ (i := 11) (N := some 53) (v := ?_) (a' := ?_) #[true, true, true, false, true, false, false, false, false, true, false, true, false, false, false, false, false, false] rfl rfl (by kernel_rfl) (fun _ _ _ h => h) (Or.inl ⟨by rfl, ?_⟩) ?_ ?_
        rotate_left
        · intro w'
          go_simp
          with_reducible rfl
        rotate_left
        · simp only [Act.put, List.setIfInBounds_toArray, List.set_cons_zero, List.set_cons_succ, i64_w, i32_w]
          rfl
        refine take_ (i := 3) (N := some 45) (v := ?_) (a' := ?_) #[true, true, true, true, true, false, false, false, false, true, false, true, false, false, false, false, false, false] rfl rfl (by kernel_rfl) (fun _ _ _ h => h) (Or.inl ⟨by rfl, ?_⟩) hHeld ?_ ?_
        rotate_left
        · rintro w' ⟨s0, s1, s2, s3, s4, s5, s6, s7, s8⟩
          go_simp
          with_reducible rfl
        rotate_left
        · simp only [Act.put, List.setIfInBounds_toArray, List.set_cons_zero, List.set_cons_succ, i64_w, i32_w]
          rfl
        refine pure_ (i := 5) (N := some 47) (v := ?_) (a' := ?_) #[true, true, true, true, true, true, false, false, false, true, false, true, false, false, false, false, false, false] rfl rfl (by kernel_rfl) (fun _ _ _ h => h) (Or.inl ⟨by rfl, ?_⟩) ?_ ?_
        rotate_left
        · intro w'
          go_simp
          with_reducible rfl
        rotate_left
        · simp only [Act.put, List.setIfInBounds_toArray, List.set_cons_zero, List.set_cons_succ, i64_w, i32_w]
          rfl
        refine take_ (i := 6) (N := some 48) (v := ?_) (a' := ?_) #[true, true, true, true, true, true, true, false, false, true, false, true, false, false, false, false, false, false] rfl rfl (by kernel_rfl) (fun _ _ _ h => h) (Or.inl ⟨by rfl, ?_⟩) hHeld ?_ ?_
        rotate_left
        · rintro w' ⟨s0, s1, s2, s3, s4, s5, s6, s7, s8⟩
          go_simp
          with_reducible rfl
        rotate_left
        · simp only [Act.put, List.setIfInBounds_toArray, List.set_cons_zero, List.set_cons_succ, i64_w, i32_w]
          rfl
        refine pure_ (i := 7) (N := some 49) (v := ?_) (a' := ?_) #[true, true, true, true, true, true, true, true, false, true, false, true, false, false, false, false, false, false] rfl rfl (by kernel_rfl) (fun _ _ _ h => h) (Or.inl ⟨by rfl, ?_⟩) ?_ ?_
        rotate_left
        · intro w'
          go_simp
          with_reducible rfl
        rotate_left
        · simp only [Act.put, List.setIfInBounds_toArray, List.set_cons_zero, List.set_cons_succ, i64_w, i32_w]
          rfl
        refine pure_ (i := 8) (N := some 50) (v := ?_) (a' := ?_) #[true, true, true, true, true, true, true, true, true, true, false, true, false, false, false, false, false, false] rfl rfl (by kernel_rfl) (fun _ _ _ h => h) (Or.inl ⟨by rfl, ?_⟩) ?_ ?_
        rotate_left
        · intro w'
          go_simp
          with_reducible rfl
        rotate_left
        · simp only [Act.put, List.setIfInBounds_toArray, List.set_cons_zero, List.set_cons_succ, i64_w, i32_w]
          rfl
        refine take_ (i := 10) (N := some 52) (v := ?_) (a' := ?_) #[true, true, true, true, true, true, true, true, true, true, true, true, false, false, false, false, false, false] rfl rfl (by kernel_rfl) (fun _ _ _ h => h) (Or.inl ⟨by rfl, ?_⟩) hHeld ?_ ?_
        rotate_left
        · rintro w' ⟨s0, s1, s2, s3, s4, s5, s6, s7, s8⟩
          go_simp
          with_reducible rfl
        rotate_left
        · simp only [Act.put, List.setIfInBounds_toArray, List.set_cons_zero, List.set_cons_succ, i64_w, i32_w]
          rfl
        refine pure_ (i := 12) (N := some 54) (v := ?_) (a' := ?_) #[true, true, true, true, true, true, true, true, true, true, true, true, true, false, false, false, false, false] rfl rfl (by kernel_rfl) (fun _ _ _ h => h) (Or.inl ⟨by rfl, ?_⟩) ?_ ?_
        rotate_left
        · intro w'
          go_simp
          with_reducible rfl
        rotate_left
        · simp only [Act.put, List.setIfInBounds_toArray, List.set_cons_zero, List.set_cons_succ, i64_w, i32_w]
          rfl
        refine take_ (i := 13) (N := some 55) (v := ?_) (a' := ?_) #[true, true, true, true, true, true, true, true, true, true, true, true, true, true, false, false, false, false] rfl rfl (by kernel_rfl) (fun _ _ _ h => h) (Or.inl ⟨by rfl, ?_⟩) hHeld ?_ ?_
        rotate_left
        · rintro w' ⟨s0, s1, s2, s3, s4, s5, s6, s7, s8⟩
          go_simp
          with_reducible rfl
        rotate_left
        · simp only [Act.put, List.setIfInBounds_toArray, List.set_cons_zero, List.set_cons_succ, i64_w, i32_w]
          rfl
        refine one_ (i := 14) (N := some 56) #[true, true, true, true, true, true, true, true, true, true, true, true, true, true, true, false, false, false] rfl rfl (by kernel_rfl) (by decide) (fun K hK => ?_)
        refine call_ 39 #[.agg #[.int .i64 t.f0, .int .i64 t.f1, .slice B2 t.f2.length d2, .slice B3 t.f3.length d3]] (by rfl) rfl ?_ ?_
        · go_simp
          try rfl
        refine (Hi.out B2 d2 B3 d3 _ (ROWS.out.below (below_drew1 HB.out))).mono ?_
        rintro e w1 ⟨rfl, hb⟩
        refine ⟨_, rfl, ?_⟩
        have nHB := Aside0.mk (below_step (below_drew1 HB.out) hb)
        have nBX := Aside0.mk (blk_below (blk_drew BX.out) hb)
        refine hK.out _ _ ⟨pw_cell_below hb hHeld.1, pw_cell_below hb hHeld.2.1, pw_cell_below hb hHeld.2.2.1, pw_cell_below hb hHeld.2.2.2.1, pw_cell_below hb hHeld.2.2.2.2.1, pw_cell_below hb hHeld.2.2.2.2.2.1, pw_cell_below hb hHeld.2.2.2.2.2.2.1, pw_cell_below hb hHeld.2.2.2.2.2.2.2.1, pw_cell_below hb hHeld.2.2.2.2.2.2.2.2⟩ (fun hHeld => ?_)
        clear hK K
        refine norm_ (a' := ?_) ?_ ?_
        rotate_left
        · show Act.put _ (some 56) _ = _
          simp only [Act.put, List.setIfInBounds_toArray, List.set_cons_zero, List.set_cons_succ, i64_w, i32_w]
          rfl
        refine pure_ (i := 15) (N := some 57) (v := ?_) (a' := ?_) #[true, true, true, true, true, true, true, true, true, true, true, true, true, true, true, true, false, false] rfl rfl (by kernel_rfl) (fun _ _ _ h => h) (Or.inl ⟨by rfl, ?_⟩) ?_ ?_
        rotate_left
        · intro w'
          go_simp
          with_reducible rfl
        rotate_left
        · simp only [Act.put, List.setIfInBounds_toArray, List.set_cons_zero, List.set_cons_succ, i64_w, i32_w]
          rfl
        refine pure_ (i := 16) (N := some 58) (v := ?_) (a' := ?_) #[true, true, true, true, true, true, true, true, true, true, true, true, true, true, true, true, true, false] rfl rfl (by kernel_rfl) (fun _ _ _ h => h) (Or.inl ⟨by rfl, ?_⟩) ?_ ?_
        rotate_left
        · intro w'
          go_simp
          with_reducible rfl
        rotate_left
        · simp only [Act.put, List.setIfInBounds_toArray, List.set_cons_zero, List.set_cons_succ, i64_w, i32_w]
          rfl
        refine pure_ (i := 17) (N := some 3) (v := ?_) (a' := ?_) #[true, true, true, true, true, true, true, true, true, true, true, true, true, true, true, true, true, true] rfl rfl (by kernel_rfl) (fun _ _ _ h => h) (Or.inl ⟨by rfl, ?_⟩) ?_ ?_
        rotate_left
        · intro w'
          go_simp
          with_reducible rfl
        rotate_left
        · simp only [Act.put, List.setIfInBounds_toArray, List.set_cons_zero, List.set_cons_succ, i64_w, i32_w]
          rfl
        refine done_ (by kernel_rfl) ?_
        try go_wp2
        go_roundw
        case measure => simp [RowKit.intOf]; omega
        case rel => exact ⟨i + 1, by go_num, hi, by rw [HN.out]; unfold slotB; simp only [← ByteArray.append_assoc], nHB, nBX⟩
      · obtain rfl : i = ns.length := by omega
        have hlt : ((ns.length : Int) < (ns.length : Int)) = False := by simp
        have HN : Aside0 (slotsB (ns.take ns.length) ((l.map (inT [])).take ns.length) = slotsB ns (l.map (inT []))) := ⟨by rw [List.take_length, List.take_of_length_le (by have := HX.out; have := HLL.out; omega)]⟩
        have g3 : (slotsB ns (l.map (inT []))).size ≤ 140737488355328 := by
          have h1 := slotsB_size ns (l.map (inT [])); have := HZ1.out; have := HZ2.out; omega
        rw [HN.out]
        have HE : Aside0 (recB ns (l.map (inT [])) = ((⟨#[123]⟩ : ByteArray) ++ slotsB ns (l.map (inT []))) ++ (⟨#[32, 125]⟩ : ByteArray)) := ⟨recB_pos (by have := HX.out; have := HLL.out; have := HP.out; omega)⟩
        clear HN
        generalize slotsB ns (l.map (inT [])) = S at *
        have hs1 : (9223372036854775807 < 1 + S.size) = False := eq_false (by omega)
        have hs2 : (9223372036854775807 < 1 + S.size + 2) = False := eq_false (by omega)
        go_wp2
        go_ret
        exact ⟨by rw [HT.out, HE.out]; rfl, HB.out⟩
set_option maxHeartbeats 400000 in
set_option maxRecDepth 100000 in
theorem rshow_fn (ps : List Ty) (q : Ty) (H : ∀ y ∈ ps, RShowOk y) (Hq : RShowOk q) (hs : ∀ y ∈ ps, (showT y).size ≤ 70368744177664) (hsq : (showT q).size ≤ 70368744177664) (hn : ps.length ≤ 1099511627776) (hz2 : sumS (ps.map (inT [])) ≤ 35184372088832) (A2 A3 : Option Addr) (m2 c2 c3 : Nat) (ns : List ByteArray) (w : World) (hr : k25.C w A3 (ps ++ [q]).length (ps ++ [q])) : Calls Tryd.prog 39 #[agT 9 0 A2 m2 c2 A3 (ps.length + 1) c3] w fun e w' => e = .returned (.string (showT ⟨9, 0, ns, ps ++ [q]⟩)) ∧ Below w.heap.size w w' := by
  have hu25 := Tryd.underlying25
  have hB := Aside0.mk (below_alloc (Below.refl w.heap.size w) (.cells #[.int .i64 9, .int .i64 0, .slice A2 m2 c2, .slice A3 (ps.length + 1) c3] 25))
  have B0 := Aside0.mk (heap_alloc_new w (.cells #[.int .i64 9, .int .i64 0, .slice A2 m2 c2, .slice A3 (ps.length + 1) c3] 25))
  have t0 : (w.alloc (.cells #[.int .i64 9, .int .i64 0, .slice A2 m2 c2, .slice A3 (ps.length + 1) c3] 25)).cell? ⟨w.heap.size, 0, none⟩ = some (.int .i64 9) := (blk_cell B0.out 0).trans rfl
  have t1 : (w.alloc (.cells #[.int .i64 9, .int .i64 0, .slice A2 m2 c2, .slice A3 (ps.length + 1) c3] 25)).cell? ⟨w.heap.size, 1, none⟩ = some (.int .i64 0) := (blk_cell B0.out 1).trans rfl
  have t2 : (w.alloc (.cells #[.int .i64 9, .int .i64 0, .slice A2 m2 c2, .slice A3 (ps.length + 1) c3] 25)).cell? ⟨w.heap.size, 2, none⟩ = some (.slice A2 m2 c2) := (blk_cell B0.out 2).trans rfl
  have t3 : (w.alloc (.cells #[.int .i64 9, .int .i64 0, .slice A2 m2 c2, .slice A3 (ps.length + 1) c3] 25)).cell? ⟨w.heap.size, 3, none⟩ = some (.slice A3 (ps.length + 1) c3) := (blk_cell B0.out 3).trans rfl
  have HT : Aside0 (showT ⟨9, 0, ns, ps ++ [q]⟩ = (((⟨#[40]⟩ : ByteArray) ++ joinB (ps.map (inT [])) ⟨#[44, 32]⟩) ++ (⟨#[41, 32, 61, 62, 32]⟩ : ByteArray)) ++ showT q) := ⟨by
    rw [showT_is]; unfold showK; rw [if_neg (by simp), if_neg (by simp), if_pos (by simp)]
    have e1 : (((ps ++ [q]).map pairT).take (((ps ++ [q]).map pairT).length - 1)) = ps.map pairT := by simp
    have e2 : (((ps ++ [q]).map pairT).getLastD (0, ⟨#[]⟩)) = pairT q := by simp
    show ((⟨#[40]⟩ ++ joinB ((((ps ++ [q]).map pairT).take (((ps ++ [q]).map pairT).length - 1)).map (withinB [])) ⟨#[44, 32]⟩) ++ ⟨#[41, 32, 61, 62, 32]⟩) ++ (((ps ++ [q]).map pairT).getLastD (0, ⟨#[]⟩)).2 = _
    rw [e1, e2, List.map_map]; rfl⟩
  have HRR := Aside0.mk hr
  have HS := Aside0.mk hs
  have HH := Aside0.mk H
  have HQ := Aside0.mk Hq
  have HZ2 := Aside0.mk hz2
  clear hr hs H Hq hz2
  go_enter Tryd.func39, Tryd.ntmps39
  go_wp2
  go_loopw [3, 5] (fun v3 v5 W => ∃ i : Nat, v5 = .int .i64 i ∧ i ≤ ps.length ∧ v3 = .string (joinB ((ps.map (inT [])).take i) ⟨#[44, 32]⟩) ∧ Aside0 (Below w.heap.size w W) ∧ Aside0 (W.heap[w.heap.size]? = some (.cells #[.int .i64 9, .int .i64 0, .slice A2 m2 c2, .slice A3 (ps.length + 1) c3] 25))) (fun _ v5 _ => ps.length + 1 - (RowKit.intOf v5).toNat)
  case atStart => exact ⟨0, rfl, Nat.zero_le _, by rw [List.take_zero]; rfl, ⟨hB.out⟩, ⟨B0.out⟩⟩
  case round =>
    obtain ⟨i, rfl, hin, rfl, HB, BX⟩ := hrel
    clear t0 t1 t2 t3 hB B0
    obtain ⟨⟨t0, t1, t2, t3⟩, _⟩ := box4T BX.out
    by_cases hi : i < ps.length
    · obtain ⟨ad, B2, d2, B3, d3, e, q0, q1, q2, q3, rows⟩ := at_ty HRR.out HB.out (show i < (ps ++ [q]).length by simp; omega)
      simp only [List.getElem_append_left hi] at q0 q1 q2 q3 rows
      have ROWS := Aside0.mk rows
      have HSi := Aside0.mk (HS.out _ (List.getElem_mem hi))
      have Hi := Aside0.mk (HH.out _ (List.getElem_mem hi))
      have HN : Aside0 (joinB ((ps.map (inT [])).take (i + 1)) ⟨#[44, 32]⟩ = (if 0 < i then joinB ((ps.map (inT [])).take i) ⟨#[44, 32]⟩ ++ ⟨#[44, 32]⟩ else joinB ((ps.map (inT [])).take i) ⟨#[44, 32]⟩) ++ showT ps[i]) := ⟨by
        have := joinB_next ⟨#[44, 32]⟩ (ps.map (inT [])) i (by simpa using hi)
        rw [this, List.getElem_map]; rfl⟩
      have g3 : (joinB ((ps.map (inT [])).take i) ⟨#[44, 32]⟩).size ≤ 70368744177664 := by
        have h1 := joinB_size ((ps.map (inT [])).take i) ⟨#[44, 32]⟩
        have h2 := sumS_take (ps.map (inT [])) i
        have h3 := HZ2.out
        have h4 : ((ps.map (inT [])).take i).length ≤ ps.length := by rw [List.length_take, List.length_map]; omega
        rw [z44] at h1
        omega
      have g4 := HSi.out
      clear rows
      generalize joinB ((ps.map (inT [])).take i) ⟨#[44, 32]⟩ = S at *
      generalize ps[i] = t at *
      subst e
      have hlt : ((i : Int) + 1 < (ps.length : Int) + 1) = True := by simp [hi]
      have hlt2 : ((i : Int) < (ps.length : Int) + 1) = True := by simp; omega
      have hlt3 : ((i : Int) < (ps.length : Int)) = True := by simp [hi]
      have hge : ((0 : Int) ≤ (i : Int)) = True := by simp
      by_cases hp : 0 < i
      · have hp1 : ((i : Int) > 0) = True := by simp [hp]
        have hp2 : ((0 : Int) < (i : Int)) = True := by simp [hp]
        have hs1 : (9223372036854775807 < S.size + 2 + (showT t).size) = False := eq_false (by omega)
        have hs2 : (9223372036854775807 < S.size + 2) = False := eq_false (by omega)
        rw [if_pos hp] at HN
        go_wp2_with (go_at_call 39; refine holdT_ ?_)
        unfold HeldT
        refine (Hi.out B2 d2 B3 d3 _ (ROWS.out.below HB.out)).mono ?_
        rintro e w1 ⟨rfl, hb⟩
        have nHB := Aside0.mk (below_step HB.out hb)
        have nBX := Aside0.mk (blk_below BX.out hb)
        clear t0 t1 t2 t3 q0 q1 q2 q3
        go_wp2
        go_roundw
        case measure => simp [RowKit.intOf]; omega
        case rel => exact ⟨i + 1, by go_num, hi, by rw [HN.out], nHB, nBX⟩
      · have hp1 : ((i : Int) > 0) = False := by simp; omega
        have hp2 : ((0 : Int) < (i : Int)) = False := by simp; omega
        have hs1 : (9223372036854775807 < S.size + (showT t).size) = False := eq_false (by omega)
        rw [if_neg hp] at HN
        go_wp2_with (go_at_call 39; refine holdT_ ?_)
        unfold HeldT
        refine (Hi.out B2 d2 B3 d3 _ (ROWS.out.below HB.out)).mono ?_
        rintro e w1 ⟨rfl, hb⟩
        have nHB := Aside0.mk (below_step HB.out hb)
        have nBX := Aside0.mk (blk_below BX.out hb)
        clear t0 t1 t2 t3 q0 q1 q2 q3
        go_wp2
        go_roundw
        case measure => simp [RowKit.intOf]; omega
        case rel => exact ⟨i + 1, by go_num, hi, by rw [HN.out], nHB, nBX⟩
    · obtain rfl : i = ps.length := by omega
      obtain ⟨ad, B2, d2, B3, d3, e, q0, q1, q2, q3, rows⟩ := at_ty HRR.out HB.out (show ps.length < (ps ++ [q]).length by simp)
      simp only [List.getElem_append_right (Nat.le_refl _), Nat.sub_self, List.getElem_cons_zero] at q0 q1 q2 q3 rows
      have ROWS := Aside0.mk rows
      clear rows
      have hlt : ((ps.length : Int) + 1 < (ps.length : Int) + 1) = False := by simp
      have hlt2 : ((ps.length : Int) < (ps.length : Int)) = False := by simp
      have hlt4 : ((ps.length : Int) < (ps.length : Int) + 1) = True := by simp; omega
      have hge : ((0 : Int) ≤ (ps.length : Int)) = True := by simp
      have HN : Aside0 (joinB ((ps.map (inT [])).take ps.length) ⟨#[44, 32]⟩ = joinB (ps.map (inT [])) ⟨#[44, 32]⟩) := ⟨by rw [List.take_of_length_le (by simp)]⟩
      have g3 : (joinB (ps.map (inT [])) ⟨#[44, 32]⟩).size ≤ 70368744177664 := by
        have h1 := joinB_size (ps.map (inT [])) ⟨#[44, 32]⟩
        have h3 := HZ2.out
        rw [z44, List.length_map] at h1
        omega
      rw [HN.out]
      clear HN
      generalize joinB (ps.map (inT [])) ⟨#[44, 32]⟩ = S at *
      subst e
      have hs1 : (9223372036854775807 < 1 + S.size) = False := eq_false (by omega)
      have hs2 : (9223372036854775807 < 1 + S.size + 5) = False := eq_false (by omega)
      have hs3 : (9223372036854775807 < 1 + S.size + 5 + (showT q).size) = False := eq_false (by omega)
      go_wp2_with (go_at_call 39; refine holdT_ ?_)
      unfold HeldT
      refine (HQ.out B2 d2 B3 d3 _ (ROWS.out.below HB.out)).mono ?_
      rintro e w1 ⟨rfl, hb⟩
      go_wp2
      go_ret
      exact ⟨by rw [HT.out]; rfl, below_step HB.out hb⟩
end Go.Proofs.YtjcajpkgamolkaaDoor.Ty
namespace Go.Proofs.YtjcajpkgamolkaaDoor.Ty
open Go.RowKit Go.Proofs.YtjcajpkgamolkaaDoor.PTyp Go.Proofs.YtjcajpkgamolkaaDoorW.PrintWords Go.Proofs.YtjcajpkgamolkaaDoorW.PrintLast Go.Proofs.YtjcajpkgamolkaaDoorW.PrintMore
set_option linter.unusedVariables false
set_option linter.unusedSimpArgs false
theorem rshow_ok (t : Ty) : mayT t = true → rngT t = true → zT t ≤ 35184372088832 → RShowOk t := by
  refine Ty.ind (p := fun t => mayT t = true → rngT t = true → zT t ≤ 35184372088832 → RShowOk t) ?_ t
  intro k n ns l ih hm hg hz
  have hsize := showT_size ⟨k, n, ns, l⟩ hg
  rw [zT_is] at hz
  rw [rngT_iff] at hg
  rw [mayT_mk, Bool.and_eq_true, mayTs_iff] at hm
  obtain ⟨hs, hm⟩ := hm
  obtain ⟨hn, hg⟩ := hg
  have hz' : 48 + sumB ns + zTs l ≤ 35184372088832 := hz
  have hzl : ∀ y ∈ l, zT y ≤ 35184372088832 := fun y hy => by have := zTs_mem hy; omega
  have H : ∀ y ∈ l, RShowOk y := fun y hy => ih y hy (hm y hy) (hg y hy) (hzl y hy)
  have hss : ∀ y ∈ l, (showT y).size + 16 ≤ zT y := fun y hy => showT_size y (hg y hy)
  have hs4 : ∀ y ∈ l, (showT y).size ≤ 70368744177664 := fun y hy => by have := hss y hy; have := hzl y hy; omega
  have hln : l.length ≤ 1099511627776 := by have := zTs_len l; omega
  have hR : (showT ⟨k, n, ns, l⟩).size ≤ 70368744177664 := by have := zT_is ⟨k, n, ns, l⟩; have e : zT ⟨k, n, ns, l⟩ = 48 + sumB ns + zTs l := this; omega
  intro A2 c2 A3 c3 w rows
  obtain ⟨r1, r2, r3, r4⟩ := rows
  replace r1 : ns.length ≤ c2 := r1
  replace r2 : Kd.string.C w A2 ns.length ns := r2
  replace r3 : l.length ≤ c3 := r3
  replace r4 : k25.C w A3 l.length l := r4
  show Calls Tryd.prog 39 #[agT k n A2 ns.length c2 A3 l.length c3] w _
  replace hs : (if 1 ≤ k ∧ k ≤ 6 then ns.length == 0 && l.length == 0 && n == 0
    else if k = 7 then ns.length == 0 && l.length == 1 && n == 0
    else if k = 8 then risesB ns && l.length == ns.length && n == 0
    else if k = 9 then ns.length == 0 && decide (1 ≤ l.length) && n == 0
    else if k = 10 then partsOk l && ns.length == 0 && decide (2 ≤ l.length) && n == 0
    else if 11 ≤ k ∧ k ≤ 13 then ns.length == 0 && l.length == 0 && decide (0 ≤ n)
    else false) = true := hs
  by_cases h : 1 ≤ k ∧ k ≤ 6
  · rw [if_pos h] at hs
    simp only [Bool.and_eq_true, beq_iff_eq] at hs
    obtain ⟨⟨h1, h2⟩, rfl⟩ := hs
    obtain rfl := List.eq_nil_of_length_eq_zero h1
    obtain rfl := List.eq_nil_of_length_eq_zero h2
    have hk : k = 1 ∨ k = 2 ∨ k = 3 ∨ k = 4 ∨ k = 5 ∨ k = 6 := by omega
    rcases hk with rfl | rfl | rfl | rfl | rfl | rfl
    · exact rshow_word1 A2 A3 c2 c3 w
    · exact rshow_word2 A2 A3 c2 c3 w
    · exact rshow_word3 A2 A3 c2 c3 w
    · exact rshow_word4 A2 A3 c2 c3 w
    · exact rshow_word5 A2 A3 c2 c3 w
    · exact rshow_word6 A2 A3 c2 c3 w
  rw [if_neg h] at hs
  by_cases h : k = 7
  · rw [if_pos h] at hs
    subst h
    simp only [Bool.and_eq_true, beq_iff_eq] at hs
    obtain ⟨⟨h1, h2⟩, rfl⟩ := hs
    obtain ⟨y, rfl⟩ := List.length_eq_one_iff.1 h2
    exact rshow_list y (H y (by simp)) (hs4 y (by simp)) A2 A3 ns.length c2 c3 ns w r4
  rw [if_neg h] at hs
  by_cases h : k = 8
  · rw [if_pos h] at hs
    subst h
    simp only [Bool.and_eq_true, beq_iff_eq] at hs
    obtain ⟨⟨h1, h2⟩, rfl⟩ := hs
    exact rshow_recd ns l h2.symm H hs4 hln A2 A3 c2 c3 (by omega) (by have := sum_in [] l hss; omega) w r2 r4
  rw [if_neg h] at hs
  by_cases h : k = 9
  · rw [if_pos h] at hs
    subst h
    simp only [Bool.and_eq_true, beq_iff_eq, decide_eq_true_eq] at hs
    obtain ⟨⟨h1, h2⟩, rfl⟩ := hs
    rcases List.eq_nil_or_concat l with rfl | ⟨ps, q, rfl⟩
    · simp at h2
    · rw [List.concat_eq_append] at *
      rw [List.length_append] at r3 hln
      have e : (ps ++ [q]).length = ps.length + 1 := by simp
      rw [show agT 9 0 A2 ns.length c2 A3 (ps ++ [q]).length c3 = agT 9 0 A2 ns.length c2 A3 (ps.length + 1) c3 by rw [e]]
      exact rshow_fn ps q (fun y hy => H y (by simp [hy])) (H q (by simp)) (fun y hy => hs4 y (by simp [hy])) (hs4 q (by simp)) (by omega) (by have h1 := sum_in [] (ps ++ [q]) hss; rw [List.map_append, sumS_append] at h1; omega) A2 A3 ns.length c2 c3 ns w r4
  rw [if_neg h] at hs
  by_cases h : k = 10
  · rw [if_pos h] at hs
    subst h
    simp only [Bool.and_eq_true, beq_iff_eq, decide_eq_true_eq] at hs
    obtain ⟨⟨⟨h0, h1⟩, h2⟩, rfl⟩ := hs
    exact rshow_either l H hs4 hln (by have := sum_in [9] l hss; omega) A2 A3 ns.length c2 c3 ns w r4
  rw [if_neg h] at hs
  by_cases h : 11 ≤ k ∧ k ≤ 13
  · rw [if_pos h] at hs
    simp only [Bool.and_eq_true, beq_iff_eq, decide_eq_true_eq] at hs
    obtain ⟨⟨h1, h2⟩, h3⟩ := hs
    obtain rfl := List.eq_nil_of_length_eq_zero h1
    obtain rfl := List.eq_nil_of_length_eq_zero h2
    obtain ⟨u, rfl⟩ := Int.eq_ofNat_of_zero_le h3
    have hn' : u ≤ 9223372036854775807 := by have := hn.2; exact Int.ofNat_le.1 this
    have hk : k = 11 ∨ k = 12 ∨ k = 13 := by omega
    rcases hk with rfl | rfl | rfl
    · exact rshow_ref11 u hn' A2 A3 c2 c3 w
    · exact rshow_ref12 u hn' A2 A3 c2 c3 w
    · exact rshow_ref13 u hn' A2 A3 c2 c3 w
  · rw [if_neg h] at hs; cases hs
end Go.Proofs.YtjcajpkgamolkaaDoor.Ty
