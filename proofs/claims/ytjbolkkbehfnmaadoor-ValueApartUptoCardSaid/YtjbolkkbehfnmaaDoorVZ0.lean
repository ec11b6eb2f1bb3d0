/- ValueApart: what is set in one thing is there, and in no other one. -/
import Derived.Test.YtjbolkkbehfnmaaDoorVZ
namespace Go.Proofs.YtjbolkkbehfnmaaDoor.Val
open Go.RowKit Go.Proofs.YtjbolkkbehfnmaaDoor.PVal Go.Proofs.YtjbolkkbehfnmaaDoorW.PrintWords Go.Proofs.YtjbolkkbehfnmaaDoorW.PrintLast Go.Proofs.YtjbolkkbehfnmaaDoorW.PrintMore
set_option linter.unusedVariables false
set_option linter.unusedSimpArgs false
attribute [local go_sem high] eqA32
set_option maxHeartbeats 8000000 in
set_option maxRecDepth 100000 in
theorem apart_zero (w : World) [GW w] (A : Option Addr) (c : Nat) (l : List S32) (name : ByteArray) (x : S32) (hC : k32.C w A l.length l) (hc : l.length ≤ c) (hl : l.length ≤ 1048576) (h0 : l.length = 0) :
    Calls Tryd.prog 5 #[.slice A l.length c, .string name, .agg #[.int .i64 x.f0, .int .i64 x.f1, .string x.f2]] w fun e w' => e = .returned (.bool true) ∧ Below w.heap.size w w' := by
  have HC := Aside0.mk hC
  have HL := Aside0.mk hl
  have HCC := Aside0.mk hc
  have H0 := Aside0.mk h0
  clear hC hl hc h0
  go_enter Tryd.func5, Tryd.ntmps5
  go_wp2_with (first
    | (go_at_call 6; refine (new_calls _).mono ?_; rintro e w' ⟨rfl, rfl⟩; have HH : Aside0 (Has w.heap.size ((w.alloc (.cells #[.int .i64 x.f0, .int .i64 x.f1, .string x.f2] 32)).alloc (.cells #[.slice none 0 0] 52)) (fun k => k = w.heap.size + 1) (w.heap.size + 1) []) := ⟨by have h := Has.new w (w.alloc (.cells #[.int .i64 x.f0, .int .i64 x.f1, .string x.f2] 32)) (below_alloc (Below.refl _ _) _); rw [show (w.alloc (.cells #[.int .i64 x.f0, .int .i64 x.f1, .string x.f2] 32)).heap.size = w.heap.size + 1 by simp] at h; exact h⟩; have HB := Aside0.mk (below_alloc (below_alloc (Below.refl w.heap.size w) (.cells #[.int .i64 x.f0, .int .i64 x.f1, .string x.f2] 32)) (.cells #[.slice none 0 0] 52)); have BX5 := Aside0.mk (blk_alloc (heap_alloc_new w (.cells #[.int .i64 x.f0, .int .i64 x.f1, .string x.f2] 32)) (.cells #[.slice none 0 0] 52)); have G5 : Aside0 (¬ (fun k => k = w.heap.size + 1) w.heap.size) := ⟨by simp⟩; rw [show (w.alloc (.cells #[.int .i64 x.f0, .int .i64 x.f1, .string x.f2] 32)).heap.size = w.heap.size + 1 by simp])
    | (go_at_call 7; refine hold_ ?_))
  unfold Held
  refine (awake_calls _).mono ?_
  rintro e w' ⟨rfl, hb⟩
  have n0_ := Aside0.mk (HH.out.below (below_step (by repeat (first | (with_reducible exact Below.refl _ _) | (with_reducible apply below_alloc) | (with_reducible apply pw_below_drewN) | (with_reducible apply below_drew1))) hb))
  have n1_ := Aside0.mk (below_step (by repeat (first | (with_reducible exact HB.out) | (with_reducible apply below_alloc) | (with_reducible apply pw_below_drewN) | (with_reducible apply below_drew1))) hb)
  have n2_ := Aside0.mk (blk_below (g := w.heap.size) (o := (.cells #[.int .i64 x.f0, .int .i64 x.f1, .string x.f2] 32)) (by repeat (first | (with_reducible exact BX5.out) | (with_reducible refine blk_alloc ?_ _) | (with_reducible refine blk_drewN ?_ _) | (with_reducible refine blk_drew ?_))) hb)
  clear HH HB BX5
  have HH := n0_
  have HB := n1_
  have BX5 := n2_
  clear n0_ n1_ n2_
  haveI := GW.of HB.out
  clear hb
  go_wp2_with (go_at_call 12; refine hold_ ?_)
  unfold Held
  refine ((HH.out.below (B := w.heap.size) (by repeat (first | (with_reducible exact Below.refl _ _) | (with_reducible apply below_alloc) | (with_reducible apply pw_below_drewN) | (with_reducible apply below_drew1)))).arrE (Kd.C_below HC.out (by repeat (first | (with_reducible exact HB.out) | (with_reducible apply below_alloc) | (with_reducible apply pw_below_drewN) | (with_reducible apply below_drew1)))) HCC.out (by have := HL.out; omega) (by decide) 0 rfl rfl).mono ?_
  rintro e w' ⟨rfl, O', hh, hno, hch⟩
  have gG5_ := Aside0.mk (hno _ (blk_lt (o := (.cells #[.int .i64 x.f0, .int .i64 x.f1, .string x.f2] 32)) (by repeat (first | (with_reducible exact BX5.out) | (with_reducible refine blk_alloc ?_ _) | (with_reducible refine blk_drewN ?_ _) | (with_reducible refine blk_drew ?_)))) G5.out)
  have n0_ := Aside0.mk hh
  have n1_ := Aside0.mk ((HH.out.below (by repeat (first | (with_reducible exact Below.refl _ _) | (with_reducible apply below_alloc) | (with_reducible apply pw_below_drewN) | (with_reducible apply below_drew1)))).own hch (by repeat (first | (with_reducible exact HB.out) | (with_reducible apply below_alloc) | (with_reducible apply pw_below_drewN) | (with_reducible apply below_drew1))))
  have n2_ := Aside0.mk (hch.blk (k := w.heap.size) (o := (.cells #[.int .i64 x.f0, .int .i64 x.f1, .string x.f2] 32)) (by repeat (first | (with_reducible exact BX5.out) | (with_reducible refine blk_alloc ?_ _) | (with_reducible refine blk_drewN ?_ _) | (with_reducible refine blk_drew ?_))) G5.out)
  clear HH HB BX5
  have HH := n0_
  have HB := n1_
  have BX5 := n2_
  clear n0_ n1_ n2_
  haveI := GW.of HB.out
  clear hh hno hch G5
  have G5 := gG5_
  clear gG5_
  go_wp2_with (go_at_call 12; refine hold_ ?_)
  unfold Held
  refine ((HH.out.below (B := w.heap.size) (by repeat (first | (with_reducible exact Below.refl _ _) | (with_reducible apply below_alloc) | (with_reducible apply pw_below_drewN) | (with_reducible apply below_drew1)))).arrE (Kd.C_below HC.out (by repeat (first | (with_reducible exact HB.out) | (with_reducible apply below_alloc) | (with_reducible apply pw_below_drewN) | (with_reducible apply below_drew1)))) HCC.out (by have := HL.out; omega) (by simp) 1 rfl rfl).mono ?_
  rintro e w5 ⟨rfl, O5, hh, hno, hch⟩
  have gG5_ := Aside0.mk (hno _ (blk_lt (o := (.cells #[.int .i64 x.f0, .int .i64 x.f1, .string x.f2] 32)) (by repeat (first | (with_reducible exact BX5.out) | (with_reducible refine blk_alloc ?_ _) | (with_reducible refine blk_drewN ?_ _) | (with_reducible refine blk_drew ?_)))) G5.out)
  have n0_ := Aside0.mk hh
  have n1_ := Aside0.mk ((HH.out.below (by repeat (first | (with_reducible exact Below.refl _ _) | (with_reducible apply below_alloc) | (with_reducible apply pw_below_drewN) | (with_reducible apply below_drew1)))).own hch (by repeat (first | (with_reducible exact HB.out) | (with_reducible apply below_alloc) | (with_reducible apply pw_below_drewN) | (with_reducible apply below_drew1))))
  have n2_ := Aside0.mk (hch.blk (k := w.heap.size) (o := (.cells #[.int .i64 x.f0, .int .i64 x.f1, .string x.f2] 32)) (by repeat (first | (with_reducible exact BX5.out) | (with_reducible refine blk_alloc ?_ _) | (with_reducible refine blk_drewN ?_ _) | (with_reducible refine blk_drew ?_))) G5.out)
  clear HH HB BX5
  have HH := n0_
  have HB := n1_
  have BX5 := n2_
  clear n0_ n1_ n2_
  haveI := GW.of HB.out
  clear hh hno hch G5
  have G5 := gG5_
  clear gG5_
  have BX8 := Aside0.mk (blk_alloc (heap_alloc_new w5 (.cells #[.int .i64 5, .int .i64 0, .string ⟨#[]⟩] 32)) (.cells #[.int .i64 5, .int .i64 1, .string ⟨#[]⟩] 32))
  have BX9 := Aside0.mk (new2 w5 (.cells #[.int .i64 5, .int .i64 0, .string ⟨#[]⟩] 32) (.cells #[.int .i64 5, .int .i64 1, .string ⟨#[]⟩] 32))
  have G8 : Aside0 (¬ O5 w5.heap.size) := ⟨HH.out.free (Nat.le_refl _)⟩
  have G9 : Aside0 (¬ O5 (w5.heap.size + 1)) := ⟨HH.out.free (Nat.le_succ _)⟩
  go_wp2_with (go_at_call 13; refine hold_ ?_)
  unfold Held
  refine ((HH.out.below (B := w.heap.size) (by repeat (first | (with_reducible exact Below.refl _ _) | (with_reducible apply below_alloc) | (with_reducible apply pw_below_drewN) | (with_reducible apply below_drew1)))).objE (A := none) (c := 0) (ns := []) (A2 := none) (d := 0) (l := []) ⟨rfl, by decide, fun h => absurd h (by decide)⟩ ⟨rfl, by decide, fun h => absurd h (by decide)⟩ rfl rfl (by decide) (by decide) (by simp) 2 rfl rfl).mono ?_
  rintro e w6 ⟨rfl, O6, hh, hno, hch⟩
  have gG5_ := Aside0.mk (hno _ (blk_lt (o := (.cells #[.int .i64 x.f0, .int .i64 x.f1, .string x.f2] 32)) (by repeat (first | (with_reducible exact BX5.out) | (with_reducible refine blk_alloc ?_ _) | (with_reducible refine blk_drewN ?_ _) | (with_reducible refine blk_drew ?_)))) G5.out)
  have gG8_ := Aside0.mk (hno _ (blk_lt (o := (.cells #[.int .i64 5, .int .i64 0, .string ⟨#[]⟩] 32)) (by repeat (first | (with_reducible exact BX8.out) | (with_reducible refine blk_alloc ?_ _) | (with_reducible refine blk_drewN ?_ _) | (with_reducible refine blk_drew ?_)))) G8.out)
  have gG9_ := Aside0.mk (hno _ (blk_lt (o := (.cells #[.int .i64 5, .int .i64 1, .string ⟨#[]⟩] 32)) (by repeat (first | (with_reducible exact BX9.out) | (with_reducible refine blk_alloc ?_ _) | (with_reducible refine blk_drewN ?_ _) | (with_reducible refine blk_drew ?_)))) G9.out)
  have n0_ := Aside0.mk hh
  have n1_ := Aside0.mk ((HH.out.below (by repeat (first | (with_reducible exact Below.refl _ _) | (with_reducible apply below_alloc) | (with_reducible apply pw_below_drewN) | (with_reducible apply below_drew1)))).own hch (by repeat (first | (with_reducible exact HB.out) | (with_reducible apply below_alloc) | (with_reducible apply pw_below_drewN) | (with_reducible apply below_drew1))))
  have n2_ := Aside0.mk (hch.blk (k := w.heap.size) (o := (.cells #[.int .i64 x.f0, .int .i64 x.f1, .string x.f2] 32)) (by repeat (first | (with_reducible exact BX5.out) | (with_reducible refine blk_alloc ?_ _) | (with_reducible refine blk_drewN ?_ _) | (with_reducible refine blk_drew ?_))) G5.out)
  have n3_ := Aside0.mk (hch.blk (k := w5.heap.size) (o := (.cells #[.int .i64 5, .int .i64 0, .string ⟨#[]⟩] 32)) (by repeat (first | (with_reducible exact BX8.out) | (with_reducible refine blk_alloc ?_ _) | (with_reducible refine blk_drewN ?_ _) | (with_reducible refine blk_drew ?_))) G8.out)
  have n4_ := Aside0.mk (hch.blk (k := (w5.heap.size + 1)) (o := (.cells #[.int .i64 5, .int .i64 1, .string ⟨#[]⟩] 32)) (by repeat (first | (with_reducible exact BX9.out) | (with_reducible refine blk_alloc ?_ _) | (with_reducible refine blk_drewN ?_ _) | (with_reducible refine blk_drew ?_))) G9.out)
  clear HH HB BX5 BX8 BX9
  have HH := n0_
  have HB := n1_
  have BX5 := n2_
  have BX8 := n3_
  have BX9 := n4_
  clear n0_ n1_ n2_ n3_ n4_
  haveI := GW.of HB.out
  clear hh hno hch G5 G8 G9
  have G5 := gG5_
  have G8 := gG8_
  have G9 := gG9_
  clear gG5_ gG8_ gG9_
  change Aside0 (Has _ _ _ _ [.arr l, .arr l, .obj []]) at HH
  go_wp2_with (go_at_call 13; refine hold_ ?_)
  unfold Held
  refine ((HH.out.below (B := w.heap.size) (by repeat (first | (with_reducible exact Below.refl _ _) | (with_reducible apply below_alloc) | (with_reducible apply pw_below_drewN) | (with_reducible apply below_drew1)))).objE (ns := [name]) (l := l) (names_built w6 [name] #[.string name] rfl (by simp)) (Kd.C_below HC.out (by repeat (first | (with_reducible exact HB.out) | (with_reducible apply below_alloc) | (with_reducible apply pw_below_drewN) | (with_reducible apply below_drew1)))) rfl rfl (by have := HL.out; omega) (by simp) (by simp) 3 rfl rfl).mono ?_
  rintro e w7 ⟨rfl, O7, hh, hno, hch⟩
  have gG5_ := Aside0.mk (hno _ (blk_lt (o := (.cells #[.int .i64 x.f0, .int .i64 x.f1, .string x.f2] 32)) (by repeat (first | (with_reducible exact BX5.out) | (with_reducible refine blk_alloc ?_ _) | (with_reducible refine blk_drewN ?_ _) | (with_reducible refine blk_drew ?_)))) G5.out)
  have gG8_ := Aside0.mk (hno _ (blk_lt (o := (.cells #[.int .i64 5, .int .i64 0, .string ⟨#[]⟩] 32)) (by repeat (first | (with_reducible exact BX8.out) | (with_reducible refine blk_alloc ?_ _) | (with_reducible refine blk_drewN ?_ _) | (with_reducible refine blk_drew ?_)))) G8.out)
  have gG9_ := Aside0.mk (hno _ (blk_lt (o := (.cells #[.int .i64 5, .int .i64 1, .string ⟨#[]⟩] 32)) (by repeat (first | (with_reducible exact BX9.out) | (with_reducible refine blk_alloc ?_ _) | (with_reducible refine blk_drewN ?_ _) | (with_reducible refine blk_drew ?_)))) G9.out)
  have n0_ := Aside0.mk hh
  have n1_ := Aside0.mk ((HH.out.below (by repeat (first | (with_reducible exact Below.refl _ _) | (with_reducible apply below_alloc) | (with_reducible apply pw_below_drewN) | (with_reducible apply below_drew1)))).own hch (by repeat (first | (with_reducible exact HB.out) | (with_reducible apply below_alloc) | (with_reducible apply pw_below_drewN) | (with_reducible apply below_drew1))))
  have n2_ := Aside0.mk (hch.blk (k := w.heap.size) (o := (.cells #[.int .i64 x.f0, .int .i64 x.f1, .string x.f2] 32)) (by repeat (first | (with_reducible exact BX5.out) | (with_reducible refine blk_alloc ?_ _) | (with_reducible refine blk_drewN ?_ _) | (with_reducible refine blk_drew ?_))) G5.out)
  have n3_ := Aside0.mk (hch.blk (k := w5.heap.size) (o := (.cells #[.int .i64 5, .int .i64 0, .string ⟨#[]⟩] 32)) (by repeat (first | (with_reducible exact BX8.out) | (with_reducible refine blk_alloc ?_ _) | (with_reducible refine blk_drewN ?_ _) | (with_reducible refine blk_drew ?_))) G8.out)
  have n4_ := Aside0.mk (hch.blk (k := (w5.heap.size + 1)) (o := (.cells #[.int .i64 5, .int .i64 1, .string ⟨#[]⟩] 32)) (by repeat (first | (with_reducible exact BX9.out) | (with_reducible refine blk_alloc ?_ _) | (with_reducible refine blk_drewN ?_ _) | (with_reducible refine blk_drew ?_))) G9.out)
  clear HH HB BX5 BX8 BX9
  have HH := n0_
  have HB := n1_
  have BX5 := n2_
  have BX8 := n3_
  have BX9 := n4_
  clear n0_ n1_ n2_ n3_ n4_
  haveI := GW.of HB.out
  clear hh hno hch G5 G8 G9
  have G5 := gG5_
  have G8 := gG8_
  have G9 := gG9_
  clear gG5_ gG8_ gG9_
  change Aside0 (Has _ _ _ _ [.arr l, .arr l, .obj [], .obj (kvFold [name] l)]) at HH
  have BX10 := Aside0.mk (blk_alloc (heap_alloc_new w7 (.cells #[.int .i64 6, .int .i64 2, .string ⟨#[]⟩] 32)) (.cells #[.int .i64 6, .int .i64 3, .string ⟨#[]⟩] 32))
  have BX11 := Aside0.mk (new2 w7 (.cells #[.int .i64 6, .int .i64 2, .string ⟨#[]⟩] 32) (.cells #[.int .i64 6, .int .i64 3, .string ⟨#[]⟩] 32))
  have G10 : Aside0 (¬ O7 w7.heap.size) := ⟨HH.out.free (Nat.le_refl _)⟩
  have G11 : Aside0 (¬ O7 (w7.heap.size + 1)) := ⟨HH.out.free (Nat.le_succ _)⟩
  obtain ⟨⟨c00, c01, c02⟩, fr00, fr01, fr02⟩ := box3 (show (((w7.alloc (.cells #[.int .i64 6, .int .i64 2, .string ⟨#[]⟩] 32)).alloc (.cells #[.int .i64 6, .int .i64 3, .string ⟨#[]⟩] 32))).heap[w.heap.size]? = some (.cells #[.int .i64 x.f0, .int .i64 x.f1, .string x.f2] 32) from (by repeat (first | (with_reducible exact BX5.out) | (with_reducible refine blk_alloc ?_ _) | (with_reducible refine blk_drewN ?_ _) | (with_reducible refine blk_drew ?_))))
  obtain ⟨⟨c10, c11, c12⟩, fr10, fr11, fr12⟩ := box3 (show (((w7.alloc (.cells #[.int .i64 6, .int .i64 2, .string ⟨#[]⟩] 32)).alloc (.cells #[.int .i64 6, .int .i64 3, .string ⟨#[]⟩] 32))).heap[w5.heap.size]? = some (.cells #[.int .i64 5, .int .i64 0, .string ⟨#[]⟩] 32) from (by repeat (first | (with_reducible exact BX8.out) | (with_reducible refine blk_alloc ?_ _) | (with_reducible refine blk_drewN ?_ _) | (with_reducible refine blk_drew ?_))))
  obtain ⟨⟨c20, c21, c22⟩, fr20, fr21, fr22⟩ := box3 (show (((w7.alloc (.cells #[.int .i64 6, .int .i64 2, .string ⟨#[]⟩] 32)).alloc (.cells #[.int .i64 6, .int .i64 3, .string ⟨#[]⟩] 32))).heap[(w5.heap.size + 1)]? = some (.cells #[.int .i64 5, .int .i64 1, .string ⟨#[]⟩] 32) from (by repeat (first | (with_reducible exact BX9.out) | (with_reducible refine blk_alloc ?_ _) | (with_reducible refine blk_drewN ?_ _) | (with_reducible refine blk_drew ?_))))
  obtain ⟨⟨c30, c31, c32⟩, fr30, fr31, fr32⟩ := box3 (show (((w7.alloc (.cells #[.int .i64 6, .int .i64 2, .string ⟨#[]⟩] 32)).alloc (.cells #[.int .i64 6, .int .i64 3, .string ⟨#[]⟩] 32))).heap[w7.heap.size]? = some (.cells #[.int .i64 6, .int .i64 2, .string ⟨#[]⟩] 32) from (by repeat (first | (with_reducible exact BX10.out) | (with_reducible refine blk_alloc ?_ _) | (with_reducible refine blk_drewN ?_ _) | (with_reducible refine blk_drew ?_))))
  obtain ⟨⟨c40, c41, c42⟩, fr40, fr41, fr42⟩ := box3 (show (((w7.alloc (.cells #[.int .i64 6, .int .i64 2, .string ⟨#[]⟩] 32)).alloc (.cells #[.int .i64 6, .int .i64 3, .string ⟨#[]⟩] 32))).heap[(w7.heap.size + 1)]? = some (.cells #[.int .i64 6, .int .i64 3, .string ⟨#[]⟩] 32) from (by repeat (first | (with_reducible exact BX11.out) | (with_reducible refine blk_alloc ?_ _) | (with_reducible refine blk_drewN ?_ _) | (with_reducible refine blk_drew ?_))))
  go_wp2_with (go_at_call 20; refine hold_ ?_)
  unfold Held
  clear c00 c01 c02 fr00 fr01 fr02 c10 c11 c12 fr10 fr11 fr12 c20 c21 c22 fr20 fr21 fr22 c30 c31 c32 fr30 fr31 fr32 c40 c41 c42 fr40 fr41 fr42
  refine (value_Same.calls 5 5 0 ⟨#[]⟩ 5 1 ⟨#[]⟩ false _ (by kernel_rfl)).mono ?_
  rintro e w' ⟨rfl, hb⟩
  have n0_ := Aside0.mk (HH.out.below (below_step (by repeat (first | (with_reducible exact Below.refl _ _) | (with_reducible apply below_alloc) | (with_reducible apply pw_below_drewN) | (with_reducible apply below_drew1))) hb))
  have n1_ := Aside0.mk (below_step (by repeat (first | (with_reducible exact HB.out) | (with_reducible apply below_alloc) | (with_reducible apply pw_below_drewN) | (with_reducible apply below_drew1))) hb)
  have n2_ := Aside0.mk (blk_below (g := w.heap.size) (o := (.cells #[.int .i64 x.f0, .int .i64 x.f1, .string x.f2] 32)) (by repeat (first | (with_reducible exact BX5.out) | (with_reducible refine blk_alloc ?_ _) | (with_reducible refine blk_drewN ?_ _) | (with_reducible refine blk_drew ?_))) hb)
  have n3_ := Aside0.mk (blk_below (g := w5.heap.size) (o := (.cells #[.int .i64 5, .int .i64 0, .string ⟨#[]⟩] 32)) (by repeat (first | (with_reducible exact BX8.out) | (with_reducible refine blk_alloc ?_ _) | (with_reducible refine blk_drewN ?_ _) | (with_reducible refine blk_drew ?_))) hb)
  have n4_ := Aside0.mk (blk_below (g := (w5.heap.size + 1)) (o := (.cells #[.int .i64 5, .int .i64 1, .string ⟨#[]⟩] 32)) (by repeat (first | (with_reducible exact BX9.out) | (with_reducible refine blk_alloc ?_ _) | (with_reducible refine blk_drewN ?_ _) | (with_reducible refine blk_drew ?_))) hb)
  have n5_ := Aside0.mk (blk_below (g := w7.heap.size) (o := (.cells #[.int .i64 6, .int .i64 2, .string ⟨#[]⟩] 32)) (by repeat (first | (with_reducible exact BX10.out) | (with_reducible refine blk_alloc ?_ _) | (with_reducible refine blk_drewN ?_ _) | (with_reducible refine blk_drew ?_))) hb)
  have n6_ := Aside0.mk (blk_below (g := (w7.heap.size + 1)) (o := (.cells #[.int .i64 6, .int .i64 3, .string ⟨#[]⟩] 32)) (by repeat (first | (with_reducible exact BX11.out) | (with_reducible refine blk_alloc ?_ _) | (with_reducible refine blk_drewN ?_ _) | (with_reducible refine blk_drew ?_))) hb)
  clear HH HB BX5 BX8 BX9 BX10 BX11
  have HH := n0_
  have HB := n1_
  have BX5 := n2_
  have BX8 := n3_
  have BX9 := n4_
  have BX10 := n5_
  have BX11 := n6_
  clear n0_ n1_ n2_ n3_ n4_ n5_ n6_
  haveI := GW.of HB.out
  clear hb
  obtain ⟨⟨c00, c01, c02⟩, fr00, fr01, fr02⟩ := box3 (show _ from BX5.out)
  obtain ⟨⟨c10, c11, c12⟩, fr10, fr11, fr12⟩ := box3 (show _ from BX8.out)
  obtain ⟨⟨c20, c21, c22⟩, fr20, fr21, fr22⟩ := box3 (show _ from BX9.out)
  obtain ⟨⟨c30, c31, c32⟩, fr30, fr31, fr32⟩ := box3 (show _ from BX10.out)
  obtain ⟨⟨c40, c41, c42⟩, fr40, fr41, fr42⟩ := box3 (show _ from BX11.out)
  go_wp2_with (go_at_call 20; refine hold_ ?_)
  unfold Held
  clear c00 c01 c02 fr00 fr01 fr02 c10 c11 c12 fr10 fr11 fr12 c20 c21 c22 fr20 fr21 fr22 c30 c31 c32 fr30 fr31 fr32 c40 c41 c42 fr40 fr41 fr42
  refine (value_Same.calls 5 6 2 ⟨#[]⟩ 6 3 ⟨#[]⟩ false _ (by kernel_rfl)).mono ?_
  rintro e w' ⟨rfl, hb⟩
  have n0_ := Aside0.mk (HH.out.below (below_step (by repeat (first | (with_reducible exact Below.refl _ _) | (with_reducible apply below_alloc) | (with_reducible apply pw_below_drewN) | (with_reducible apply below_drew1))) hb))
  have n1_ := Aside0.mk (below_step (by repeat (first | (with_reducible exact HB.out) | (with_reducible apply below_alloc) | (with_reducible apply pw_below_drewN) | (with_reducible apply below_drew1))) hb)
  have n2_ := Aside0.mk (blk_below (g := w.heap.size) (o := (.cells #[.int .i64 x.f0, .int .i64 x.f1, .string x.f2] 32)) (by repeat (first | (with_reducible exact BX5.out) | (with_reducible refine blk_alloc ?_ _) | (with_reducible refine blk_drewN ?_ _) | (with_reducible refine blk_drew ?_))) hb)
  have n3_ := Aside0.mk (blk_below (g := w5.heap.size) (o := (.cells #[.int .i64 5, .int .i64 0, .string ⟨#[]⟩] 32)) (by repeat (first | (with_reducible exact BX8.out) | (with_reducible refine blk_alloc ?_ _) | (with_reducible refine blk_drewN ?_ _) | (with_reducible refine blk_drew ?_))) hb)
  have n4_ := Aside0.mk (blk_below (g := (w5.heap.size + 1)) (o := (.cells #[.int .i64 5, .int .i64 1, .string ⟨#[]⟩] 32)) (by repeat (first | (with_reducible exact BX9.out) | (with_reducible refine blk_alloc ?_ _) | (with_reducible refine blk_drewN ?_ _) | (with_reducible refine blk_drew ?_))) hb)
  have n5_ := Aside0.mk (blk_below (g := w7.heap.size) (o := (.cells #[.int .i64 6, .int .i64 2, .string ⟨#[]⟩] 32)) (by repeat (first | (with_reducible exact BX10.out) | (with_reducible refine blk_alloc ?_ _) | (with_reducible refine blk_drewN ?_ _) | (with_reducible refine blk_drew ?_))) hb)
  have n6_ := Aside0.mk (blk_below (g := (w7.heap.size + 1)) (o := (.cells #[.int .i64 6, .int .i64 3, .string ⟨#[]⟩] 32)) (by repeat (first | (with_reducible exact BX11.out) | (with_reducible refine blk_alloc ?_ _) | (with_reducible refine blk_drewN ?_ _) | (with_reducible refine blk_drew ?_))) hb)
  clear HH HB BX5 BX8 BX9 BX10 BX11
  have HH := n0_
  have HB := n1_
  have BX5 := n2_
  have BX8 := n3_
  have BX9 := n4_
  have BX10 := n5_
  have BX11 := n6_
  clear n0_ n1_ n2_ n3_ n4_ n5_ n6_
  haveI := GW.of HB.out
  clear hb
  obtain ⟨⟨c00, c01, c02⟩, fr00, fr01, fr02⟩ := box3 (show _ from BX5.out)
  obtain ⟨⟨c10, c11, c12⟩, fr10, fr11, fr12⟩ := box3 (show _ from BX8.out)
  obtain ⟨⟨c20, c21, c22⟩, fr20, fr21, fr22⟩ := box3 (show _ from BX9.out)
  obtain ⟨⟨c30, c31, c32⟩, fr30, fr31, fr32⟩ := box3 (show _ from BX10.out)
  obtain ⟨⟨c40, c41, c42⟩, fr40, fr41, fr42⟩ := box3 (show _ from BX11.out)
  go_wp2_with (go_at_call 20; refine hold_ ?_)
  unfold Held
  clear c00 c01 c02 fr00 fr01 fr02 c10 c11 c12 fr10 fr11 fr12 c20 c21 c22 fr20 fr21 fr22 c30 c31 c32 fr30 fr31 fr32 c40 c41 c42 fr40 fr41 fr42
  refine (value_Same.calls 5 5 0 ⟨#[]⟩ 5 0 ⟨#[]⟩ true _ (by kernel_rfl)).mono ?_
  rintro e w' ⟨rfl, hb⟩
  have n0_ := Aside0.mk (HH.out.below (below_step (by repeat (first | (with_reducible exact Below.refl _ _) | (with_reducible apply below_alloc) | (with_reducible apply pw_below_drewN) | (with_reducible apply below_drew1))) hb))
  have n1_ := Aside0.mk (below_step (by repeat (first | (with_reducible exact HB.out) | (with_reducible apply below_alloc) | (with_reducible apply pw_below_drewN) | (with_reducible apply below_drew1))) hb)
  have n2_ := Aside0.mk (blk_below (g := w.heap.size) (o := (.cells #[.int .i64 x.f0, .int .i64 x.f1, .string x.f2] 32)) (by repeat (first | (with_reducible exact BX5.out) | (with_reducible refine blk_alloc ?_ _) | (with_reducible refine blk_drewN ?_ _) | (with_reducible refine blk_drew ?_))) hb)
  have n3_ := Aside0.mk (blk_below (g := w5.heap.size) (o := (.cells #[.int .i64 5, .int .i64 0, .string ⟨#[]⟩] 32)) (by repeat (first | (with_reducible exact BX8.out) | (with_reducible refine blk_alloc ?_ _) | (with_reducible refine blk_drewN ?_ _) | (with_reducible refine blk_drew ?_))) hb)
  have n4_ := Aside0.mk (blk_below (g := (w5.heap.size + 1)) (o := (.cells #[.int .i64 5, .int .i64 1, .string ⟨#[]⟩] 32)) (by repeat (first | (with_reducible exact BX9.out) | (with_reducible refine blk_alloc ?_ _) | (with_reducible refine blk_drewN ?_ _) | (with_reducible refine blk_drew ?_))) hb)
  have n5_ := Aside0.mk (blk_below (g := w7.heap.size) (o := (.cells #[.int .i64 6, .int .i64 2, .string ⟨#[]⟩] 32)) (by repeat (first | (with_reducible exact BX10.out) | (with_reducible refine blk_alloc ?_ _) | (with_reducible refine blk_drewN ?_ _) | (with_reducible refine blk_drew ?_))) hb)
  have n6_ := Aside0.mk (blk_below (g := (w7.heap.size + 1)) (o := (.cells #[.int .i64 6, .int .i64 3, .string ⟨#[]⟩] 32)) (by repeat (first | (with_reducible exact BX11.out) | (with_reducible refine blk_alloc ?_ _) | (with_reducible refine blk_drewN ?_ _) | (with_reducible refine blk_drew ?_))) hb)
  clear HH HB BX5 BX8 BX9 BX10 BX11
  have HH := n0_
  have HB := n1_
  have BX5 := n2_
  have BX8 := n3_
  have BX9 := n4_
  have BX10 := n5_
  have BX11 := n6_
  clear n0_ n1_ n2_ n3_ n4_ n5_ n6_
  haveI := GW.of HB.out
  clear hb
  obtain ⟨⟨c00, c01, c02⟩, fr00, fr01, fr02⟩ := box3 (show _ from BX5.out)
  obtain ⟨⟨c10, c11, c12⟩, fr10, fr11, fr12⟩ := box3 (show _ from BX8.out)
  obtain ⟨⟨c20, c21, c22⟩, fr20, fr21, fr22⟩ := box3 (show _ from BX9.out)
  obtain ⟨⟨c30, c31, c32⟩, fr30, fr31, fr32⟩ := box3 (show _ from BX10.out)
  obtain ⟨⟨c40, c41, c42⟩, fr40, fr41, fr42⟩ := box3 (show _ from BX11.out)
  go_wp2_with (go_at_call 17; refine hold_ ?_)
  unfold Held
  clear c00 c01 c02 fr00 fr01 fr02 c10 c11 c12 fr10 fr11 fr12 c20 c21 c22 fr20 fr21 fr22 c30 c31 c32 fr30 fr31 fr32 c40 c41 c42 fr40 fr41 fr42
  refine ((HH.out.below (B := w.heap.size) (by repeat (first | (with_reducible exact Below.refl _ _) | (with_reducible apply below_alloc) | (with_reducible apply pw_below_drewN) | (with_reducible apply below_drew1)))).pushE a0 x (room4 l l [] (kvFold [name] l) (by have := HL.out; omega) (by have := HL.out; omega) (by simp) (by have := fold_len l name; omega)) true (push_a0 l l [] (kvFold [name] l) x)).mono ?_
  rintro e w' ⟨rfl, O', hh, hno, hch⟩
  have gG5_ := Aside0.mk (hno _ (blk_lt (o := (.cells #[.int .i64 x.f0, .int .i64 x.f1, .string x.f2] 32)) (by repeat (first | (with_reducible exact BX5.out) | (with_reducible refine blk_alloc ?_ _) | (with_reducible refine blk_drewN ?_ _) | (with_reducible refine blk_drew ?_)))) G5.out)
  have gG8_ := Aside0.mk (hno _ (blk_lt (o := (.cells #[.int .i64 5, .int .i64 0, .string ⟨#[]⟩] 32)) (by repeat (first | (with_reducible exact BX8.out) | (with_reducible refine blk_alloc ?_ _) | (with_reducible refine blk_drewN ?_ _) | (with_reducible refine blk_drew ?_)))) G8.out)
  have gG9_ := Aside0.mk (hno _ (blk_lt (o := (.cells #[.int .i64 5, .int .i64 1, .string ⟨#[]⟩] 32)) (by repeat (first | (with_reducible exact BX9.out) | (with_reducible refine blk_alloc ?_ _) | (with_reducible refine blk_drewN ?_ _) | (with_reducible refine blk_drew ?_)))) G9.out)
  have gG10_ := Aside0.mk (hno _ (blk_lt (o := (.cells #[.int .i64 6, .int .i64 2, .string ⟨#[]⟩] 32)) (by repeat (first | (with_reducible exact BX10.out) | (with_reducible refine blk_alloc ?_ _) | (with_reducible refine blk_drewN ?_ _) | (with_reducible refine blk_drew ?_)))) G10.out)
  have gG11_ := Aside0.mk (hno _ (blk_lt (o := (.cells #[.int .i64 6, .int .i64 3, .string ⟨#[]⟩] 32)) (by repeat (first | (with_reducible exact BX11.out) | (with_reducible refine blk_alloc ?_ _) | (with_reducible refine blk_drewN ?_ _) | (with_reducible refine blk_drew ?_)))) G11.out)
  have n0_ := Aside0.mk hh
  have n1_ := Aside0.mk ((HH.out.below (by repeat (first | (with_reducible exact Below.refl _ _) | (with_reducible apply below_alloc) | (with_reducible apply pw_below_drewN) | (with_reducible apply below_drew1)))).own hch (by repeat (first | (with_reducible exact HB.out) | (with_reducible apply below_alloc) | (with_reducible apply pw_below_drewN) | (with_reducible apply below_drew1))))
  have n2_ := Aside0.mk (hch.blk (k := w.heap.size) (o := (.cells #[.int .i64 x.f0, .int .i64 x.f1, .string x.f2] 32)) (by repeat (first | (with_reducible exact BX5.out) | (with_reducible refine blk_alloc ?_ _) | (with_reducible refine blk_drewN ?_ _) | (with_reducible refine blk_drew ?_))) G5.out)
  have n3_ := Aside0.mk (hch.blk (k := w5.heap.size) (o := (.cells #[.int .i64 5, .int .i64 0, .string ⟨#[]⟩] 32)) (by repeat (first | (with_reducible exact BX8.out) | (with_reducible refine blk_alloc ?_ _) | (with_reducible refine blk_drewN ?_ _) | (with_reducible refine blk_drew ?_))) G8.out)
  have n4_ := Aside0.mk (hch.blk (k := (w5.heap.size + 1)) (o := (.cells #[.int .i64 5, .int .i64 1, .string ⟨#[]⟩] 32)) (by repeat (first | (with_reducible exact BX9.out) | (with_reducible refine blk_alloc ?_ _) | (with_reducible refine blk_drewN ?_ _) | (with_reducible refine blk_drew ?_))) G9.out)
  have n5_ := Aside0.mk (hch.blk (k := w7.heap.size) (o := (.cells #[.int .i64 6, .int .i64 2, .string ⟨#[]⟩] 32)) (by repeat (first | (with_reducible exact BX10.out) | (with_reducible refine blk_alloc ?_ _) | (with_reducible refine blk_drewN ?_ _) | (with_reducible refine blk_drew ?_))) G10.out)
  have n6_ := Aside0.mk (hch.blk (k := (w7.heap.size + 1)) (o := (.cells #[.int .i64 6, .int .i64 3, .string ⟨#[]⟩] 32)) (by repeat (first | (with_reducible exact BX11.out) | (with_reducible refine blk_alloc ?_ _) | (with_reducible refine blk_drewN ?_ _) | (with_reducible refine blk_drew ?_))) G11.out)
  clear HH HB BX5 BX8 BX9 BX10 BX11
  have HH := n0_
  have HB := n1_
  have BX5 := n2_
  have BX8 := n3_
  have BX9 := n4_
  have BX10 := n5_
  have BX11 := n6_
  clear n0_ n1_ n2_ n3_ n4_ n5_ n6_
  haveI := GW.of HB.out
  clear hh hno hch G5 G8 G9 G10 G11
  have G5 := gG5_
  have G8 := gG8_
  have G9 := gG9_
  have G10 := gG10_
  have G11 := gG11_
  clear gG5_ gG8_ gG9_ gG10_ gG11_
  obtain ⟨⟨c00, c01, c02⟩, fr00, fr01, fr02⟩ := box3 (show _ from BX5.out)
  obtain ⟨⟨c10, c11, c12⟩, fr10, fr11, fr12⟩ := box3 (show _ from BX8.out)
  obtain ⟨⟨c20, c21, c22⟩, fr20, fr21, fr22⟩ := box3 (show _ from BX9.out)
  obtain ⟨⟨c30, c31, c32⟩, fr30, fr31, fr32⟩ := box3 (show _ from BX10.out)
  obtain ⟨⟨c40, c41, c42⟩, fr40, fr41, fr42⟩ := box3 (show _ from BX11.out)
  go_wp2_with (go_at_call 15; refine hold_ ?_)
  unfold Held
  clear c00 c01 c02 fr00 fr01 fr02 c10 c11 c12 fr10 fr11 fr12 c20 c21 c22 fr20 fr21 fr22 c30 c31 c32 fr30 fr31 fr32 c40 c41 c42 fr40 fr41 fr42
  refine ((HH.out.below (B := w.heap.size) (by repeat (first | (with_reducible exact Below.refl _ _) | (with_reducible apply below_alloc) | (with_reducible apply pw_below_drewN) | (with_reducible apply below_drew1)))).setE p2 x name true (set_p2 (l ++ [x]) l [] (kvFold [name] l) x name)).mono ?_
  rintro e w9 ⟨rfl, O9, hh, hno, hch⟩
  have gG5_ := Aside0.mk (hno _ (blk_lt (o := (.cells #[.int .i64 x.f0, .int .i64 x.f1, .string x.f2] 32)) (by repeat (first | (with_reducible exact BX5.out) | (with_reducible refine blk_alloc ?_ _) | (with_reducible refine blk_drewN ?_ _) | (with_reducible refine blk_drew ?_)))) G5.out)
  have gG8_ := Aside0.mk (hno _ (blk_lt (o := (.cells #[.int .i64 5, .int .i64 0, .string ⟨#[]⟩] 32)) (by repeat (first | (with_reducible exact BX8.out) | (with_reducible refine blk_alloc ?_ _) | (with_reducible refine blk_drewN ?_ _) | (with_reducible refine blk_drew ?_)))) G8.out)
  have gG9_ := Aside0.mk (hno _ (blk_lt (o := (.cells #[.int .i64 5, .int .i64 1, .string ⟨#[]⟩] 32)) (by repeat (first | (with_reducible exact BX9.out) | (with_reducible refine blk_alloc ?_ _) | (with_reducible refine blk_drewN ?_ _) | (with_reducible refine blk_drew ?_)))) G9.out)
  have gG10_ := Aside0.mk (hno _ (blk_lt (o := (.cells #[.int .i64 6, .int .i64 2, .string ⟨#[]⟩] 32)) (by repeat (first | (with_reducible exact BX10.out) | (with_reducible refine blk_alloc ?_ _) | (with_reducible refine blk_drewN ?_ _) | (with_reducible refine blk_drew ?_)))) G10.out)
  have gG11_ := Aside0.mk (hno _ (blk_lt (o := (.cells #[.int .i64 6, .int .i64 3, .string ⟨#[]⟩] 32)) (by repeat (first | (with_reducible exact BX11.out) | (with_reducible refine blk_alloc ?_ _) | (with_reducible refine blk_drewN ?_ _) | (with_reducible refine blk_drew ?_)))) G11.out)
  have n0_ := Aside0.mk hh
  have n1_ := Aside0.mk ((HH.out.below (by repeat (first | (with_reducible exact Below.refl _ _) | (with_reducible apply below_alloc) | (with_reducible apply pw_below_drewN) | (with_reducible apply below_drew1)))).own hch (by repeat (first | (with_reducible exact HB.out) | (with_reducible apply below_alloc) | (with_reducible apply pw_below_drewN) | (with_reducible apply below_drew1))))
  have n2_ := Aside0.mk (hch.blk (k := w.heap.size) (o := (.cells #[.int .i64 x.f0, .int .i64 x.f1, .string x.f2] 32)) (by repeat (first | (with_reducible exact BX5.out) | (with_reducible refine blk_alloc ?_ _) | (with_reducible refine blk_drewN ?_ _) | (with_reducible refine blk_drew ?_))) G5.out)
  have n3_ := Aside0.mk (hch.blk (k := w5.heap.size) (o := (.cells #[.int .i64 5, .int .i64 0, .string ⟨#[]⟩] 32)) (by repeat (first | (with_reducible exact BX8.out) | (with_reducible refine blk_alloc ?_ _) | (with_reducible refine blk_drewN ?_ _) | (with_reducible refine blk_drew ?_))) G8.out)
  have n4_ := Aside0.mk (hch.blk (k := (w5.heap.size + 1)) (o := (.cells #[.int .i64 5, .int .i64 1, .string ⟨#[]⟩] 32)) (by repeat (first | (with_reducible exact BX9.out) | (with_reducible refine blk_alloc ?_ _) | (with_reducible refine blk_drewN ?_ _) | (with_reducible refine blk_drew ?_))) G9.out)
  have n5_ := Aside0.mk (hch.blk (k := w7.heap.size) (o := (.cells #[.int .i64 6, .int .i64 2, .string ⟨#[]⟩] 32)) (by repeat (first | (with_reducible exact BX10.out) | (with_reducible refine blk_alloc ?_ _) | (with_reducible refine blk_drewN ?_ _) | (with_reducible refine blk_drew ?_))) G10.out)
  have n6_ := Aside0.mk (hch.blk (k := (w7.heap.size + 1)) (o := (.cells #[.int .i64 6, .int .i64 3, .string ⟨#[]⟩] 32)) (by repeat (first | (with_reducible exact BX11.out) | (with_reducible refine blk_alloc ?_ _) | (with_reducible refine blk_drewN ?_ _) | (with_reducible refine blk_drew ?_))) G11.out)
  clear HH HB BX5 BX8 BX9 BX10 BX11
  have HH := n0_
  have HB := n1_
  have BX5 := n2_
  have BX8 := n3_
  have BX9 := n4_
  have BX10 := n5_
  have BX11 := n6_
  clear n0_ n1_ n2_ n3_ n4_ n5_ n6_
  haveI := GW.of HB.out
  clear hh hno hch G5 G8 G9 G10 G11
  have G5 := gG5_
  have G8 := gG8_
  have G9 := gG9_
  have G10 := gG10_
  have G11 := gG11_
  clear gG5_ gG8_ gG9_ gG10_ gG11_
  change Aside0 (Has _ _ _ _ [.arr (l ++ [x]), .arr l, .obj [(name, x)], .obj (kvFold [name] l)]) at HH
  obtain ⟨⟨c00, c01, c02⟩, fr00, fr01, fr02⟩ := box3 (show _ from BX5.out)
  obtain ⟨⟨c10, c11, c12⟩, fr10, fr11, fr12⟩ := box3 (show _ from BX8.out)
  obtain ⟨⟨c20, c21, c22⟩, fr20, fr21, fr22⟩ := box3 (show _ from BX9.out)
  obtain ⟨⟨c30, c31, c32⟩, fr30, fr31, fr32⟩ := box3 (show _ from BX10.out)
  obtain ⟨⟨c40, c41, c42⟩, fr40, fr41, fr42⟩ := box3 (show _ from BX11.out)
  go_wp2_with (go_at_call 11; refine hold_ ?_)
  unfold Held
  clear c00 c01 c02 fr00 fr01 fr02 c10 c11 c12 fr10 fr11 fr12 c20 c21 c22 fr20 fr21 fr22 c30 c31 c32 fr30 fr31 fr32 c40 c41 c42 fr40 fr41 fr42
  refine ((HH.out.below (B := w.heap.size) (by repeat (first | (with_reducible exact Below.refl _ _) | (with_reducible apply below_alloc) | (with_reducible apply pw_below_drewN) | (with_reducible apply below_drew1)))).atE a0 (l.length : Int) x true ((at_a0 (l ++ [x]) l [(name, x)] (kvFold [name] l) (l.length : Int) (by omega) (by simp; omega)).trans (by rw [rd_new]))).mono ?_
  rintro e w10 ⟨rfl, hb⟩
  have n0_ := Aside0.mk (HH.out.below (below_step (by repeat (first | (with_reducible exact Below.refl _ _) | (with_reducible apply below_alloc) | (with_reducible apply pw_below_drewN) | (with_reducible apply below_drew1))) hb))
  have n1_ := Aside0.mk (below_step (by repeat (first | (with_reducible exact HB.out) | (with_reducible apply below_alloc) | (with_reducible apply pw_below_drewN) | (with_reducible apply below_drew1))) hb)
  have n2_ := Aside0.mk (blk_below (g := w.heap.size) (o := (.cells #[.int .i64 x.f0, .int .i64 x.f1, .string x.f2] 32)) (by repeat (first | (with_reducible exact BX5.out) | (with_reducible refine blk_alloc ?_ _) | (with_reducible refine blk_drewN ?_ _) | (with_reducible refine blk_drew ?_))) hb)
  have n3_ := Aside0.mk (blk_below (g := w5.heap.size) (o := (.cells #[.int .i64 5, .int .i64 0, .string ⟨#[]⟩] 32)) (by repeat (first | (with_reducible exact BX8.out) | (with_reducible refine blk_alloc ?_ _) | (with_reducible refine blk_drewN ?_ _) | (with_reducible refine blk_drew ?_))) hb)
  have n4_ := Aside0.mk (blk_below (g := (w5.heap.size + 1)) (o := (.cells #[.int .i64 5, .int .i64 1, .string ⟨#[]⟩] 32)) (by repeat (first | (with_reducible exact BX9.out) | (with_reducible refine blk_alloc ?_ _) | (with_reducible refine blk_drewN ?_ _) | (with_reducible refine blk_drew ?_))) hb)
  have n5_ := Aside0.mk (blk_below (g := w7.heap.size) (o := (.cells #[.int .i64 6, .int .i64 2, .string ⟨#[]⟩] 32)) (by repeat (first | (with_reducible exact BX10.out) | (with_reducible refine blk_alloc ?_ _) | (with_reducible refine blk_drewN ?_ _) | (with_reducible refine blk_drew ?_))) hb)
  have n6_ := Aside0.mk (blk_below (g := (w7.heap.size + 1)) (o := (.cells #[.int .i64 6, .int .i64 3, .string ⟨#[]⟩] 32)) (by repeat (first | (with_reducible exact BX11.out) | (with_reducible refine blk_alloc ?_ _) | (with_reducible refine blk_drewN ?_ _) | (with_reducible refine blk_drew ?_))) hb)
  clear HH HB BX5 BX8 BX9 BX10 BX11
  have HH := n0_
  have HB := n1_
  have BX5 := n2_
  have BX8 := n3_
  have BX9 := n4_
  have BX10 := n5_
  have BX11 := n6_
  clear n0_ n1_ n2_ n3_ n4_ n5_ n6_
  haveI := GW.of HB.out
  clear hb
  have BX12 := Aside0.mk (heap_alloc_new w10 (.cells #[.int .i64 x.f0, .int .i64 x.f1, .string x.f2] 32))
  obtain ⟨⟨c00, c01, c02⟩, fr00, fr01, fr02⟩ := box3 (show (w10.alloc (.cells #[.int .i64 x.f0, .int .i64 x.f1, .string x.f2] 32)).heap[(w5.heap.size + 1)]? = some (.cells #[.int .i64 5, .int .i64 1, .string ⟨#[]⟩] 32) from (by repeat (first | (with_reducible exact BX9.out) | (with_reducible refine blk_alloc ?_ _) | (with_reducible refine blk_drewN ?_ _) | (with_reducible refine blk_drew ?_))))
  go_wp2_with (go_at_call 11; refine hold_ ?_)
  unfold Held
  clear c00 c01 c02 fr00 fr01 fr02
  refine ((HH.out.below (B := w.heap.size) (by repeat (first | (with_reducible exact Below.refl _ _) | (with_reducible apply below_alloc) | (with_reducible apply pw_below_drewN) | (with_reducible apply below_drew1)))).atZ a1 (l.length : Int) (at_a1 (l ++ [x]) l [(name, x)] (kvFold [name] l) (l.length : Int) (by omega))).mono ?_
  rintro e w11 ⟨rfl, hb⟩
  have n0_ := Aside0.mk (HH.out.below (below_step (by repeat (first | (with_reducible exact Below.refl _ _) | (with_reducible apply below_alloc) | (with_reducible apply pw_below_drewN) | (with_reducible apply below_drew1))) hb))
  have n1_ := Aside0.mk (below_step (by repeat (first | (with_reducible exact HB.out) | (with_reducible apply below_alloc) | (with_reducible apply pw_below_drewN) | (with_reducible apply below_drew1))) hb)
  have n2_ := Aside0.mk (blk_below (g := w.heap.size) (o := (.cells #[.int .i64 x.f0, .int .i64 x.f1, .string x.f2] 32)) (by repeat (first | (with_reducible exact BX5.out) | (with_reducible refine blk_alloc ?_ _) | (with_reducible refine blk_drewN ?_ _) | (with_reducible refine blk_drew ?_))) hb)
  have n3_ := Aside0.mk (blk_below (g := w5.heap.size) (o := (.cells #[.int .i64 5, .int .i64 0, .string ⟨#[]⟩] 32)) (by repeat (first | (with_reducible exact BX8.out) | (with_reducible refine blk_alloc ?_ _) | (with_reducible refine blk_drewN ?_ _) | (with_reducible refine blk_drew ?_))) hb)
  have n4_ := Aside0.mk (blk_below (g := (w5.heap.size + 1)) (o := (.cells #[.int .i64 5, .int .i64 1, .string ⟨#[]⟩] 32)) (by repeat (first | (with_reducible exact BX9.out) | (with_reducible refine blk_alloc ?_ _) | (with_reducible refine blk_drewN ?_ _) | (with_reducible refine blk_drew ?_))) hb)
  have n5_ := Aside0.mk (blk_below (g := w7.heap.size) (o := (.cells #[.int .i64 6, .int .i64 2, .string ⟨#[]⟩] 32)) (by repeat (first | (with_reducible exact BX10.out) | (with_reducible refine blk_alloc ?_ _) | (with_reducible refine blk_drewN ?_ _) | (with_reducible refine blk_drew ?_))) hb)
  have n6_ := Aside0.mk (blk_below (g := (w7.heap.size + 1)) (o := (.cells #[.int .i64 6, .int .i64 3, .string ⟨#[]⟩] 32)) (by repeat (first | (with_reducible exact BX11.out) | (with_reducible refine blk_alloc ?_ _) | (with_reducible refine blk_drewN ?_ _) | (with_reducible refine blk_drew ?_))) hb)
  have n7_ := Aside0.mk (blk_below (g := w10.heap.size) (o := (.cells #[.int .i64 x.f0, .int .i64 x.f1, .string x.f2] 32)) (by repeat (first | (with_reducible exact BX12.out) | (with_reducible refine blk_alloc ?_ _) | (with_reducible refine blk_drewN ?_ _) | (with_reducible refine blk_drew ?_))) hb)
  clear HH HB BX5 BX8 BX9 BX10 BX11 BX12
  have HH := n0_
  have HB := n1_
  have BX5 := n2_
  have BX8 := n3_
  have BX9 := n4_
  have BX10 := n5_
  have BX11 := n6_
  have BX12 := n7_
  clear n0_ n1_ n2_ n3_ n4_ n5_ n6_ n7_
  haveI := GW.of HB.out
  clear hb
  have BX14 := Aside0.mk (heap_alloc_new w11 (.cells #[.int .i64 0, .int .i64 0, .string ⟨#[]⟩] 32))
  obtain ⟨⟨c00, c01, c02⟩, fr00, fr01, fr02⟩ := box3 (show (w11.alloc (.cells #[.int .i64 0, .int .i64 0, .string ⟨#[]⟩] 32)).heap[w7.heap.size]? = some (.cells #[.int .i64 6, .int .i64 2, .string ⟨#[]⟩] 32) from (by repeat (first | (with_reducible exact BX10.out) | (with_reducible refine blk_alloc ?_ _) | (with_reducible refine blk_drewN ?_ _) | (with_reducible refine blk_drew ?_))))
  go_wp2_with (go_at_call 10; refine hold_ ?_)
  unfold Held
  clear c00 c01 c02 fr00 fr01 fr02
  refine ((HH.out.below (B := w.heap.size) (by repeat (first | (with_reducible exact Below.refl _ _) | (with_reducible apply below_alloc) | (with_reducible apply pw_below_drewN) | (with_reducible apply below_drew1)))).getE p2 name x true ((get_p2 (l ++ [x]) l [(name, x)] (kvFold [name] l) name).trans (by rw [get_one]; rfl))).mono ?_
  rintro e w12 ⟨rfl, hb⟩
  have n0_ := Aside0.mk (HH.out.below (below_step (by repeat (first | (with_reducible exact Below.refl _ _) | (with_reducible apply below_alloc) | (with_reducible apply pw_below_drewN) | (with_reducible apply below_drew1))) hb))
  have n1_ := Aside0.mk (below_step (by repeat (first | (with_reducible exact HB.out) | (with_reducible apply below_alloc) | (with_reducible apply pw_below_drewN) | (with_reducible apply below_drew1))) hb)
  have n2_ := Aside0.mk (blk_below (g := w.heap.size) (o := (.cells #[.int .i64 x.f0, .int .i64 x.f1, .string x.f2] 32)) (by repeat (first | (with_reducible exact BX5.out) | (with_reducible refine blk_alloc ?_ _) | (with_reducible refine blk_drewN ?_ _) | (with_reducible refine blk_drew ?_))) hb)
  have n3_ := Aside0.mk (blk_below (g := w5.heap.size) (o := (.cells #[.int .i64 5, .int .i64 0, .string ⟨#[]⟩] 32)) (by repeat (first | (with_reducible exact BX8.out) | (with_reducible refine blk_alloc ?_ _) | (with_reducible refine blk_drewN ?_ _) | (with_reducible refine blk_drew ?_))) hb)
  have n4_ := Aside0.mk (blk_below (g := (w5.heap.size + 1)) (o := (.cells #[.int .i64 5, .int .i64 1, .string ⟨#[]⟩] 32)) (by repeat (first | (with_reducible exact BX9.out) | (with_reducible refine blk_alloc ?_ _) | (with_reducible refine blk_drewN ?_ _) | (with_reducible refine blk_drew ?_))) hb)
  have n5_ := Aside0.mk (blk_below (g := w7.heap.size) (o := (.cells #[.int .i64 6, .int .i64 2, .string ⟨#[]⟩] 32)) (by repeat (first | (with_reducible exact BX10.out) | (with_reducible refine blk_alloc ?_ _) | (with_reducible refine blk_drewN ?_ _) | (with_reducible refine blk_drew ?_))) hb)
  have n6_ := Aside0.mk (blk_below (g := (w7.heap.size + 1)) (o := (.cells #[.int .i64 6, .int .i64 3, .string ⟨#[]⟩] 32)) (by repeat (first | (with_reducible exact BX11.out) | (with_reducible refine blk_alloc ?_ _) | (with_reducible refine blk_drewN ?_ _) | (with_reducible refine blk_drew ?_))) hb)
  have n7_ := Aside0.mk (blk_below (g := w10.heap.size) (o := (.cells #[.int .i64 x.f0, .int .i64 x.f1, .string x.f2] 32)) (by repeat (first | (with_reducible exact BX12.out) | (with_reducible refine blk_alloc ?_ _) | (with_reducible refine blk_drewN ?_ _) | (with_reducible refine blk_drew ?_))) hb)
  have n8_ := Aside0.mk (blk_below (g := w11.heap.size) (o := (.cells #[.int .i64 0, .int .i64 0, .string ⟨#[]⟩] 32)) (by repeat (first | (with_reducible exact BX14.out) | (with_reducible refine blk_alloc ?_ _) | (with_reducible refine blk_drewN ?_ _) | (with_reducible refine blk_drew ?_))) hb)
  clear HH HB BX5 BX8 BX9 BX10 BX11 BX12 BX14
  have HH := n0_
  have HB := n1_
  have BX5 := n2_
  have BX8 := n3_
  have BX9 := n4_
  have BX10 := n5_
  have BX11 := n6_
  have BX12 := n7_
  have BX14 := n8_
  clear n0_ n1_ n2_ n3_ n4_ n5_ n6_ n7_ n8_
  haveI := GW.of HB.out
  clear hb
  have BX16 := Aside0.mk (heap_alloc_new w12 (.cells #[.int .i64 x.f0, .int .i64 x.f1, .string x.f2] 32))
  obtain ⟨⟨c00, c01, c02⟩, fr00, fr01, fr02⟩ := box3 (show (w12.alloc (.cells #[.int .i64 x.f0, .int .i64 x.f1, .string x.f2] 32)).heap[(w7.heap.size + 1)]? = some (.cells #[.int .i64 6, .int .i64 3, .string ⟨#[]⟩] 32) from (by repeat (first | (with_reducible exact BX11.out) | (with_reducible refine blk_alloc ?_ _) | (with_reducible refine blk_drewN ?_ _) | (with_reducible refine blk_drew ?_))))
  go_wp2_with (go_at_call 10; refine hold_ ?_)
  unfold Held
  clear c00 c01 c02 fr00 fr01 fr02
  refine ((HH.out.below (B := w.heap.size) (by repeat (first | (with_reducible exact Below.refl _ _) | (with_reducible apply below_alloc) | (with_reducible apply pw_below_drewN) | (with_reducible apply below_drew1)))).getZ q3 name ((get_q3 (l ++ [x]) l [(name, x)] (kvFold [name] l) name).trans (by rw [fold_nil l name H0.out]; rfl))).mono ?_
  rintro e w13 ⟨rfl, hb⟩
  have n0_ := Aside0.mk (HH.out.below (below_step (by repeat (first | (with_reducible exact Below.refl _ _) | (with_reducible apply below_alloc) | (with_reducible apply pw_below_drewN) | (with_reducible apply below_drew1))) hb))
  have n1_ := Aside0.mk (below_step (by repeat (first | (with_reducible exact HB.out) | (with_reducible apply below_alloc) | (with_reducible apply pw_below_drewN) | (with_reducible apply below_drew1))) hb)
  have n2_ := Aside0.mk (blk_below (g := w.heap.size) (o := (.cells #[.int .i64 x.f0, .int .i64 x.f1, .string x.f2] 32)) (by repeat (first | (with_reducible exact BX5.out) | (with_reducible refine blk_alloc ?_ _) | (with_reducible refine blk_drewN ?_ _) | (with_reducible refine blk_drew ?_))) hb)
  have n3_ := Aside0.mk (blk_below (g := w5.heap.size) (o := (.cells #[.int .i64 5, .int .i64 0, .string ⟨#[]⟩] 32)) (by repeat (first | (with_reducible exact BX8.out) | (with_reducible refine blk_alloc ?_ _) | (with_reducible refine blk_drewN ?_ _) | (with_reducible refine blk_drew ?_))) hb)
  have n4_ := Aside0.mk (blk_below (g := (w5.heap.size + 1)) (o := (.cells #[.int .i64 5, .int .i64 1, .string ⟨#[]⟩] 32)) (by repeat (first | (with_reducible exact BX9.out) | (with_reducible refine blk_alloc ?_ _) | (with_reducible refine blk_drewN ?_ _) | (with_reducible refine blk_drew ?_))) hb)
  have n5_ := Aside0.mk (blk_below (g := w7.heap.size) (o := (.cells #[.int .i64 6, .int .i64 2, .string ⟨#[]⟩] 32)) (by repeat (first | (with_reducible exact BX10.out) | (with_reducible refine blk_alloc ?_ _) | (with_reducible refine blk_drewN ?_ _) | (with_reducible refine blk_drew ?_))) hb)
  have n6_ := Aside0.mk (blk_below (g := (w7.heap.size + 1)) (o := (.cells #[.int .i64 6, .int .i64 3, .string ⟨#[]⟩] 32)) (by repeat (first | (with_reducible exact BX11.out) | (with_reducible refine blk_alloc ?_ _) | (with_reducible refine blk_drewN ?_ _) | (with_reducible refine blk_drew ?_))) hb)
  have n7_ := Aside0.mk (blk_below (g := w10.heap.size) (o := (.cells #[.int .i64 x.f0, .int .i64 x.f1, .string x.f2] 32)) (by repeat (first | (with_reducible exact BX12.out) | (with_reducible refine blk_alloc ?_ _) | (with_reducible refine blk_drewN ?_ _) | (with_reducible refine blk_drew ?_))) hb)
  have n8_ := Aside0.mk (blk_below (g := w11.heap.size) (o := (.cells #[.int .i64 0, .int .i64 0, .string ⟨#[]⟩] 32)) (by repeat (first | (with_reducible exact BX14.out) | (with_reducible refine blk_alloc ?_ _) | (with_reducible refine blk_drewN ?_ _) | (with_reducible refine blk_drew ?_))) hb)
  have n9_ := Aside0.mk (blk_below (g := w12.heap.size) (o := (.cells #[.int .i64 x.f0, .int .i64 x.f1, .string x.f2] 32)) (by repeat (first | (with_reducible exact BX16.out) | (with_reducible refine blk_alloc ?_ _) | (with_reducible refine blk_drewN ?_ _) | (with_reducible refine blk_drew ?_))) hb)
  clear HH HB BX5 BX8 BX9 BX10 BX11 BX12 BX14 BX16
  have HH := n0_
  have HB := n1_
  have BX5 := n2_
  have BX8 := n3_
  have BX9 := n4_
  have BX10 := n5_
  have BX11 := n6_
  have BX12 := n7_
  have BX14 := n8_
  have BX16 := n9_
  clear n0_ n1_ n2_ n3_ n4_ n5_ n6_ n7_ n8_ n9_
  haveI := GW.of HB.out
  clear hb
  have BX18 := Aside0.mk (heap_alloc_new w13 (.cells #[.int .i64 0, .int .i64 0, .string ⟨#[]⟩] 32))
  go_wp2
  have n0_ := Aside0.mk (show Has w.heap.size (w13.alloc (.cells #[.int .i64 0, .int .i64 0, .string ⟨#[]⟩] 32)) O9 (w.heap.size + 1) _ from HH.out.below (by repeat (first | (with_reducible exact Below.refl _ _) | (with_reducible apply below_alloc) | (with_reducible apply pw_below_drewN) | (with_reducible apply below_drew1))))
  have n1_ := Aside0.mk (show Below w.heap.size w (w13.alloc (.cells #[.int .i64 0, .int .i64 0, .string ⟨#[]⟩] 32)) from (by repeat (first | (with_reducible exact HB.out) | (with_reducible apply below_alloc) | (with_reducible apply pw_below_drewN) | (with_reducible apply below_drew1))))
  have n2_ := Aside0.mk (show (w13.alloc (.cells #[.int .i64 0, .int .i64 0, .string ⟨#[]⟩] 32)).heap[w.heap.size]? = some (.cells #[.int .i64 x.f0, .int .i64 x.f1, .string x.f2] 32) from (by repeat (first | (with_reducible exact BX5.out) | (with_reducible refine blk_alloc ?_ _) | (with_reducible refine blk_drewN ?_ _) | (with_reducible refine blk_drew ?_))))
  have n3_ := Aside0.mk (show (w13.alloc (.cells #[.int .i64 0, .int .i64 0, .string ⟨#[]⟩] 32)).heap[w5.heap.size]? = some (.cells #[.int .i64 5, .int .i64 0, .string ⟨#[]⟩] 32) from (by repeat (first | (with_reducible exact BX8.out) | (with_reducible refine blk_alloc ?_ _) | (with_reducible refine blk_drewN ?_ _) | (with_reducible refine blk_drew ?_))))
  have n4_ := Aside0.mk (show (w13.alloc (.cells #[.int .i64 0, .int .i64 0, .string ⟨#[]⟩] 32)).heap[(w5.heap.size + 1)]? = some (.cells #[.int .i64 5, .int .i64 1, .string ⟨#[]⟩] 32) from (by repeat (first | (with_reducible exact BX9.out) | (with_reducible refine blk_alloc ?_ _) | (with_reducible refine blk_drewN ?_ _) | (with_reducible refine blk_drew ?_))))
  have n5_ := Aside0.mk (show (w13.alloc (.cells #[.int .i64 0, .int .i64 0, .string ⟨#[]⟩] 32)).heap[w7.heap.size]? = some (.cells #[.int .i64 6, .int .i64 2, .string ⟨#[]⟩] 32) from (by repeat (first | (with_reducible exact BX10.out) | (with_reducible refine blk_alloc ?_ _) | (with_reducible refine blk_drewN ?_ _) | (with_reducible refine blk_drew ?_))))
  have n6_ := Aside0.mk (show (w13.alloc (.cells #[.int .i64 0, .int .i64 0, .string ⟨#[]⟩] 32)).heap[(w7.heap.size + 1)]? = some (.cells #[.int .i64 6, .int .i64 3, .string ⟨#[]⟩] 32) from (by repeat (first | (with_reducible exact BX11.out) | (with_reducible refine blk_alloc ?_ _) | (with_reducible refine blk_drewN ?_ _) | (with_reducible refine blk_drew ?_))))
  have n7_ := Aside0.mk (show (w13.alloc (.cells #[.int .i64 0, .int .i64 0, .string ⟨#[]⟩] 32)).heap[w10.heap.size]? = some (.cells #[.int .i64 x.f0, .int .i64 x.f1, .string x.f2] 32) from (by repeat (first | (with_reducible exact BX12.out) | (with_reducible refine blk_alloc ?_ _) | (with_reducible refine blk_drewN ?_ _) | (with_reducible refine blk_drew ?_))))
  have n8_ := Aside0.mk (show (w13.alloc (.cells #[.int .i64 0, .int .i64 0, .string ⟨#[]⟩] 32)).heap[w11.heap.size]? = some (.cells #[.int .i64 0, .int .i64 0, .string ⟨#[]⟩] 32) from (by repeat (first | (with_reducible exact BX14.out) | (with_reducible refine blk_alloc ?_ _) | (with_reducible refine blk_drewN ?_ _) | (with_reducible refine blk_drew ?_))))
  have n9_ := Aside0.mk (show (w13.alloc (.cells #[.int .i64 0, .int .i64 0, .string ⟨#[]⟩] 32)).heap[w12.heap.size]? = some (.cells #[.int .i64 x.f0, .int .i64 x.f1, .string x.f2] 32) from (by repeat (first | (with_reducible exact BX16.out) | (with_reducible refine blk_alloc ?_ _) | (with_reducible refine blk_drewN ?_ _) | (with_reducible refine blk_drew ?_))))
  have n10_ := Aside0.mk (show (w13.alloc (.cells #[.int .i64 0, .int .i64 0, .string ⟨#[]⟩] 32)).heap[w13.heap.size]? = some (.cells #[.int .i64 0, .int .i64 0, .string ⟨#[]⟩] 32) from (by repeat (first | (with_reducible exact BX18.out) | (with_reducible refine blk_alloc ?_ _) | (with_reducible refine blk_drewN ?_ _) | (with_reducible refine blk_drew ?_))))
  clear HH HB BX5 BX8 BX9 BX10 BX11 BX12 BX14 BX16 BX18
  have HH := n0_
  have HB := n1_
  have BX5 := n2_
  have BX8 := n3_
  have BX9 := n4_
  have BX10 := n5_
  have BX11 := n6_
  have BX12 := n7_
  have BX14 := n8_
  have BX16 := n9_
  have BX18 := n10_
  clear n0_ n1_ n2_ n3_ n4_ n5_ n6_ n7_ n8_ n9_ n10_
  haveI := GW.of HB.out
  generalize w13.alloc (.cells #[.int .i64 0, .int .i64 0, .string ⟨#[]⟩] 32) = w14 at *
  have hlt : (0 < l.length) = False := eq_false (by have := H0.out; omega)
  have d0 : decide ((0 : Int) < (l.length : Int)) = false := decide_eq_false (by have := H0.out; omega)
  have ew : wrap64 ((l.length : Int) + 1) = (l.length : Int) + 1 := by have := HL.out; unfold wrap64; omega
  refine start_ (n := 53) (S := fun w' => w'.cell? ⟨w10.heap.size, 0, none⟩ = some (.int .i64 x.f0) ∧ w'.cell? ⟨w10.heap.size, 1, none⟩ = some (.int .i64 x.f1) ∧ w'.cell? ⟨w10.heap.size, 2, none⟩ = some (.string x.f2) ∧ w'.cell? ⟨w.heap.size, 0, none⟩ = some (.int .i64 x.f0) ∧ w'.cell? ⟨w.heap.size, 1, none⟩ = some (.int .i64 x.f1) ∧ w'.cell? ⟨w.heap.size, 2, none⟩ = some (.string x.f2) ∧ w'.cell? ⟨w12.heap.size, 0, none⟩ = some (.int .i64 x.f0) ∧ w'.cell? ⟨w12.heap.size, 1, none⟩ = some (.int .i64 x.f1) ∧ w'.cell? ⟨w12.heap.size, 2, none⟩ = some (.string x.f2) ∧ w'.cell? ⟨w13.heap.size, 0, none⟩ = some (.int .i64 0) ∧ w'.cell? ⟨w13.heap.size, 1, none⟩ = some (.int .i64 0) ∧ w'.cell? ⟨w13.heap.size, 2, none⟩ = some (.string ⟨#[]⟩) ∧ w'.cell? ⟨w5.heap.size, 0, none⟩ = some (.int .i64 5) ∧ w'.cell? ⟨w5.heap.size, 1, none⟩ = some (.int .i64 0) ∧ w'.cell? ⟨w5.heap.size, 2, none⟩ = some (.string ⟨#[]⟩) ∧ w'.cell? ⟨(w5.heap.size + 1), 0, none⟩ = some (.int .i64 5) ∧ w'.cell? ⟨(w5.heap.size + 1), 1, none⟩ = some (.int .i64 1) ∧ w'.cell? ⟨(w5.heap.size + 1), 2, none⟩ = some (.string ⟨#[]⟩)) (ds := []) #[false, false, false, false, false, false, false, false, false, false, false, false, false, false, false, false, false, false, false, false, false, false, false, false, false, false, false, false, false, false, false, false, false, false, false, false, false, false, false, false, false, false, false, false, false, false, false, false, false, false, false, false, false] (by kernel_rfl) rfl rfl ⟨(blk_cell BX12.out 0).trans rfl, (blk_cell BX12.out 1).trans rfl, (blk_cell BX12.out 2).trans rfl, (blk_cell BX5.out 0).trans rfl, (blk_cell BX5.out 1).trans rfl, (blk_cell BX5.out 2).trans rfl, (blk_cell BX16.out 0).trans rfl, (blk_cell BX16.out 1).trans rfl, (blk_cell BX16.out 2).trans rfl, (blk_cell BX18.out 0).trans rfl, (blk_cell BX18.out 1).trans rfl, (blk_cell BX18.out 2).trans rfl, (blk_cell BX8.out 0).trans rfl, (blk_cell BX8.out 1).trans rfl, (blk_cell BX8.out 2).trans rfl, (blk_cell BX9.out 0).trans rfl, (blk_cell BX9.out 1).trans rfl, (blk_cell BX9.out 2).trans rfl⟩ (fun hHeld => ?_); refine with_tabW apart12.tab apart12.bits (fun HT_ HW_ => ?_)
  refine take_ (i := 0) (N := some 104) (v := ?_) (a' := ?_) #[true, false, false, false, false, false, false, false, false, false, false, false, false, false, false, false, false, false, false, false, false, false, false, false, false, false, false, false, false, false, false, false, false, false, false, false, false, false, false, false, false, false, false, false, false, false, false, false, false, false, false, false, false] rfl rfl (take_ofW HT_.out HW_.out (by kernel_rfl)) (fun _ _ _ h => h) (Or.inl ⟨by rfl, ?_⟩) hHeld ?_ ?_
  rotate_left
  · rintro w' ⟨s0, s1, s2, s3, s4, s5, s6, s7, s8, s9, s10, s11, s12, s13, s14, s15, s16, s17⟩
    go_simp
    with_reducible rfl
  rotate_left
  · simp only [Act.put, List.setIfInBounds_toArray, List.set_cons_zero, List.set_cons_succ, i64_w, i32_w]
    rfl
  refine take_ (i := 1) (N := some 105) (v := ?_) (a' := ?_) #[true, true, false, false, false, false, false, false, false, false, false, false, false, false, false, false, false, false, false, false, false, false, false, false, false, false, false, false, false, false, false, false, false, false, false, false, false, false, false, false, false, false, false, false, false, false, false, false, false, false, false, false, false] rfl rfl (take_ofW HT_.out HW_.out (by kernel_rfl)) (fun _ _ _ h => h) (Or.inl ⟨by rfl, ?_⟩) hHeld ?_ ?_
  rotate_left
  · rintro w' ⟨s0, s1, s2, s3, s4, s5, s6, s7, s8, s9, s10, s11, s12, s13, s14, s15, s16, s17⟩
    go_simp
    with_reducible rfl
  rotate_left
  · simp only [Act.put, List.setIfInBounds_toArray, List.set_cons_zero, List.set_cons_succ, i64_w, i32_w]
    rfl
  refine pure_ (i := 2) (N := some 106) (v := ?_) (a' := ?_) #[true, true, true, false, false, false, false, false, false, false, false, false, false, false, false, false, false, false, false, false, false, false, false, false, false, false, false, false, false, false, false, false, false, false, false, false, false, false, false, false, false, false, false, false, false, false, false, false, false, false, false, false, false] rfl rfl (any_of HT_.out (by kernel_rfl)) (fun _ _ _ h => h) (Or.inl ⟨by rfl, ?_⟩) ?_ ?_
  rotate_left
  · intro w'
    go_simp
    with_reducible rfl
  rotate_left
  · simp only [Act.put, List.setIfInBounds_toArray, List.set_cons_zero, List.set_cons_succ, i64_w, i32_w]
    rfl
  refine pure_ (i := 3) (N := some 107) (v := ?_) (a' := ?_) #[true, true, true, true, false, false, false, false, false, false, false, false, false, false, false, false, false, false, false, false, false, false, false, false, false, false, false, false, false, false, false, false, false, false, false, false, false, false, false, false, false, false, false, false, false, false, false, false, false, false, false, false, false] rfl rfl (any_of HT_.out (by kernel_rfl)) (fun _ _ _ h => h) (Or.inl ⟨by rfl, ?_⟩) ?_ ?_
  rotate_left
  · intro w'
    go_simp
    with_reducible rfl
  rotate_left
  · simp only [Act.put, List.setIfInBounds_toArray, List.set_cons_zero, List.set_cons_succ, i64_w, i32_w]
    rfl
  refine pure_ (i := 4) (N := some 108) (v := ?_) (a' := ?_) #[true, true, true, true, true, false, false, false, false, false, false, false, false, false, false, false, false, false, false, false, false, false, false, false, false, false, false, false, false, false, false, false, false, false, false, false, false, false, false, false, false, false, false, false, false, false, false, false, false, false, false, false, false] rfl rfl (any_of HT_.out (by kernel_rfl)) (fun _ _ _ h => h) (Or.inl ⟨by rfl, ?_⟩) ?_ ?_
  rotate_left
  · intro w'
    go_simp
    with_reducible rfl
  rotate_left
  · simp only [Act.put, List.setIfInBounds_toArray, List.set_cons_zero, List.set_cons_succ, i64_w, i32_w]
    rfl
  refine pure_ (i := 5) (N := some 109) (v := ?_) (a' := ?_) #[true, true, true, true, true, true, false, false, false, false, false, false, false, false, false, false, false, false, false, false, false, false, false, false, false, false, false, false, false, false, false, false, false, false, false, false, false, false, false, false, false, false, false, false, false, false, false, false, false, false, false, false, false] rfl rfl (any_of HT_.out (by kernel_rfl)) (fun _ _ _ h => h) (Or.inl ⟨by rfl, ?_⟩) ?_ ?_
  rotate_left
  · intro w'
    go_simp
    with_reducible rfl
  rotate_left
  · simp only [Act.put, List.setIfInBounds_toArray, List.set_cons_zero, List.set_cons_succ, i64_w, i32_w]
    rfl
  refine pure_ (i := 6) (N := some 110) (v := ?_) (a' := ?_) #[true, true, true, true, true, true, true, false, false, false, false, false, false, false, false, false, false, false, false, false, false, false, false, false, false, false, false, false, false, false, false, false, false, false, false, false, false, false, false, false, false, false, false, false, false, false, false, false, false, false, false, false, false] rfl rfl (any_of HT_.out (by kernel_rfl)) (fun _ _ _ h => h) (Or.inl ⟨by rfl, ?_⟩) ?_ ?_
  rotate_left
  · intro w'
    go_simp
    with_reducible rfl
  rotate_left
  · simp only [Act.put, List.setIfInBounds_toArray, List.set_cons_zero, List.set_cons_succ, i64_w, i32_w]
    rfl
  refine pure_ (i := 7) (N := some 111) (v := ?_) (a' := ?_) #[true, true, true, true, true, true, true, true, false, false, false, false, false, false, false, false, false, false, false, false, false, false, false, false, false, false, false, false, false, false, false, false, false, false, false, false, false, false, false, false, false, false, false, false, false, false, false, false, false, false, false, false, false] rfl rfl (any_of HT_.out (by kernel_rfl)) (fun _ _ _ h => h) (Or.inl ⟨by rfl, ?_⟩) ?_ ?_
  rotate_left
  · intro w'
    go_simp
    with_reducible rfl
  rotate_left
  · simp only [Act.put, List.setIfInBounds_toArray, List.set_cons_zero, List.set_cons_succ, i64_w, i32_w]
    rfl
  refine pure_ (i := 8) (N := some 112) (v := ?_) (a' := ?_) #[true, true, true, true, true, true, true, true, true, false, false, false, false, false, false, false, false, false, false, false, false, false, false, false, false, false, false, false, false, false, false, false, false, false, false, false, false, false, false, false, false, false, false, false, false, false, false, false, false, false, false, false, false] rfl rfl (any_of HT_.out (by kernel_rfl)) (fun _ _ _ h => h) (Or.inl ⟨by rfl, ?_⟩) ?_ ?_
  rotate_left
  · intro w'
    go_simp
    with_reducible rfl
  rotate_left
  · simp only [Act.put, List.setIfInBounds_toArray, List.set_cons_zero, List.set_cons_succ, i64_w, i32_w]
    rfl
  refine pure_ (i := 9) (N := some 113) (v := ?_) (a' := ?_) #[true, true, true, true, true, true, true, true, true, true, false, false, false, false, false, false, false, false, false, false, false, false, false, false, false, false, false, false, false, false, false, false, false, false, false, false, false, false, false, false, false, false, false, false, false, false, false, false, false, false, false, false, false] rfl rfl (any_of HT_.out (by kernel_rfl)) (fun _ _ _ h => h) (Or.inl ⟨by rfl, ?_⟩) ?_ ?_
  rotate_left
  · intro w'
    go_simp
    with_reducible rfl
  rotate_left
  · simp only [Act.put, List.setIfInBounds_toArray, List.set_cons_zero, List.set_cons_succ, i64_w, i32_w]
    rfl
  refine pure_ (i := 10) (N := some 114) (v := ?_) (a' := ?_) #[true, true, true, true, true, true, true, true, true, true, true, false, false, false, false, false, false, false, false, false, false, false, false, false, false, false, false, false, false, false, false, false, false, false, false, false, false, false, false, false, false, false, false, false, false, false, false, false, false, false, false, false, false] rfl rfl (any_of HT_.out (by kernel_rfl)) (fun _ _ _ h => h) (Or.inl ⟨by rfl, ?_⟩) ?_ ?_
  rotate_left
  · intro w'
    go_simp
    with_reducible rfl
  rotate_left
  · simp only [Act.put, List.setIfInBounds_toArray, List.set_cons_zero, List.set_cons_succ, i64_w, i32_w]
    rfl
  refine take_ (i := 11) (N := some 115) (v := ?_) (a' := ?_) #[true, true, true, true, true, true, true, true, true, true, true, true, false, false, false, false, false, false, false, false, false, false, false, false, false, false, false, false, false, false, false, false, false, false, false, false, false, false, false, false, false, false, false, false, false, false, false, false, false, false, false, false, false] rfl rfl (take_ofW HT_.out HW_.out (by kernel_rfl)) (fun _ _ _ h => h) (Or.inl ⟨by rfl, ?_⟩) hHeld ?_ ?_
  rotate_left
  · rintro w' ⟨s0, s1, s2, s3, s4, s5, s6, s7, s8, s9, s10, s11, s12, s13, s14, s15, s16, s17⟩
    go_simp
    with_reducible rfl
  rotate_left
  · simp only [Act.put, List.setIfInBounds_toArray, List.set_cons_zero, List.set_cons_succ, i64_w, i32_w]
    rfl
  refine take_ (i := 12) (N := some 116) (v := ?_) (a' := ?_) #[true, true, true, true, true, true, true, true, true, true, true, true, true, false, false, false, false, false, false, false, false, false, false, false, false, false, false, false, false, false, false, false, false, false, false, false, false, false, false, false, false, false, false, false, false, false, false, false, false, false, false, false, false] rfl rfl (take_ofW HT_.out HW_.out (by kernel_rfl)) (fun _ _ _ h => h) (Or.inl ⟨by rfl, ?_⟩) hHeld ?_ ?_
  rotate_left
  · rintro w' ⟨s0, s1, s2, s3, s4, s5, s6, s7, s8, s9, s10, s11, s12, s13, s14, s15, s16, s17⟩
    go_simp
    with_reducible rfl
  rotate_left
  · simp only [Act.put, List.setIfInBounds_toArray, List.set_cons_zero, List.set_cons_succ, i64_w, i32_w]
    rfl
  refine pure_ (i := 13) (N := some 117) (v := ?_) (a' := ?_) #[true, true, true, true, true, true, true, true, true, true, true, true, true, true, false, false, false, false, false, false, false, false, false, false, false, false, false, false, false, false, false, false, false, false, false, false, false, false, false, false, false, false, false, false, false, false, false, false, false, false, false, false, false] rfl rfl (any_of HT_.out (by kernel_rfl)) (fun _ _ _ h => h) (Or.inl ⟨by rfl, ?_⟩) ?_ ?_
  rotate_left
  · intro w'
    go_simp
    with_reducible rfl
  rotate_left
  · simp only [Act.put, List.setIfInBounds_toArray, List.set_cons_zero, List.set_cons_succ, i64_w, i32_w]
    rfl
  refine pure_ (i := 14) (N := some 118) (v := ?_) (a' := ?_) #[true, true, true, true, true, true, true, true, true, true, true, true, true, true, true, false, false, false, false, false, false, false, false, false, false, false, false, false, false, false, false, false, false, false, false, false, false, false, false, false, false, false, false, false, false, false, false, false, false, false, false, false, false] rfl rfl (any_of HT_.out (by kernel_rfl)) (fun _ _ _ h => h) (Or.inl ⟨by rfl, ?_⟩) ?_ ?_
  rotate_left
  · intro w'
    go_simp
    with_reducible rfl
  rotate_left
  · simp only [Act.put, List.setIfInBounds_toArray, List.set_cons_zero, List.set_cons_succ, i64_w, i32_w]
    rfl
  refine pure_ (i := 15) (N := some 119) (v := ?_) (a' := ?_) #[true, true, true, true, true, true, true, true, true, true, true, true, true, true, true, true, false, false, false, false, false, false, false, false, false, false, false, false, false, false, false, false, false, false, false, false, false, false, false, false, false, false, false, false, false, false, false, false, false, false, false, false, false] rfl rfl (any_of HT_.out (by kernel_rfl)) (fun _ _ _ h => h) (Or.inl ⟨by rfl, ?_⟩) ?_ ?_
  rotate_left
  · intro w'
    go_simp
    with_reducible rfl
  rotate_left
  · simp only [Act.put, List.setIfInBounds_toArray, List.set_cons_zero, List.set_cons_succ, i64_w, i32_w]
    rfl
  refine pure_ (i := 16) (N := some 120) (v := ?_) (a' := ?_) #[true, true, true, true, true, true, true, true, true, true, true, true, true, true, true, true, true, false, false, false, false, false, false, false, false, false, false, false, false, false, false, false, false, false, false, false, false, false, false, false, false, false, false, false, false, false, false, false, false, false, false, false, false] rfl rfl (any_of HT_.out (by kernel_rfl)) (fun _ _ _ h => h) (Or.inl ⟨by rfl, ?_⟩) ?_ ?_
  rotate_left
  · intro w'
    go_simp
    with_reducible rfl
  rotate_left
  · simp only [Act.put, List.setIfInBounds_toArray, List.set_cons_zero, List.set_cons_succ, i64_w, i32_w]
    rfl
  refine pure_ (i := 17) (N := some 121) (v := ?_) (a' := ?_) #[true, true, true, true, true, true, true, true, true, true, true, true, true, true, true, true, true, true, false, false, false, false, false, false, false, false, false, false, false, false, false, false, false, false, false, false, false, false, false, false, false, false, false, false, false, false, false, false, false, false, false, false, false] rfl rfl (any_of HT_.out (by kernel_rfl)) (fun _ _ _ h => h) (Or.inl ⟨by rfl, ?_⟩) ?_ ?_
  rotate_left
  · intro w'
    go_simp
    with_reducible rfl
  rotate_left
  · simp only [Act.put, List.setIfInBounds_toArray, List.set_cons_zero, List.set_cons_succ, i64_w, i32_w]
    rfl
  refine pure_ (i := 18) (N := some 122) (v := ?_) (a' := ?_) #[true, true, true, true, true, true, true, true, true, true, true, true, true, true, true, true, true, true, true, false, false, false, false, false, false, false, false, false, false, false, false, false, false, false, false, false, false, false, false, false, false, false, false, false, false, false, false, false, false, false, false, false, false] rfl rfl (any_of HT_.out (by kernel_rfl)) (fun _ _ _ h => h) (Or.inl ⟨by rfl, ?_⟩) ?_ ?_
  rotate_left
  · intro w'
    go_simp
    with_reducible rfl
  rotate_left
  · simp only [Act.put, List.setIfInBounds_toArray, List.set_cons_zero, List.set_cons_succ, i64_w, i32_w]
    rfl
  refine pure_ (i := 19) (N := some 123) (v := ?_) (a' := ?_) #[true, true, true, true, true, true, true, true, true, true, true, true, true, true, true, true, true, true, true, true, false, false, false, false, false, false, false, false, false, false, false, false, false, false, false, false, false, false, false, false, false, false, false, false, false, false, false, false, false, false, false, false, false] rfl rfl (any_of HT_.out (by kernel_rfl)) (fun _ _ _ h => h) (Or.inl ⟨by rfl, ?_⟩) ?_ ?_
  rotate_left
  · intro w'
    go_simp
    with_reducible rfl
  rotate_left
  · simp only [Act.put, List.setIfInBounds_toArray, List.set_cons_zero, List.set_cons_succ, i64_w, i32_w]
    rfl
  refine pure_ (i := 20) (N := some 124) (v := ?_) (a' := ?_) #[true, true, true, true, true, true, true, true, true, true, true, true, true, true, true, true, true, true, true, true, true, false, false, false, false, false, false, false, false, false, false, false, false, false, false, false, false, false, false, false, false, false, false, false, false, false, false, false, false, false, false, false, false] rfl rfl (any_of HT_.out (by kernel_rfl)) (fun _ _ _ h => h) (Or.inl ⟨by rfl, ?_⟩) ?_ ?_
  rotate_left
  · intro w'
    go_simp
    with_reducible rfl
  rotate_left
  · simp only [Act.put, List.setIfInBounds_toArray, List.set_cons_zero, List.set_cons_succ, i64_w, i32_w]
    rfl
  refine pure_ (i := 21) (N := some 125) (v := ?_) (a' := ?_) #[true, true, true, true, true, true, true, true, true, true, true, true, true, true, true, true, true, true, true, true, true, true, false, false, false, false, false, false, false, false, false, false, false, false, false, false, false, false, false, false, false, false, false, false, false, false, false, false, false, false, false, false, false] rfl rfl (any_of HT_.out (by kernel_rfl)) (fun _ _ _ h => h) (Or.inl ⟨by rfl, ?_⟩) ?_ ?_
  rotate_left
  · intro w'
    go_simp
    with_reducible rfl
  rotate_left
  · simp only [Act.put, List.setIfInBounds_toArray, List.set_cons_zero, List.set_cons_succ, i64_w, i32_w]
    rfl
  refine pure_ (i := 22) (N := some 126) (v := ?_) (a' := ?_) #[true, true, true, true, true, true, true, true, true, true, true, true, true, true, true, true, true, true, true, true, true, true, true, false, false, false, false, false, false, false, false, false, false, false, false, false, false, false, false, false, false, false, false, false, false, false, false, false, false, false, false, false, false] rfl rfl (any_of HT_.out (by kernel_rfl)) (fun _ _ _ h => h) (Or.inl ⟨by rfl, ?_⟩) ?_ ?_
  rotate_left
  · intro w'
    go_simp
    with_reducible rfl
  rotate_left
  · simp only [Act.put, List.setIfInBounds_toArray, List.set_cons_zero, List.set_cons_succ, i64_w, i32_w]
    rfl
  refine pure_ (i := 23) (N := some 127) (v := ?_) (a' := ?_) #[true, true, true, true, true, true, true, true, true, true, true, true, true, true, true, true, true, true, true, true, true, true, true, true, false, false, false, false, false, false, false, false, false, false, false, false, false, false, false, false, false, false, false, false, false, false, false, false, false, false, false, false, false] rfl rfl (any_of HT_.out (by kernel_rfl)) (fun _ _ _ h => h) (Or.inl ⟨by rfl, ?_⟩) ?_ ?_
  rotate_left
  · intro w'
    go_simp
    with_reducible rfl
  rotate_left
  · simp only [Act.put, List.setIfInBounds_toArray, List.set_cons_zero, List.set_cons_succ, i64_w, i32_w]
    rfl
  refine pure_ (i := 24) (N := some 128) (v := ?_) (a' := ?_) #[true, true, true, true, true, true, true, true, true, true, true, true, true, true, true, true, true, true, true, true, true, true, true, true, true, false, false, false, false, false, false, false, false, false, false, false, false, false, false, false, false, false, false, false, false, false, false, false, false, false, false, false, false] rfl rfl (any_of HT_.out (by kernel_rfl)) (fun _ _ _ h => h) (Or.inl ⟨by rfl, ?_⟩) ?_ ?_
  rotate_left
  · intro w'
    go_simp
    with_reducible rfl
  rotate_left
  · simp only [Act.put, List.setIfInBounds_toArray, List.set_cons_zero, List.set_cons_succ, i64_w, i32_w]
    rfl
  refine pure_ (i := 25) (N := some 129) (v := ?_) (a' := ?_) #[true, true, true, true, true, true, true, true, true, true, true, true, true, true, true, true, true, true, true, true, true, true, true, true, true, true, false, false, false, false, false, false, false, false, false, false, false, false, false, false, false, false, false, false, false, false, false, false, false, false, false, false, false] rfl rfl (any_of HT_.out (by kernel_rfl)) (fun _ _ _ h => h) (Or.inl ⟨by rfl, ?_⟩) ?_ ?_
  rotate_left
  · intro w'
    go_simp
    with_reducible rfl
  rotate_left
  · simp only [Act.put, List.setIfInBounds_toArray, List.set_cons_zero, List.set_cons_succ, i64_w, i32_w]
    rfl
  refine pure_ (i := 26) (N := some 130) (v := ?_) (a' := ?_) #[true, true, true, true, true, true, true, true, true, true, true, true, true, true, true, true, true, true, true, true, true, true, true, true, true, true, true, false, false, false, false, false, false, false, false, false, false, false, false, false, false, false, false, false, false, false, false, false, false, false, false, false, false] rfl rfl (any_of HT_.out (by kernel_rfl)) (fun _ _ _ h => h) (Or.inl ⟨by rfl, ?_⟩) ?_ ?_
  rotate_left
  · intro w'
    go_simp
    with_reducible rfl
  rotate_left
  · simp only [Act.put, List.setIfInBounds_toArray, List.set_cons_zero, List.set_cons_succ, i64_w, i32_w]
    rfl
  refine pure_ (i := 27) (N := some 131) (v := ?_) (a' := ?_) #[true, true, true, true, true, true, true, true, true, true, true, true, true, true, true, true, true, true, true, true, true, true, true, true, true, true, true, true, false, false, false, false, false, false, false, false, false, false, false, false, false, false, false, false, false, false, false, false, false, false, false, false, false] rfl rfl (any_of HT_.out (by kernel_rfl)) (fun _ _ _ h => h) (Or.inl ⟨by rfl, ?_⟩) ?_ ?_
  rotate_left
  · intro w'
    go_simp
    with_reducible rfl
  rotate_left
  · simp only [Act.put, List.setIfInBounds_toArray, List.set_cons_zero, List.set_cons_succ, i64_w, i32_w]
    rfl
  refine pure_ (i := 28) (N := some 132) (v := ?_) (a' := ?_) #[true, true, true, true, true, true, true, true, true, true, true, true, true, true, true, true, true, true, true, true, true, true, true, true, true, true, true, true, true, false, false, false, false, false, false, false, false, false, false, false, false, false, false, false, false, false, false, false, false, false, false, false, false] rfl rfl (any_of HT_.out (by kernel_rfl)) (fun _ _ _ h => h) (Or.inl ⟨by rfl, ?_⟩) ?_ ?_
  rotate_left
  · intro w'
    go_simp
    with_reducible rfl
  rotate_left
  · simp only [Act.put, List.setIfInBounds_toArray, List.set_cons_zero, List.set_cons_succ, i64_w, i32_w]
    rfl
  refine pure_ (i := 29) (N := some 133) (v := undef) (a' := ?_) #[true, true, true, true, true, true, true, true, true, true, true, true, true, true, true, true, true, true, true, true, true, true, true, true, true, true, true, true, true, true, false, false, false, false, false, false, false, false, false, false, false, false, false, false, false, false, false, false, false, false, false, false, false] rfl rfl (any_of HT_.out (by kernel_rfl)) (fun _ _ _ h => h) (Or.inr ⟨by rfl, rfl⟩) ?_ ?_
  rotate_left
  · simp only [Act.put, List.setIfInBounds_toArray, List.set_cons_zero, List.set_cons_succ, i64_w, i32_w]
    rfl
  refine pure_ (i := 30) (N := some 134) (v := undef) (a' := ?_) #[true, true, true, true, true, true, true, true, true, true, true, true, true, true, true, true, true, true, true, true, true, true, true, true, true, true, true, true, true, true, true, false, false, false, false, false, false, false, false, false, false, false, false, false, false, false, false, false, false, false, false, false, false] rfl rfl (any_of HT_.out (by kernel_rfl)) (fun _ _ _ h => h) (Or.inr ⟨by rfl, rfl⟩) ?_ ?_
  rotate_left
  · simp only [Act.put, List.setIfInBounds_toArray, List.set_cons_zero, List.set_cons_succ, i64_w, i32_w]
    rfl
  refine pure_ (i := 31) (N := some 135) (v := undef) (a' := ?_) #[true, true, true, true, true, true, true, true, true, true, true, true, true, true, true, true, true, true, true, true, true, true, true, true, true, true, true, true, true, true, true, true, false, false, false, false, false, false, false, false, false, false, false, false, false, false, false, false, false, false, false, false, false] rfl rfl (any_of HT_.out (by kernel_rfl)) (fun _ _ _ h => h) (Or.inr ⟨by rfl, rfl⟩) ?_ ?_
  rotate_left
  · simp only [Act.put, List.setIfInBounds_toArray, List.set_cons_zero, List.set_cons_succ, i64_w, i32_w]
    rfl
  refine pure_ (i := 32) (N := some 136) (v := undef) (a' := ?_) #[true, true, true, true, true, true, true, true, true, true, true, true, true, true, true, true, true, true, true, true, true, true, true, true, true, true, true, true, true, true, true, true, true, false, false, false, false, false, false, false, false, false, false, false, false, false, false, false, false, false, false, false, false] rfl rfl (any_of HT_.out (by kernel_rfl)) (fun _ _ _ h => h) (Or.inr ⟨by rfl, rfl⟩) ?_ ?_
  rotate_left
  · simp only [Act.put, List.setIfInBounds_toArray, List.set_cons_zero, List.set_cons_succ, i64_w, i32_w]
    rfl
  refine pure_ (i := 33) (N := some 137) (v := undef) (a' := ?_) #[true, true, true, true, true, true, true, true, true, true, true, true, true, true, true, true, true, true, true, true, true, true, true, true, true, true, true, true, true, true, true, true, true, true, false, false, false, false, false, false, false, false, false, false, false, false, false, false, false, false, false, false, false] rfl rfl (any_of HT_.out (by kernel_rfl)) (fun _ _ _ h => h) (Or.inr ⟨by rfl, rfl⟩) ?_ ?_
  rotate_left
  · simp only [Act.put, List.setIfInBounds_toArray, List.set_cons_zero, List.set_cons_succ, i64_w, i32_w]
    rfl
  refine pure_ (i := 34) (N := some 138) (v := ?_) (a' := ?_) #[true, true, true, true, true, true, true, true, true, true, true, true, true, true, true, true, true, true, true, true, true, true, true, true, true, true, true, true, true, true, true, true, true, true, true, false, false, false, false, false, false, false, false, false, false, false, false, false, false, false, false, false, false] rfl rfl (any_of HT_.out (by kernel_rfl)) (fun _ _ _ h => h) (Or.inl ⟨by rfl, ?_⟩) ?_ ?_
  rotate_left
  · intro w'
    go_simp
    with_reducible rfl
  rotate_left
  · simp only [Act.put, List.setIfInBounds_toArray, List.set_cons_zero, List.set_cons_succ, i64_w, i32_w]
    rfl
  refine pure_ (i := 35) (N := some 139) (v := ?_) (a' := ?_) #[true, true, true, true, true, true, true, true, true, true, true, true, true, true, true, true, true, true, true, true, true, true, true, true, true, true, true, true, true, true, true, true, true, true, true, true, false, false, false, false, false, false, false, false, false, false, false, false, false, false, false, false, false] rfl rfl (any_of HT_.out (by kernel_rfl)) (fun _ _ _ h => h) (Or.inl ⟨by rfl, ?_⟩) ?_ ?_
  rotate_left
  · intro w'
    go_simp
    with_reducible rfl
  rotate_left
  · simp only [Act.put, List.setIfInBounds_toArray, List.set_cons_zero, List.set_cons_succ, i64_w, i32_w]
    rfl
  refine pure_ (i := 36) (N := some 140) (v := ?_) (a' := ?_) #[true, true, true, true, true, true, true, true, true, true, true, true, true, true, true, true, true, true, true, true, true, true, true, true, true, true, true, true, true, true, true, true, true, true, true, true, true, false, false, false, false, false, false, false, false, false, false, false, false, false, false, false, false] rfl rfl (any_of HT_.out (by kernel_rfl)) (fun _ _ _ h => h) (Or.inl ⟨by rfl, ?_⟩) ?_ ?_
  rotate_left
  · intro w'
    go_simp
    with_reducible rfl
  rotate_left
  · simp only [Act.put, List.setIfInBounds_toArray, List.set_cons_zero, List.set_cons_succ, i64_w, i32_w]
    rfl
  refine pure_ (i := 37) (N := some 141) (v := ?_) (a' := ?_) #[true, true, true, true, true, true, true, true, true, true, true, true, true, true, true, true, true, true, true, true, true, true, true, true, true, true, true, true, true, true, true, true, true, true, true, true, true, true, false, false, false, false, false, false, false, false, false, false, false, false, false, false, false] rfl rfl (any_of HT_.out (by kernel_rfl)) (fun _ _ _ h => h) (Or.inl ⟨by rfl, ?_⟩) ?_ ?_
  rotate_left
  · intro w'
    go_simp
    with_reducible rfl
  rotate_left
  · simp only [Act.put, List.setIfInBounds_toArray, List.set_cons_zero, List.set_cons_succ, i64_w, i32_w]
    rfl
  refine pure_ (i := 40) (N := some 144) (v := ?_) (a' := ?_) #[true, true, true, true, true, true, true, true, true, true, true, true, true, true, true, true, true, true, true, true, true, true, true, true, true, true, true, true, true, true, true, true, true, true, true, true, true, true, false, false, true, false, false, false, false, false, false, false, false, false, false, false, false] rfl rfl (any_of HT_.out (by kernel_rfl)) (fun _ _ _ h => h) (Or.inl ⟨by rfl, ?_⟩) ?_ ?_
  rotate_left
  · intro w'
    go_simp
    with_reducible rfl
  rotate_left
  · simp only [Act.put, List.setIfInBounds_toArray, List.set_cons_zero, List.set_cons_succ, i64_w, i32_w]
    rfl
  refine pure_ (i := 41) (N := some 145) (v := ?_) (a' := ?_) #[true, true, true, true, true, true, true, true, true, true, true, true, true, true, true, true, true, true, true, true, true, true, true, true, true, true, true, true, true, true, true, true, true, true, true, true, true, true, false, false, true, true, false, false, false, false, false, false, false, false, false, false, false] rfl rfl (any_of HT_.out (by kernel_rfl)) (fun _ _ _ h => h) (Or.inl ⟨by rfl, ?_⟩) ?_ ?_
  rotate_left
  · intro w'
    go_simp
    with_reducible rfl
  rotate_left
  · simp only [Act.put, List.setIfInBounds_toArray, List.set_cons_zero, List.set_cons_succ, i64_w, i32_w]
    rfl
  refine pure_ (i := 42) (N := some 146) (v := ?_) (a' := ?_) #[true, true, true, true, true, true, true, true, true, true, true, true, true, true, true, true, true, true, true, true, true, true, true, true, true, true, true, true, true, true, true, true, true, true, true, true, true, true, false, false, true, true, true, false, false, false, false, false, false, false, false, false, false] rfl rfl (any_of HT_.out (by kernel_rfl)) (fun _ _ _ h => h) (Or.inl ⟨by rfl, ?_⟩) ?_ ?_
  rotate_left
  · intro w'
    go_simp
    with_reducible rfl
  rotate_left
  · simp only [Act.put, List.setIfInBounds_toArray, List.set_cons_zero, List.set_cons_succ, i64_w, i32_w]
    rfl
  refine take_ (i := 38) (N := some 142) (v := ?_) (a' := ?_) #[true, true, true, true, true, true, true, true, true, true, true, true, true, true, true, true, true, true, true, true, true, true, true, true, true, true, true, true, true, true, true, true, true, true, true, true, true, true, true, false, true, true, true, false, false, false, false, false, false, false, false, false, false] rfl rfl (take_ofW HT_.out HW_.out (by kernel_rfl)) (fun _ _ _ h => h) (Or.inl ⟨by rfl, ?_⟩) hHeld ?_ ?_
  rotate_left
  · rintro w' ⟨s0, s1, s2, s3, s4, s5, s6, s7, s8, s9, s10, s11, s12, s13, s14, s15, s16, s17⟩
    go_simp
    with_reducible rfl
  rotate_left
  · simp only [Act.put, List.setIfInBounds_toArray, List.set_cons_zero, List.set_cons_succ, i64_w, i32_w]
    rfl
  refine one_ (i := 39) (N := some 143) #[true, true, true, true, true, true, true, true, true, true, true, true, true, true, true, true, true, true, true, true, true, true, true, true, true, true, true, true, true, true, true, true, true, true, true, true, true, true, true, true, true, true, true, false, false, false, false, false, false, false, false, false, false] rfl rfl (one_of HT_.out (by kernel_rfl)) (by decide) (fun K hK => ?_)
  refine goes_ Tryd.func14 (by kernel_rfl) rfl #[.pointer (some ⟨w.heap.size + 1, 0, none⟩), .agg #[.int .i64 5, .int .i64 0, .string ⟨#[]⟩]] (by rfl) rfl rfl (by (try simp only [List.map_toArray, List.map_cons, List.map_nil]); first | done | rfl) ?_
  refine ((HH.out.below (B := w.heap.size) (by repeat (first | (with_reducible exact Below.refl _ _) | (with_reducible apply below_alloc) | (with_reducible apply pw_below_drewN) | (with_reducible apply below_drew1)))).lenE a0 ((l.length : Int) + 1) ((len_a0 (l ++ [x]) l [(name, x)] (kvFold [name] l)).trans (by simp))).mono ?_
  rintro e w' ⟨rfl, hb⟩
  refine ⟨_, rfl, ?_⟩
  have n0_ := Aside0.mk (HH.out.below (below_step (by repeat (first | (with_reducible exact Below.refl _ _) | (with_reducible apply below_alloc) | (with_reducible apply pw_below_drewN) | (with_reducible apply below_drew1))) hb))
  have n1_ := Aside0.mk (below_step (by repeat (first | (with_reducible exact HB.out) | (with_reducible apply below_alloc) | (with_reducible apply pw_below_drewN) | (with_reducible apply below_drew1))) hb)
  have n2_ := Aside0.mk (blk_below (g := w.heap.size) (o := (.cells #[.int .i64 x.f0, .int .i64 x.f1, .string x.f2] 32)) (by repeat (first | (with_reducible exact BX5.out) | (with_reducible refine blk_alloc ?_ _) | (with_reducible refine blk_drewN ?_ _) | (with_reducible refine blk_drew ?_))) hb)
  have n3_ := Aside0.mk (blk_below (g := w5.heap.size) (o := (.cells #[.int .i64 5, .int .i64 0, .string ⟨#[]⟩] 32)) (by repeat (first | (with_reducible exact BX8.out) | (with_reducible refine blk_alloc ?_ _) | (with_reducible refine blk_drewN ?_ _) | (with_reducible refine blk_drew ?_))) hb)
  have n4_ := Aside0.mk (blk_below (g := (w5.heap.size + 1)) (o := (.cells #[.int .i64 5, .int .i64 1, .string ⟨#[]⟩] 32)) (by repeat (first | (with_reducible exact BX9.out) | (with_reducible refine blk_alloc ?_ _) | (with_reducible refine blk_drewN ?_ _) | (with_reducible refine blk_drew ?_))) hb)
  have n5_ := Aside0.mk (blk_below (g := w7.heap.size) (o := (.cells #[.int .i64 6, .int .i64 2, .string ⟨#[]⟩] 32)) (by repeat (first | (with_reducible exact BX10.out) | (with_reducible refine blk_alloc ?_ _) | (with_reducible refine blk_drewN ?_ _) | (with_reducible refine blk_drew ?_))) hb)
  have n6_ := Aside0.mk (blk_below (g := (w7.heap.size + 1)) (o := (.cells #[.int .i64 6, .int .i64 3, .string ⟨#[]⟩] 32)) (by repeat (first | (with_reducible exact BX11.out) | (with_reducible refine blk_alloc ?_ _) | (with_reducible refine blk_drewN ?_ _) | (with_reducible refine blk_drew ?_))) hb)
  have n7_ := Aside0.mk (blk_below (g := w10.heap.size) (o := (.cells #[.int .i64 x.f0, .int .i64 x.f1, .string x.f2] 32)) (by repeat (first | (with_reducible exact BX12.out) | (with_reducible refine blk_alloc ?_ _) | (with_reducible refine blk_drewN ?_ _) | (with_reducible refine blk_drew ?_))) hb)
  have n8_ := Aside0.mk (blk_below (g := w11.heap.size) (o := (.cells #[.int .i64 0, .int .i64 0, .string ⟨#[]⟩] 32)) (by repeat (first | (with_reducible exact BX14.out) | (with_reducible refine blk_alloc ?_ _) | (with_reducible refine blk_drewN ?_ _) | (with_reducible refine blk_drew ?_))) hb)
  have n9_ := Aside0.mk (blk_below (g := w12.heap.size) (o := (.cells #[.int .i64 x.f0, .int .i64 x.f1, .string x.f2] 32)) (by repeat (first | (with_reducible exact BX16.out) | (with_reducible refine blk_alloc ?_ _) | (with_reducible refine blk_drewN ?_ _) | (with_reducible refine blk_drew ?_))) hb)
  have n10_ := Aside0.mk (blk_below (g := w13.heap.size) (o := (.cells #[.int .i64 0, .int .i64 0, .string ⟨#[]⟩] 32)) (by repeat (first | (with_reducible exact BX18.out) | (with_reducible refine blk_alloc ?_ _) | (with_reducible refine blk_drewN ?_ _) | (with_reducible refine blk_drew ?_))) hb)
  clear HH HB BX5 BX8 BX9 BX10 BX11 BX12 BX14 BX16 BX18
  have HH := n0_
  have HB := n1_
  have BX5 := n2_
  have BX8 := n3_
  have BX9 := n4_
  have BX10 := n5_
  have BX11 := n6_
  have BX12 := n7_
  have BX14 := n8_
  have BX16 := n9_
  have BX18 := n10_
  clear n0_ n1_ n2_ n3_ n4_ n5_ n6_ n7_ n8_ n9_ n10_
  haveI := GW.of HB.out
  clear hb
  refine hK.out _ _ ⟨(blk_cell BX12.out 0).trans rfl, (blk_cell BX12.out 1).trans rfl, (blk_cell BX12.out 2).trans rfl, (blk_cell BX5.out 0).trans rfl, (blk_cell BX5.out 1).trans rfl, (blk_cell BX5.out 2).trans rfl, (blk_cell BX16.out 0).trans rfl, (blk_cell BX16.out 1).trans rfl, (blk_cell BX16.out 2).trans rfl, (blk_cell BX18.out 0).trans rfl, (blk_cell BX18.out 1).trans rfl, (blk_cell BX18.out 2).trans rfl, (blk_cell BX8.out 0).trans rfl, (blk_cell BX8.out 1).trans rfl, (blk_cell BX8.out 2).trans rfl, (blk_cell BX9.out 0).trans rfl, (blk_cell BX9.out 1).trans rfl, (blk_cell BX9.out 2).trans rfl⟩ (fun hHeld => ?_)
  clear hK K
  refine norm_ (a' := ?_) ?_ ?_
  rotate_left
  · show Act.put _ (some 143) _ = _
    simp only [Act.put, List.setIfInBounds_toArray, List.set_cons_zero, List.set_cons_succ, i64_w, i32_w]
    rfl
  refine pure_ (i := 43) (N := some 147) (v := ?_) (a' := ?_) #[true, true, true, true, true, true, true, true, true, true, true, true, true, true, true, true, true, true, true, true, true, true, true, true, true, true, true, true, true, true, true, true, true, true, true, true, true, true, true, true, true, true, true, true, false, false, false, false, false, false, false, false, false] rfl rfl (any_of HT_.out (by kernel_rfl)) (fun _ _ _ h => h) (Or.inl ⟨by rfl, ?_⟩) ?_ ?_
  rotate_left
  · intro w'
    go_simp
    with_reducible rfl
  rotate_left
  · simp only [Act.put, List.setIfInBounds_toArray, List.set_cons_zero, List.set_cons_succ, i64_w, i32_w]
    rfl
  refine pure_ (i := 44) (N := some 148) (v := ?_) (a' := ?_) #[true, true, true, true, true, true, true, true, true, true, true, true, true, true, true, true, true, true, true, true, true, true, true, true, true, true, true, true, true, true, true, true, true, true, true, true, true, true, true, true, true, true, true, true, true, false, false, false, false, false, false, false, false] rfl rfl (any_of HT_.out (by kernel_rfl)) (fun _ _ _ h => h) (Or.inl ⟨by rfl, ?_⟩) ?_ ?_
  rotate_left
  · intro w'
    go_simp
    with_reducible rfl
  rotate_left
  · simp only [Act.put, List.setIfInBounds_toArray, List.set_cons_zero, List.set_cons_succ, i64_w, i32_w]
    rfl
  refine pure_ (i := 45) (N := some 149) (v := ?_) (a' := ?_) #[true, true, true, true, true, true, true, true, true, true, true, true, true, true, true, true, true, true, true, true, true, true, true, true, true, true, true, true, true, true, true, true, true, true, true, true, true, true, true, true, true, true, true, true, true, true, false, false, false, false, false, false, false] rfl rfl (any_of HT_.out (by kernel_rfl)) (fun _ _ _ h => h) (Or.inl ⟨by rfl, ?_⟩) ?_ ?_
  rotate_left
  · intro w'
    go_simp
    with_reducible rfl
  rotate_left
  · simp only [Act.put, List.setIfInBounds_toArray, List.set_cons_zero, List.set_cons_succ, i64_w, i32_w]
    rfl
  refine pure_ (i := 46) (N := some 150) (v := ?_) (a' := ?_) #[true, true, true, true, true, true, true, true, true, true, true, true, true, true, true, true, true, true, true, true, true, true, true, true, true, true, true, true, true, true, true, true, true, true, true, true, true, true, true, true, true, true, true, true, true, true, true, false, false, false, false, false, false] rfl rfl (any_of HT_.out (by kernel_rfl)) (fun _ _ _ h => h) (Or.inl ⟨by rfl, ?_⟩) ?_ ?_
  rotate_left
  · intro w'
    go_simp
    with_reducible rfl
  rotate_left
  · simp only [Act.put, List.setIfInBounds_toArray, List.set_cons_zero, List.set_cons_succ, i64_w, i32_w]
    rfl
  refine pure_ (i := 49) (N := some 153) (v := ?_) (a' := ?_) #[true, true, true, true, true, true, true, true, true, true, true, true, true, true, true, true, true, true, true, true, true, true, true, true, true, true, true, true, true, true, true, true, true, true, true, true, true, true, true, true, true, true, true, true, true, true, true, false, false, true, false, false, false] rfl rfl (any_of HT_.out (by kernel_rfl)) (fun _ _ _ h => h) (Or.inl ⟨by rfl, ?_⟩) ?_ ?_
  rotate_left
  · intro w'
    go_simp
    with_reducible rfl
  rotate_left
  · simp only [Act.put, List.setIfInBounds_toArray, List.set_cons_zero, List.set_cons_succ, i64_w, i32_w]
    rfl
  refine pure_ (i := 50) (N := some 154) (v := ?_) (a' := ?_) #[true, true, true, true, true, true, true, true, true, true, true, true, true, true, true, true, true, true, true, true, true, true, true, true, true, true, true, true, true, true, true, true, true, true, true, true, true, true, true, true, true, true, true, true, true, true, true, false, false, true, true, false, false] rfl rfl (any_of HT_.out (by kernel_rfl)) (fun _ _ _ h => h) (Or.inl ⟨by rfl, ?_⟩) ?_ ?_
  rotate_left
  · intro w'
    go_simp
    with_reducible rfl
  rotate_left
  · simp only [Act.put, List.setIfInBounds_toArray, List.set_cons_zero, List.set_cons_succ, i64_w, i32_w]
    rfl
  refine take_ (i := 47) (N := some 151) (v := ?_) (a' := ?_) #[true, true, true, true, true, true, true, true, true, true, true, true, true, true, true, true, true, true, true, true, true, true, true, true, true, true, true, true, true, true, true, true, true, true, true, true, true, true, true, true, true, true, true, true, true, true, true, true, false, true, true, false, false] rfl rfl (take_ofW HT_.out HW_.out (by kernel_rfl)) (fun _ _ _ h => h) (Or.inl ⟨by rfl, ?_⟩) hHeld ?_ ?_
  rotate_left
  · rintro w' ⟨s0, s1, s2, s3, s4, s5, s6, s7, s8, s9, s10, s11, s12, s13, s14, s15, s16, s17⟩
    go_simp
    with_reducible rfl
  rotate_left
  · simp only [Act.put, List.setIfInBounds_toArray, List.set_cons_zero, List.set_cons_succ, i64_w, i32_w]
    rfl
  refine one_ (i := 48) (N := some 152) #[true, true, true, true, true, true, true, true, true, true, true, true, true, true, true, true, true, true, true, true, true, true, true, true, true, true, true, true, true, true, true, true, true, true, true, true, true, true, true, true, true, true, true, true, true, true, true, true, true, true, true, false, false] rfl rfl (one_of HT_.out (by kernel_rfl)) (by decide) (fun K hK => ?_)
  refine goes_ Tryd.func14 (by kernel_rfl) rfl #[.pointer (some ⟨w.heap.size + 1, 0, none⟩), .agg #[.int .i64 5, .int .i64 1, .string ⟨#[]⟩]] (by rfl) rfl rfl (by (try simp only [List.map_toArray, List.map_cons, List.map_nil]); first | done | rfl) ?_
  refine ((HH.out.below (B := w.heap.size) (by repeat (first | (with_reducible exact Below.refl _ _) | (with_reducible apply below_alloc) | (with_reducible apply pw_below_drewN) | (with_reducible apply below_drew1)))).lenE a1 (l.length : Int) (len_a1 (l ++ [x]) l [(name, x)] (kvFold [name] l))).mono ?_
  rintro e w' ⟨rfl, hb⟩
  refine ⟨_, rfl, ?_⟩
  have n0_ := Aside0.mk (HH.out.below (below_step (by repeat (first | (with_reducible exact Below.refl _ _) | (with_reducible apply below_alloc) | (with_reducible apply pw_below_drewN) | (with_reducible apply below_drew1))) hb))
  have n1_ := Aside0.mk (below_step (by repeat (first | (with_reducible exact HB.out) | (with_reducible apply below_alloc) | (with_reducible apply pw_below_drewN) | (with_reducible apply below_drew1))) hb)
  have n2_ := Aside0.mk (blk_below (g := w.heap.size) (o := (.cells #[.int .i64 x.f0, .int .i64 x.f1, .string x.f2] 32)) (by repeat (first | (with_reducible exact BX5.out) | (with_reducible refine blk_alloc ?_ _) | (with_reducible refine blk_drewN ?_ _) | (with_reducible refine blk_drew ?_))) hb)
  have n3_ := Aside0.mk (blk_below (g := w5.heap.size) (o := (.cells #[.int .i64 5, .int .i64 0, .string ⟨#[]⟩] 32)) (by repeat (first | (with_reducible exact BX8.out) | (with_reducible refine blk_alloc ?_ _) | (with_reducible refine blk_drewN ?_ _) | (with_reducible refine blk_drew ?_))) hb)
  have n4_ := Aside0.mk (blk_below (g := (w5.heap.size + 1)) (o := (.cells #[.int .i64 5, .int .i64 1, .string ⟨#[]⟩] 32)) (by repeat (first | (with_reducible exact BX9.out) | (with_reducible refine blk_alloc ?_ _) | (with_reducible refine blk_drewN ?_ _) | (with_reducible refine blk_drew ?_))) hb)
  have n5_ := Aside0.mk (blk_below (g := w7.heap.size) (o := (.cells #[.int .i64 6, .int .i64 2, .string ⟨#[]⟩] 32)) (by repeat (first | (with_reducible exact BX10.out) | (with_reducible refine blk_alloc ?_ _) | (with_reducible refine blk_drewN ?_ _) | (with_reducible refine blk_drew ?_))) hb)
  have n6_ := Aside0.mk (blk_below (g := (w7.heap.size + 1)) (o := (.cells #[.int .i64 6, .int .i64 3, .string ⟨#[]⟩] 32)) (by repeat (first | (with_reducible exact BX11.out) | (with_reducible refine blk_alloc ?_ _) | (with_reducible refine blk_drewN ?_ _) | (with_reducible refine blk_drew ?_))) hb)
  have n7_ := Aside0.mk (blk_below (g := w10.heap.size) (o := (.cells #[.int .i64 x.f0, .int .i64 x.f1, .string x.f2] 32)) (by repeat (first | (with_reducible exact BX12.out) | (with_reducible refine blk_alloc ?_ _) | (with_reducible refine blk_drewN ?_ _) | (with_reducible refine blk_drew ?_))) hb)
  have n8_ := Aside0.mk (blk_below (g := w11.heap.size) (o := (.cells #[.int .i64 0, .int .i64 0, .string ⟨#[]⟩] 32)) (by repeat (first | (with_reducible exact BX14.out) | (with_reducible refine blk_alloc ?_ _) | (with_reducible refine blk_drewN ?_ _) | (with_reducible refine blk_drew ?_))) hb)
  have n9_ := Aside0.mk (blk_below (g := w12.heap.size) (o := (.cells #[.int .i64 x.f0, .int .i64 x.f1, .string x.f2] 32)) (by repeat (first | (with_reducible exact BX16.out) | (with_reducible refine blk_alloc ?_ _) | (with_reducible refine blk_drewN ?_ _) | (with_reducible refine blk_drew ?_))) hb)
  have n10_ := Aside0.mk (blk_below (g := w13.heap.size) (o := (.cells #[.int .i64 0, .int .i64 0, .string ⟨#[]⟩] 32)) (by repeat (first | (with_reducible exact BX18.out) | (with_reducible refine blk_alloc ?_ _) | (with_reducible refine blk_drewN ?_ _) | (with_reducible refine blk_drew ?_))) hb)
  clear HH HB BX5 BX8 BX9 BX10 BX11 BX12 BX14 BX16 BX18
  have HH := n0_
  have HB := n1_
  have BX5 := n2_
  have BX8 := n3_
  have BX9 := n4_
  have BX10 := n5_
  have BX11 := n6_
  have BX12 := n7_
  have BX14 := n8_
  have BX16 := n9_
  have BX18 := n10_
  clear n0_ n1_ n2_ n3_ n4_ n5_ n6_ n7_ n8_ n9_ n10_
  haveI := GW.of HB.out
  clear hb
  refine hK.out _ _ ⟨(blk_cell BX12.out 0).trans rfl, (blk_cell BX12.out 1).trans rfl, (blk_cell BX12.out 2).trans rfl, (blk_cell BX5.out 0).trans rfl, (blk_cell BX5.out 1).trans rfl, (blk_cell BX5.out 2).trans rfl, (blk_cell BX16.out 0).trans rfl, (blk_cell BX16.out 1).trans rfl, (blk_cell BX16.out 2).trans rfl, (blk_cell BX18.out 0).trans rfl, (blk_cell BX18.out 1).trans rfl, (blk_cell BX18.out 2).trans rfl, (blk_cell BX8.out 0).trans rfl, (blk_cell BX8.out 1).trans rfl, (blk_cell BX8.out 2).trans rfl, (blk_cell BX9.out 0).trans rfl, (blk_cell BX9.out 1).trans rfl, (blk_cell BX9.out 2).trans rfl⟩ (fun hHeld => ?_)
  clear hK K
  refine norm_ (a' := ?_) ?_ ?_
  rotate_left
  · show Act.put _ (some 152) _ = _
    simp only [Act.put, List.setIfInBounds_toArray, List.set_cons_zero, List.set_cons_succ, i64_w, i32_w]
    rfl
  refine pure_ (i := 51) (N := some 155) (v := ?_) (a' := ?_) #[true, true, true, true, true, true, true, true, true, true, true, true, true, true, true, true, true, true, true, true, true, true, true, true, true, true, true, true, true, true, true, true, true, true, true, true, true, true, true, true, true, true, true, true, true, true, true, true, true, true, true, true, false] rfl rfl (any_of HT_.out (by kernel_rfl)) (fun _ _ _ h => h) (Or.inl ⟨by rfl, ?_⟩) ?_ ?_
  rotate_left
  · intro w'
    go_simp
    with_reducible rfl
  rotate_left
  · simp only [Act.put, List.setIfInBounds_toArray, List.set_cons_zero, List.set_cons_succ, i64_w, i32_w]
    rfl
  refine pure_ (i := 52) (N := some 156) (v := ?_) (a' := ?_) #[true, true, true, true, true, true, true, true, true, true, true, true, true, true, true, true, true, true, true, true, true, true, true, true, true, true, true, true, true, true, true, true, true, true, true, true, true, true, true, true, true, true, true, true, true, true, true, true, true, true, true, true, true] rfl rfl (any_of HT_.out (by kernel_rfl)) (fun _ _ _ h => h) (Or.inl ⟨by rfl, ?_⟩) ?_ ?_
  rotate_left
  · intro w'
    go_simp
    with_reducible rfl
  rotate_left
  · simp only [Act.put, List.setIfInBounds_toArray, List.set_cons_zero, List.set_cons_succ, i64_w, i32_w]
    rfl
  refine done_ (done_of HT_.out (by kernel_rfl)) ?_
  clear hlt d0 ew
  clear BX12
  clear BX14
  clear BX16
  clear BX18
  clear G9
  clear BX9
  clear G11
  clear BX11
  clear hHeld
  go_wp2
  go_loopw [20] (fun v20 wr => ∃ i : Nat, v20 = .int .i64 i ∧ i ≤ l.length ∧ Below w'.heap.size w' wr) (fun v20 _ => l.length - (intOf v20).toNat)
  case atStart => exact ⟨0, rfl, Nat.zero_le _, Below.refl _ _⟩
  case round =>
  obtain ⟨i, rfl, hi, hb⟩ := hrel
  have LB := Aside0.mk hb
  have n0_ := Aside0.mk (HH.out.below (below_step (by repeat (first | (with_reducible exact Below.refl _ _) | (with_reducible apply below_alloc) | (with_reducible apply pw_below_drewN) | (with_reducible apply below_drew1))) hb))
  have n1_ := Aside0.mk (below_step (by repeat (first | (with_reducible exact HB.out) | (with_reducible apply below_alloc) | (with_reducible apply pw_below_drewN) | (with_reducible apply below_drew1))) hb)
  have n2_ := Aside0.mk (blk_below (g := w.heap.size) (o := (.cells #[.int .i64 x.f0, .int .i64 x.f1, .string x.f2] 32)) (by repeat (first | (with_reducible exact BX5.out) | (with_reducible refine blk_alloc ?_ _) | (with_reducible refine blk_drewN ?_ _) | (with_reducible refine blk_drew ?_))) hb)
  have n3_ := Aside0.mk (blk_below (g := w5.heap.size) (o := (.cells #[.int .i64 5, .int .i64 0, .string ⟨#[]⟩] 32)) (by repeat (first | (with_reducible exact BX8.out) | (with_reducible refine blk_alloc ?_ _) | (with_reducible refine blk_drewN ?_ _) | (with_reducible refine blk_drew ?_))) hb)
  have n4_ := Aside0.mk (blk_below (g := w7.heap.size) (o := (.cells #[.int .i64 6, .int .i64 2, .string ⟨#[]⟩] 32)) (by repeat (first | (with_reducible exact BX10.out) | (with_reducible refine blk_alloc ?_ _) | (with_reducible refine blk_drewN ?_ _) | (with_reducible refine blk_drew ?_))) hb)
  clear HH HB BX5 BX8 BX10
  have HH := n0_
  have HB := n1_
  have BX5 := n2_
  have BX8 := n3_
  have BX10 := n4_
  clear n0_ n1_ n2_ n3_ n4_
  haveI := GW.of HB.out
  clear hb
  by_cases hlt : i < l.length
  · exact absurd hlt (by have := H0.out; omega)
  · have d1 : decide ((i : Int) < (l.length : Int)) = false := decide_eq_false (by omega)
    obtain ⟨⟨c00, c01, c02⟩, fr00, fr01, fr02⟩ := box3 (show _ from BX5.out)
    obtain ⟨⟨c10, c11, c12⟩, fr10, fr11, fr12⟩ := box3 (show _ from BX8.out)
    obtain ⟨⟨c20, c21, c22⟩, fr20, fr21, fr22⟩ := box3 (show _ from BX10.out)
    go_wp2_with (go_at_call 10; refine hold_ ?_)
    unfold Held
    clear c00 c01 c02 fr00 fr01 fr02 c10 c11 c12 fr10 fr11 fr12 c20 c21 c22 fr20 fr21 fr22
    refine ((HH.out.below (B := w.heap.size) (by repeat (first | (with_reducible exact Below.refl _ _) | (with_reducible apply below_alloc) | (with_reducible apply pw_below_drewN) | (with_reducible apply below_drew1)))).getZ a0 name (get_a0 (l ++ [x]) l [(name, x)] (kvFold [name] l) name)).mono ?_
    rintro e w18 ⟨rfl, hb⟩
    have lb_ := Aside0.mk (below_step (by repeat (first | (with_reducible exact LB.out) | (with_reducible apply below_alloc) | (with_reducible apply pw_below_drewN) | (with_reducible apply below_drew1))) hb)
    clear LB
    have LB := lb_
    clear lb_
    have n0_ := Aside0.mk (HH.out.below (below_step (by repeat (first | (with_reducible exact Below.refl _ _) | (with_reducible apply below_alloc) | (with_reducible apply pw_below_drewN) | (with_reducible apply below_drew1))) hb))
    have n1_ := Aside0.mk (below_step (by repeat (first | (with_reducible exact HB.out) | (with_reducible apply below_alloc) | (with_reducible apply pw_below_drewN) | (with_reducible apply below_drew1))) hb)
    have n2_ := Aside0.mk (blk_below (g := w.heap.size) (o := (.cells #[.int .i64 x.f0, .int .i64 x.f1, .string x.f2] 32)) (by repeat (first | (with_reducible exact BX5.out) | (with_reducible refine blk_alloc ?_ _) | (with_reducible refine blk_drewN ?_ _) | (with_reducible refine blk_drew ?_))) hb)
    have n3_ := Aside0.mk (blk_below (g := w5.heap.size) (o := (.cells #[.int .i64 5, .int .i64 0, .string ⟨#[]⟩] 32)) (by repeat (first | (with_reducible exact BX8.out) | (with_reducible refine blk_alloc ?_ _) | (with_reducible refine blk_drewN ?_ _) | (with_reducible refine blk_drew ?_))) hb)
    have n4_ := Aside0.mk (blk_below (g := w7.heap.size) (o := (.cells #[.int .i64 6, .int .i64 2, .string ⟨#[]⟩] 32)) (by repeat (first | (with_reducible exact BX10.out) | (with_reducible refine blk_alloc ?_ _) | (with_reducible refine blk_drewN ?_ _) | (with_reducible refine blk_drew ?_))) hb)
    clear HH HB BX5 BX8 BX10
    have HH := n0_
    have HB := n1_
    have BX5 := n2_
    have BX8 := n3_
    have BX10 := n4_
    clear n0_ n1_ n2_ n3_ n4_
    haveI := GW.of HB.out
    clear hb
    obtain ⟨⟨c00, c01, c02⟩, fr00, fr01, fr02⟩ := box3 (show (w18.alloc (.cells #[.int .i64 0, .int .i64 0, .string ⟨#[]⟩] 32)).heap[w.heap.size]? = some (.cells #[.int .i64 x.f0, .int .i64 x.f1, .string x.f2] 32) from (by repeat (first | (with_reducible exact BX5.out) | (with_reducible refine blk_alloc ?_ _) | (with_reducible refine blk_drewN ?_ _) | (with_reducible refine blk_drew ?_))))
    obtain ⟨⟨c10, c11, c12⟩, fr10, fr11, fr12⟩ := box3 (show (w18.alloc (.cells #[.int .i64 0, .int .i64 0, .string ⟨#[]⟩] 32)).heap[w5.heap.size]? = some (.cells #[.int .i64 5, .int .i64 0, .string ⟨#[]⟩] 32) from (by repeat (first | (with_reducible exact BX8.out) | (with_reducible refine blk_alloc ?_ _) | (with_reducible refine blk_drewN ?_ _) | (with_reducible refine blk_drew ?_))))
    obtain ⟨⟨c20, c21, c22⟩, fr20, fr21, fr22⟩ := box3 (show (w18.alloc (.cells #[.int .i64 0, .int .i64 0, .string ⟨#[]⟩] 32)).heap[w7.heap.size]? = some (.cells #[.int .i64 6, .int .i64 2, .string ⟨#[]⟩] 32) from (by repeat (first | (with_reducible exact BX10.out) | (with_reducible refine blk_alloc ?_ _) | (with_reducible refine blk_drewN ?_ _) | (with_reducible refine blk_drew ?_))))
    go_wp2_with (go_at_call 17; refine hold_ ?_)
    unfold Held
    clear c00 c01 c02 fr00 fr01 fr02 c10 c11 c12 fr10 fr11 fr12 c20 c21 c22 fr20 fr21 fr22
    clear LB
    refine ((HH.out.below (B := w.heap.size) (by repeat (first | (with_reducible exact Below.refl _ _) | (with_reducible apply below_alloc) | (with_reducible apply pw_below_drewN) | (with_reducible apply below_drew1)))).pushE p2 x (room4 (l ++ [x]) l [(name, x)] (kvFold [name] l) (by have := HL.out; simp; omega) (by have := HL.out; omega) (by simp) (by have := fold_len l name; omega)) false (push_p2 (l ++ [x]) l [(name, x)] (kvFold [name] l) x)).mono ?_
    rintro e w' ⟨rfl, O', hh, hno, hch⟩
    have gG5_ := Aside0.mk (hno _ (blk_lt (o := (.cells #[.int .i64 x.f0, .int .i64 x.f1, .string x.f2] 32)) (by repeat (first | (with_reducible exact BX5.out) | (with_reducible refine blk_alloc ?_ _) | (with_reducible refine blk_drewN ?_ _) | (with_reducible refine blk_drew ?_)))) G5.out)
    have gG8_ := Aside0.mk (hno _ (blk_lt (o := (.cells #[.int .i64 5, .int .i64 0, .string ⟨#[]⟩] 32)) (by repeat (first | (with_reducible exact BX8.out) | (with_reducible refine blk_alloc ?_ _) | (with_reducible refine blk_drewN ?_ _) | (with_reducible refine blk_drew ?_)))) G8.out)
    have gG10_ := Aside0.mk (hno _ (blk_lt (o := (.cells #[.int .i64 6, .int .i64 2, .string ⟨#[]⟩] 32)) (by repeat (first | (with_reducible exact BX10.out) | (with_reducible refine blk_alloc ?_ _) | (with_reducible refine blk_drewN ?_ _) | (with_reducible refine blk_drew ?_)))) G10.out)
    have n0_ := Aside0.mk hh
    have n1_ := Aside0.mk ((HH.out.below (by repeat (first | (with_reducible exact Below.refl _ _) | (with_reducible apply below_alloc) | (with_reducible apply pw_below_drewN) | (with_reducible apply below_drew1)))).own hch (by repeat (first | (with_reducible exact HB.out) | (with_reducible apply below_alloc) | (with_reducible apply pw_below_drewN) | (with_reducible apply below_drew1))))
    have n2_ := Aside0.mk (hch.blk (k := w.heap.size) (o := (.cells #[.int .i64 x.f0, .int .i64 x.f1, .string x.f2] 32)) (by repeat (first | (with_reducible exact BX5.out) | (with_reducible refine blk_alloc ?_ _) | (with_reducible refine blk_drewN ?_ _) | (with_reducible refine blk_drew ?_))) G5.out)
    have n3_ := Aside0.mk (hch.blk (k := w5.heap.size) (o := (.cells #[.int .i64 5, .int .i64 0, .string ⟨#[]⟩] 32)) (by repeat (first | (with_reducible exact BX8.out) | (with_reducible refine blk_alloc ?_ _) | (with_reducible refine blk_drewN ?_ _) | (with_reducible refine blk_drew ?_))) G8.out)
    have n4_ := Aside0.mk (hch.blk (k := w7.heap.size) (o := (.cells #[.int .i64 6, .int .i64 2, .string ⟨#[]⟩] 32)) (by repeat (first | (with_reducible exact BX10.out) | (with_reducible refine blk_alloc ?_ _) | (with_reducible refine blk_drewN ?_ _) | (with_reducible refine blk_drew ?_))) G10.out)
    clear HH HB BX5 BX8 BX10
    have HH := n0_
    have HB := n1_
    have BX5 := n2_
    have BX8 := n3_
    have BX10 := n4_
    clear n0_ n1_ n2_ n3_ n4_
    haveI := GW.of HB.out
    clear hh hno hch G5 G8 G10
    have G5 := gG5_
    have G8 := gG8_
    have G10 := gG10_
    clear gG5_ gG8_ gG10_
    obtain ⟨⟨c00, c01, c02⟩, fr00, fr01, fr02⟩ := box3 (show _ from BX5.out)
    obtain ⟨⟨c10, c11, c12⟩, fr10, fr11, fr12⟩ := box3 (show _ from BX8.out)
    obtain ⟨⟨c20, c21, c22⟩, fr20, fr21, fr22⟩ := box3 (show _ from BX10.out)
    go_wp2_with (go_at_call 15; refine hold_ ?_)
    unfold Held
    clear c00 c01 c02 fr00 fr01 fr02 c10 c11 c12 fr10 fr11 fr12 c20 c21 c22 fr20 fr21 fr22
    refine ((HH.out.below (B := w.heap.size) (by repeat (first | (with_reducible exact Below.refl _ _) | (with_reducible apply below_alloc) | (with_reducible apply pw_below_drewN) | (with_reducible apply below_drew1)))).setE a0 x name false (set_a0 (l ++ [x]) l [(name, x)] (kvFold [name] l) x name)).mono ?_
    rintro e w' ⟨rfl, O', hh, hno, hch⟩
    have gG5_ := Aside0.mk (hno _ (blk_lt (o := (.cells #[.int .i64 x.f0, .int .i64 x.f1, .string x.f2] 32)) (by repeat (first | (with_reducible exact BX5.out) | (with_reducible refine blk_alloc ?_ _) | (with_reducible refine blk_drewN ?_ _) | (with_reducible refine blk_drew ?_)))) G5.out)
    have gG8_ := Aside0.mk (hno _ (blk_lt (o := (.cells #[.int .i64 5, .int .i64 0, .string ⟨#[]⟩] 32)) (by repeat (first | (with_reducible exact BX8.out) | (with_reducible refine blk_alloc ?_ _) | (with_reducible refine blk_drewN ?_ _) | (with_reducible refine blk_drew ?_)))) G8.out)
    have gG10_ := Aside0.mk (hno _ (blk_lt (o := (.cells #[.int .i64 6, .int .i64 2, .string ⟨#[]⟩] 32)) (by repeat (first | (with_reducible exact BX10.out) | (with_reducible refine blk_alloc ?_ _) | (with_reducible refine blk_drewN ?_ _) | (with_reducible refine blk_drew ?_)))) G10.out)
    have n0_ := Aside0.mk hh
    have n1_ := Aside0.mk ((HH.out.below (by repeat (first | (with_reducible exact Below.refl _ _) | (with_reducible apply below_alloc) | (with_reducible apply pw_below_drewN) | (with_reducible apply below_drew1)))).own hch (by repeat (first | (with_reducible exact HB.out) | (with_reducible apply below_alloc) | (with_reducible apply pw_below_drewN) | (with_reducible apply below_drew1))))
    have n2_ := Aside0.mk (hch.blk (k := w.heap.size) (o := (.cells #[.int .i64 x.f0, .int .i64 x.f1, .string x.f2] 32)) (by repeat (first | (with_reducible exact BX5.out) | (with_reducible refine blk_alloc ?_ _) | (with_reducible refine blk_drewN ?_ _) | (with_reducible refine blk_drew ?_))) G5.out)
    have n3_ := Aside0.mk (hch.blk (k := w5.heap.size) (o := (.cells #[.int .i64 5, .int .i64 0, .string ⟨#[]⟩] 32)) (by repeat (first | (with_reducible exact BX8.out) | (with_reducible refine blk_alloc ?_ _) | (with_reducible refine blk_drewN ?_ _) | (with_reducible refine blk_drew ?_))) G8.out)
    have n4_ := Aside0.mk (hch.blk (k := w7.heap.size) (o := (.cells #[.int .i64 6, .int .i64 2, .string ⟨#[]⟩] 32)) (by repeat (first | (with_reducible exact BX10.out) | (with_reducible refine blk_alloc ?_ _) | (with_reducible refine blk_drewN ?_ _) | (with_reducible refine blk_drew ?_))) G10.out)
    clear HH HB BX5 BX8 BX10
    have HH := n0_
    have HB := n1_
    have BX5 := n2_
    have BX8 := n3_
    have BX10 := n4_
    clear n0_ n1_ n2_ n3_ n4_
    haveI := GW.of HB.out
    clear hh hno hch G5 G8 G10
    have G5 := gG5_
    have G8 := gG8_
    have G10 := gG10_
    clear gG5_ gG8_ gG10_
    obtain ⟨⟨c00, c01, c02⟩, fr00, fr01, fr02⟩ := box3 (show _ from BX5.out)
    obtain ⟨⟨c10, c11, c12⟩, fr10, fr11, fr12⟩ := box3 (show _ from BX8.out)
    obtain ⟨⟨c20, c21, c22⟩, fr20, fr21, fr22⟩ := box3 (show _ from BX10.out)
    go_wp2_with (go_at_call 14; refine hold_ ?_)
    unfold Held
    clear c00 c01 c02 fr00 fr01 fr02 c10 c11 c12 fr10 fr11 fr12 c20 c21 c22 fr20 fr21 fr22
    refine ((HH.out.below (B := w.heap.size) (by repeat (first | (with_reducible exact Below.refl _ _) | (with_reducible apply below_alloc) | (with_reducible apply pw_below_drewN) | (with_reducible apply below_drew1)))).lenE p2 0 (len_p2 (l ++ [x]) l [(name, x)] (kvFold [name] l))).mono ?_
    rintro e w' ⟨rfl, hb⟩
    have n0_ := Aside0.mk (HH.out.below (below_step (by repeat (first | (with_reducible exact Below.refl _ _) | (with_reducible apply below_alloc) | (with_reducible apply pw_below_drewN) | (with_reducible apply below_drew1))) hb))
    have n1_ := Aside0.mk (below_step (by repeat (first | (with_reducible exact HB.out) | (with_reducible apply below_alloc) | (with_reducible apply pw_below_drewN) | (with_reducible apply below_drew1))) hb)
    have n2_ := Aside0.mk (blk_below (g := w.heap.size) (o := (.cells #[.int .i64 x.f0, .int .i64 x.f1, .string x.f2] 32)) (by repeat (first | (with_reducible exact BX5.out) | (with_reducible refine blk_alloc ?_ _) | (with_reducible refine blk_drewN ?_ _) | (with_reducible refine blk_drew ?_))) hb)
    have n3_ := Aside0.mk (blk_below (g := w5.heap.size) (o := (.cells #[.int .i64 5, .int .i64 0, .string ⟨#[]⟩] 32)) (by repeat (first | (with_reducible exact BX8.out) | (with_reducible refine blk_alloc ?_ _) | (with_reducible refine blk_drewN ?_ _) | (with_reducible refine blk_drew ?_))) hb)
    have n4_ := Aside0.mk (blk_below (g := w7.heap.size) (o := (.cells #[.int .i64 6, .int .i64 2, .string ⟨#[]⟩] 32)) (by repeat (first | (with_reducible exact BX10.out) | (with_reducible refine blk_alloc ?_ _) | (with_reducible refine blk_drewN ?_ _) | (with_reducible refine blk_drew ?_))) hb)
    clear HH HB BX5 BX8 BX10
    have HH := n0_
    have HB := n1_
    have BX5 := n2_
    have BX8 := n3_
    have BX10 := n4_
    clear n0_ n1_ n2_ n3_ n4_
    haveI := GW.of HB.out
    clear hb
    go_wp2
    go_ret
    exact ⟨rfl, HB.out⟩
theorem apart_calls (w : World) [GW w] (A : Option Addr) (c : Nat) (l : List S32) (name : ByteArray) (x : S32) (hC : k32.C w A l.length l) (hc : l.length ≤ c) (hl : l.length ≤ 1048576) :
    Calls Tryd.prog 5 #[.slice A l.length c, .string name, .agg #[.int .i64 x.f0, .int .i64 x.f1, .string x.f2]] w fun e w' => e = .returned (.bool true) ∧ Below w.heap.size w w' := by
  rcases Nat.eq_zero_or_pos l.length with h | h
  · exact apart_zero w A c l name x hC hc hl h
  · exact apart_pos w A c l name x hC hc hl h
end Go.Proofs.YtjbolkkbehfnmaaDoor.Val
