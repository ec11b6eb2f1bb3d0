/- HI, as this claim needs it. -/
import Derived.Test.YtdheakalfleleaaDoorHFq
import Derived.Test.YtdheakalfleleaaDoorPOperx3q
import Derived.Test.YtdheakalfleleaaDoorPOperx0q
import Derived.Test.YtdheakalfleleaaDoorPOperx1q
import Derived.Test.YtdheakalfleleaaDoorPOperx2q
namespace Go.Proofs.YtdheakalfleleaaDoor.Val
open Go.RowKit Go.Proofs.YtdheakalfleleaaDoor.POper Go.Proofs.YtdheakalfleleaaDoorW.PrintWords Go.Proofs.YtdheakalfleleaaDoorW.PrintLast Go.Proofs.YtdheakalfleleaaDoorW.PrintMore
set_option linter.unusedVariables false
set_option linter.unusedSimpArgs false
theorem new_calls2 (w : World) : Calls Tryd.prog 22 #[] w fun e w' => e = .returned (.pointer (some ⟨w.heap.size, 0, none⟩)) ∧ Below w.heap.size w w' := (new_calls w).mono fun e w' ⟨he, hw⟩ => ⟨he, by rw [hw]; exact below_alloc (Below.refl _ _) _⟩
set_option maxHeartbeats 8000000 in
set_option maxRecDepth 100000 in
theorem ordered_calls (w : World) [GW w] (x y : S23) (k : Nat) (l g s n le ge : Int) (hv : (l = 1 ∧ g = 0 ∧ s = 0 ∧ n = 1 ∧ le = 1 ∧ ge = 0) ∨ (l = 0 ∧ g = 1 ∧ s = 0 ∧ n = 1 ∧ le = 0 ∧ ge = 1) ∨ (l = 0 ∧ g = 0 ∧ s = 1 ∧ n = 0 ∧ le = 1 ∧ ge = 1))
    (h_l : oper_Binary.f k 0 ⟨#[60]⟩ x.f0 x.f1 x.f2 y.f0 y.f1 y.f2 = some (2, l, ⟨#[]⟩, 0)) (h_g : oper_Binary.f k 0 ⟨#[62]⟩ x.f0 x.f1 x.f2 y.f0 y.f1 y.f2 = some (2, g, ⟨#[]⟩, 0)) (h_s : oper_Binary.f k 0 ⟨#[61, 61, 61]⟩ x.f0 x.f1 x.f2 y.f0 y.f1 y.f2 = some (2, s, ⟨#[]⟩, 0)) (h_n : oper_Binary.f k 0 ⟨#[33, 61, 61]⟩ x.f0 x.f1 x.f2 y.f0 y.f1 y.f2 = some (2, n, ⟨#[]⟩, 0)) (h_le : oper_Binary.f k 0 ⟨#[60, 61]⟩ x.f0 x.f1 x.f2 y.f0 y.f1 y.f2 = some (2, le, ⟨#[]⟩, 0)) (h_ge : oper_Binary.f k 0 ⟨#[62, 61]⟩ x.f0 x.f1 x.f2 y.f0 y.f1 y.f2 = some (2, ge, ⟨#[]⟩, 0)) :
    Calls Tryd.prog 25 #[.agg #[.int .i64 x.f0, .int .i64 x.f1, .string x.f2], .agg #[.int .i64 y.f0, .int .i64 y.f1, .string y.f2]] w fun e w' => e = .returned (.bool true) ∧ Below w.heap.size w w' := by
  have E_l := Aside0.mk h_l
  have E_g := Aside0.mk h_g
  have E_s := Aside0.mk h_s
  have E_n := Aside0.mk h_n
  have E_le := Aside0.mk h_le
  have E_ge := Aside0.mk h_ge
  clear h_l h_g h_s h_n h_le h_ge
  rcases hv with ⟨rfl, rfl, rfl, rfl, rfl, rfl⟩ | ⟨rfl, rfl, rfl, rfl, rfl, rfl⟩ | ⟨rfl, rfl, rfl, rfl, rfl, rfl⟩
  · have HB := Aside0.mk (below_alloc (below_alloc (Below.refl w.heap.size w) (.cells #[.int .i64 x.f0, .int .i64 x.f1, .string x.f2] 23)) (.cells #[.int .i64 y.f0, .int .i64 y.f1, .string y.f2] 23))
    have BX := Aside0.mk (new1 w (.cells #[.int .i64 x.f0, .int .i64 x.f1, .string x.f2] 23) (.cells #[.int .i64 y.f0, .int .i64 y.f1, .string y.f2] 23))
    have BY := Aside0.mk (new2 w (.cells #[.int .i64 x.f0, .int .i64 x.f1, .string x.f2] 23) (.cells #[.int .i64 y.f0, .int .i64 y.f1, .string y.f2] 23))
    go_enter Tryd.func25, Tryd.ntmps25
    go_wp2_with (go_at_call 22; refine hold_ ?_)
    unfold Held
    refine (new_calls2 _).mono ?_
    rintro e w0 ⟨rfl, hb⟩
    have n0_ := Aside0.mk (below_step (by repeat (first | (with_reducible exact HB.out) | (with_reducible apply below_alloc) | (with_reducible apply pw_below_drewN) | (with_reducible apply below_drew1))) hb)
    have n1_ := Aside0.mk (blk_below (g := w.heap.size) (o := (.cells #[.int .i64 x.f0, .int .i64 x.f1, .string x.f2] 23)) (by repeat (first | (with_reducible exact BX.out) | (with_reducible refine blk_alloc ?_ _) | (with_reducible refine blk_drewN ?_ _) | (with_reducible refine blk_drew ?_))) hb)
    have n2_ := Aside0.mk (blk_below (g := (w.heap.size + 1)) (o := (.cells #[.int .i64 y.f0, .int .i64 y.f1, .string y.f2] 23)) (by repeat (first | (with_reducible exact BY.out) | (with_reducible refine blk_alloc ?_ _) | (with_reducible refine blk_drewN ?_ _) | (with_reducible refine blk_drew ?_))) hb)
    clear HB BX BY
    have HB := n0_
    have BX := n1_
    have BY := n2_
    clear n0_ n1_ n2_
    haveI := GW.of HB.out
    clear hb
    obtain ⟨⟨c00, c01, c02⟩, _, _, _⟩ := box3 (show (w0).heap[w.heap.size]? = some (.cells #[.int .i64 x.f0, .int .i64 x.f1, .string x.f2] 23) from (by repeat (first | (with_reducible exact BX.out) | (with_reducible refine blk_alloc ?_ _) | (with_reducible refine blk_drewN ?_ _) | (with_reducible refine blk_drew ?_))))
    obtain ⟨⟨c10, c11, c12⟩, _, _, _⟩ := box3 (show (w0).heap[w.heap.size + 1]? = some (.cells #[.int .i64 y.f0, .int .i64 y.f1, .string y.f2] 23) from (by repeat (first | (with_reducible exact BY.out) | (with_reducible refine blk_alloc ?_ _) | (with_reducible refine blk_drewN ?_ _) | (with_reducible refine blk_drew ?_))))
    go_wp2_with (go_at_call 15; refine hold_ ?_)
    unfold Held
    clear c00 c01 c02 c10 c11 c12
    refine (oper_Binary.calls _ k 0 ⟨#[60]⟩ x.f0 x.f1 x.f2 y.f0 y.f1 y.f2 2 1 ⟨#[]⟩ 0 _ E_l.out).mono ?_
    rintro e w1 ⟨rfl, hb⟩
    have n0_ := Aside0.mk (below_step (by repeat (first | (with_reducible exact HB.out) | (with_reducible apply below_alloc) | (with_reducible apply pw_below_drewN) | (with_reducible apply below_drew1))) hb)
    have n1_ := Aside0.mk (blk_below (g := w.heap.size) (o := (.cells #[.int .i64 x.f0, .int .i64 x.f1, .string x.f2] 23)) (by repeat (first | (with_reducible exact BX.out) | (with_reducible refine blk_alloc ?_ _) | (with_reducible refine blk_drewN ?_ _) | (with_reducible refine blk_drew ?_))) hb)
    have n2_ := Aside0.mk (blk_below (g := (w.heap.size + 1)) (o := (.cells #[.int .i64 y.f0, .int .i64 y.f1, .string y.f2] 23)) (by repeat (first | (with_reducible exact BY.out) | (with_reducible refine blk_alloc ?_ _) | (with_reducible refine blk_drewN ?_ _) | (with_reducible refine blk_drew ?_))) hb)
    clear HB BX BY
    have HB := n0_
    have BX := n1_
    have BY := n2_
    clear n0_ n1_ n2_
    haveI := GW.of HB.out
    clear hb
    have R0 := Aside0.mk (heap_alloc_new w1 (.cells #[.int .i64 2, .int .i64 1, .string ⟨#[]⟩] 23))
    obtain ⟨⟨c00, c01, c02⟩, _, _, _⟩ := box3 (show (w1.alloc (.cells #[.int .i64 2, .int .i64 1, .string ⟨#[]⟩] 23)).heap[w.heap.size]? = some (.cells #[.int .i64 x.f0, .int .i64 x.f1, .string x.f2] 23) from (by repeat (first | (with_reducible exact BX.out) | (with_reducible refine blk_alloc ?_ _) | (with_reducible refine blk_drewN ?_ _) | (with_reducible refine blk_drew ?_))))
    obtain ⟨⟨c10, c11, c12⟩, _, _, _⟩ := box3 (show (w1.alloc (.cells #[.int .i64 2, .int .i64 1, .string ⟨#[]⟩] 23)).heap[w.heap.size + 1]? = some (.cells #[.int .i64 y.f0, .int .i64 y.f1, .string y.f2] 23) from (by repeat (first | (with_reducible exact BY.out) | (with_reducible refine blk_alloc ?_ _) | (with_reducible refine blk_drewN ?_ _) | (with_reducible refine blk_drew ?_))))
    go_wp2_with (go_at_call 15; refine hold_ ?_)
    unfold Held
    clear c00 c01 c02 c10 c11 c12
    refine (oper_Binary.calls _ k 0 ⟨#[62]⟩ x.f0 x.f1 x.f2 y.f0 y.f1 y.f2 2 0 ⟨#[]⟩ 0 _ E_g.out).mono ?_
    rintro e w2 ⟨rfl, hb⟩
    have n0_ := Aside0.mk (below_step (by repeat (first | (with_reducible exact HB.out) | (with_reducible apply below_alloc) | (with_reducible apply pw_below_drewN) | (with_reducible apply below_drew1))) hb)
    have n1_ := Aside0.mk (blk_below (g := w.heap.size) (o := (.cells #[.int .i64 x.f0, .int .i64 x.f1, .string x.f2] 23)) (by repeat (first | (with_reducible exact BX.out) | (with_reducible refine blk_alloc ?_ _) | (with_reducible refine blk_drewN ?_ _) | (with_reducible refine blk_drew ?_))) hb)
    have n2_ := Aside0.mk (blk_below (g := (w.heap.size + 1)) (o := (.cells #[.int .i64 y.f0, .int .i64 y.f1, .string y.f2] 23)) (by repeat (first | (with_reducible exact BY.out) | (with_reducible refine blk_alloc ?_ _) | (with_reducible refine blk_drewN ?_ _) | (with_reducible refine blk_drew ?_))) hb)
    have n3_ := Aside0.mk (blk_below (g := w1.heap.size) (o := (.cells #[.int .i64 2, .int .i64 1, .string ⟨#[]⟩] 23)) (by repeat (first | (with_reducible exact R0.out) | (with_reducible refine blk_alloc ?_ _) | (with_reducible refine blk_drewN ?_ _) | (with_reducible refine blk_drew ?_))) hb)
    clear HB BX BY R0
    have HB := n0_
    have BX := n1_
    have BY := n2_
    have R0 := n3_
    clear n0_ n1_ n2_ n3_
    haveI := GW.of HB.out
    clear hb
    have R1 := Aside0.mk (heap_alloc_new w2 (.cells #[.int .i64 2, .int .i64 0, .string ⟨#[]⟩] 23))
    obtain ⟨⟨c00, c01, c02⟩, _, _, _⟩ := box3 (show (w2.alloc (.cells #[.int .i64 2, .int .i64 0, .string ⟨#[]⟩] 23)).heap[w.heap.size]? = some (.cells #[.int .i64 x.f0, .int .i64 x.f1, .string x.f2] 23) from (by repeat (first | (with_reducible exact BX.out) | (with_reducible refine blk_alloc ?_ _) | (with_reducible refine blk_drewN ?_ _) | (with_reducible refine blk_drew ?_))))
    obtain ⟨⟨c10, c11, c12⟩, _, _, _⟩ := box3 (show (w2.alloc (.cells #[.int .i64 2, .int .i64 0, .string ⟨#[]⟩] 23)).heap[w.heap.size + 1]? = some (.cells #[.int .i64 y.f0, .int .i64 y.f1, .string y.f2] 23) from (by repeat (first | (with_reducible exact BY.out) | (with_reducible refine blk_alloc ?_ _) | (with_reducible refine blk_drewN ?_ _) | (with_reducible refine blk_drew ?_))))
    go_wp2_with (go_at_call 15; refine hold_ ?_)
    unfold Held
    clear c00 c01 c02 c10 c11 c12
    refine (oper_Binary.calls _ k 0 ⟨#[61, 61, 61]⟩ x.f0 x.f1 x.f2 y.f0 y.f1 y.f2 2 0 ⟨#[]⟩ 0 _ E_s.out).mono ?_
    rintro e w3 ⟨rfl, hb⟩
    have n0_ := Aside0.mk (below_step (by repeat (first | (with_reducible exact HB.out) | (with_reducible apply below_alloc) | (with_reducible apply pw_below_drewN) | (with_reducible apply below_drew1))) hb)
    have n1_ := Aside0.mk (blk_below (g := w.heap.size) (o := (.cells #[.int .i64 x.f0, .int .i64 x.f1, .string x.f2] 23)) (by repeat (first | (with_reducible exact BX.out) | (with_reducible refine blk_alloc ?_ _) | (with_reducible refine blk_drewN ?_ _) | (with_reducible refine blk_drew ?_))) hb)
    have n2_ := Aside0.mk (blk_below (g := (w.heap.size + 1)) (o := (.cells #[.int .i64 y.f0, .int .i64 y.f1, .string y.f2] 23)) (by repeat (first | (with_reducible exact BY.out) | (with_reducible refine blk_alloc ?_ _) | (with_reducible refine blk_drewN ?_ _) | (with_reducible refine blk_drew ?_))) hb)
    have n3_ := Aside0.mk (blk_below (g := w1.heap.size) (o := (.cells #[.int .i64 2, .int .i64 1, .string ⟨#[]⟩] 23)) (by repeat (first | (with_reducible exact R0.out) | (with_reducible refine blk_alloc ?_ _) | (with_reducible refine blk_drewN ?_ _) | (with_reducible refine blk_drew ?_))) hb)
    have n4_ := Aside0.mk (blk_below (g := w2.heap.size) (o := (.cells #[.int .i64 2, .int .i64 0, .string ⟨#[]⟩] 23)) (by repeat (first | (with_reducible exact R1.out) | (with_reducible refine blk_alloc ?_ _) | (with_reducible refine blk_drewN ?_ _) | (with_reducible refine blk_drew ?_))) hb)
    clear HB BX BY R0 R1
    have HB := n0_
    have BX := n1_
    have BY := n2_
    have R0 := n3_
    have R1 := n4_
    clear n0_ n1_ n2_ n3_ n4_
    haveI := GW.of HB.out
    clear hb
    have R2 := Aside0.mk (heap_alloc_new w3 (.cells #[.int .i64 2, .int .i64 0, .string ⟨#[]⟩] 23))
    obtain ⟨⟨c00, c01, c02⟩, _, _, _⟩ := box3 (show (w3.alloc (.cells #[.int .i64 2, .int .i64 0, .string ⟨#[]⟩] 23)).heap[w.heap.size]? = some (.cells #[.int .i64 x.f0, .int .i64 x.f1, .string x.f2] 23) from (by repeat (first | (with_reducible exact BX.out) | (with_reducible refine blk_alloc ?_ _) | (with_reducible refine blk_drewN ?_ _) | (with_reducible refine blk_drew ?_))))
    obtain ⟨⟨c10, c11, c12⟩, _, _, _⟩ := box3 (show (w3.alloc (.cells #[.int .i64 2, .int .i64 0, .string ⟨#[]⟩] 23)).heap[w.heap.size + 1]? = some (.cells #[.int .i64 y.f0, .int .i64 y.f1, .string y.f2] 23) from (by repeat (first | (with_reducible exact BY.out) | (with_reducible refine blk_alloc ?_ _) | (with_reducible refine blk_drewN ?_ _) | (with_reducible refine blk_drew ?_))))
    go_wp2_with (go_at_call 15; refine hold_ ?_)
    unfold Held
    clear c00 c01 c02 c10 c11 c12
    refine (oper_Binary.calls _ k 0 ⟨#[33, 61, 61]⟩ x.f0 x.f1 x.f2 y.f0 y.f1 y.f2 2 1 ⟨#[]⟩ 0 _ E_n.out).mono ?_
    rintro e w4 ⟨rfl, hb⟩
    have n0_ := Aside0.mk (below_step (by repeat (first | (with_reducible exact HB.out) | (with_reducible apply below_alloc) | (with_reducible apply pw_below_drewN) | (with_reducible apply below_drew1))) hb)
    have n1_ := Aside0.mk (blk_below (g := w.heap.size) (o := (.cells #[.int .i64 x.f0, .int .i64 x.f1, .string x.f2] 23)) (by repeat (first | (with_reducible exact BX.out) | (with_reducible refine blk_alloc ?_ _) | (with_reducible refine blk_drewN ?_ _) | (with_reducible refine blk_drew ?_))) hb)
    have n2_ := Aside0.mk (blk_below (g := (w.heap.size + 1)) (o := (.cells #[.int .i64 y.f0, .int .i64 y.f1, .string y.f2] 23)) (by repeat (first | (with_reducible exact BY.out) | (with_reducible refine blk_alloc ?_ _) | (with_reducible refine blk_drewN ?_ _) | (with_reducible refine blk_drew ?_))) hb)
    have n3_ := Aside0.mk (blk_below (g := w1.heap.size) (o := (.cells #[.int .i64 2, .int .i64 1, .string ⟨#[]⟩] 23)) (by repeat (first | (with_reducible exact R0.out) | (with_reducible refine blk_alloc ?_ _) | (with_reducible refine blk_drewN ?_ _) | (with_reducible refine blk_drew ?_))) hb)
    have n4_ := Aside0.mk (blk_below (g := w2.heap.size) (o := (.cells #[.int .i64 2, .int .i64 0, .string ⟨#[]⟩] 23)) (by repeat (first | (with_reducible exact R1.out) | (with_reducible refine blk_alloc ?_ _) | (with_reducible refine blk_drewN ?_ _) | (with_reducible refine blk_drew ?_))) hb)
    have n5_ := Aside0.mk (blk_below (g := w3.heap.size) (o := (.cells #[.int .i64 2, .int .i64 0, .string ⟨#[]⟩] 23)) (by repeat (first | (with_reducible exact R2.out) | (with_reducible refine blk_alloc ?_ _) | (with_reducible refine blk_drewN ?_ _) | (with_reducible refine blk_drew ?_))) hb)
    clear HB BX BY R0 R1 R2
    have HB := n0_
    have BX := n1_
    have BY := n2_
    have R0 := n3_
    have R1 := n4_
    have R2 := n5_
    clear n0_ n1_ n2_ n3_ n4_ n5_
    haveI := GW.of HB.out
    clear hb
    have R3 := Aside0.mk (heap_alloc_new w4 (.cells #[.int .i64 2, .int .i64 1, .string ⟨#[]⟩] 23))
    obtain ⟨⟨c00, c01, c02⟩, _, _, _⟩ := box3 (show (w4.alloc (.cells #[.int .i64 2, .int .i64 1, .string ⟨#[]⟩] 23)).heap[w.heap.size]? = some (.cells #[.int .i64 x.f0, .int .i64 x.f1, .string x.f2] 23) from (by repeat (first | (with_reducible exact BX.out) | (with_reducible refine blk_alloc ?_ _) | (with_reducible refine blk_drewN ?_ _) | (with_reducible refine blk_drew ?_))))
    obtain ⟨⟨c10, c11, c12⟩, _, _, _⟩ := box3 (show (w4.alloc (.cells #[.int .i64 2, .int .i64 1, .string ⟨#[]⟩] 23)).heap[w.heap.size + 1]? = some (.cells #[.int .i64 y.f0, .int .i64 y.f1, .string y.f2] 23) from (by repeat (first | (with_reducible exact BY.out) | (with_reducible refine blk_alloc ?_ _) | (with_reducible refine blk_drewN ?_ _) | (with_reducible refine blk_drew ?_))))
    go_wp2_with (go_at_call 15; refine hold_ ?_)
    unfold Held
    clear c00 c01 c02 c10 c11 c12
    refine (oper_Binary.calls _ k 0 ⟨#[60, 61]⟩ x.f0 x.f1 x.f2 y.f0 y.f1 y.f2 2 1 ⟨#[]⟩ 0 _ E_le.out).mono ?_
    rintro e w5 ⟨rfl, hb⟩
    have n0_ := Aside0.mk (below_step (by repeat (first | (with_reducible exact HB.out) | (with_reducible apply below_alloc) | (with_reducible apply pw_below_drewN) | (with_reducible apply below_drew1))) hb)
    have n1_ := Aside0.mk (blk_below (g := w.heap.size) (o := (.cells #[.int .i64 x.f0, .int .i64 x.f1, .string x.f2] 23)) (by repeat (first | (with_reducible exact BX.out) | (with_reducible refine blk_alloc ?_ _) | (with_reducible refine blk_drewN ?_ _) | (with_reducible refine blk_drew ?_))) hb)
    have n2_ := Aside0.mk (blk_below (g := (w.heap.size + 1)) (o := (.cells #[.int .i64 y.f0, .int .i64 y.f1, .string y.f2] 23)) (by repeat (first | (with_reducible exact BY.out) | (with_reducible refine blk_alloc ?_ _) | (with_reducible refine blk_drewN ?_ _) | (with_reducible refine blk_drew ?_))) hb)
    have n3_ := Aside0.mk (blk_below (g := w1.heap.size) (o := (.cells #[.int .i64 2, .int .i64 1, .string ⟨#[]⟩] 23)) (by repeat (first | (with_reducible exact R0.out) | (with_reducible refine blk_alloc ?_ _) | (with_reducible refine blk_drewN ?_ _) | (with_reducible refine blk_drew ?_))) hb)
    have n4_ := Aside0.mk (blk_below (g := w2.heap.size) (o := (.cells #[.int .i64 2, .int .i64 0, .string ⟨#[]⟩] 23)) (by repeat (first | (with_reducible exact R1.out) | (with_reducible refine blk_alloc ?_ _) | (with_reducible refine blk_drewN ?_ _) | (with_reducible refine blk_drew ?_))) hb)
    have n5_ := Aside0.mk (blk_below (g := w3.heap.size) (o := (.cells #[.int .i64 2, .int .i64 0, .string ⟨#[]⟩] 23)) (by repeat (first | (with_reducible exact R2.out) | (with_reducible refine blk_alloc ?_ _) | (with_reducible refine blk_drewN ?_ _) | (with_reducible refine blk_drew ?_))) hb)
    have n6_ := Aside0.mk (blk_below (g := w4.heap.size) (o := (.cells #[.int .i64 2, .int .i64 1, .string ⟨#[]⟩] 23)) (by repeat (first | (with_reducible exact R3.out) | (with_reducible refine blk_alloc ?_ _) | (with_reducible refine blk_drewN ?_ _) | (with_reducible refine blk_drew ?_))) hb)
    clear HB BX BY R0 R1 R2 R3
    have HB := n0_
    have BX := n1_
    have BY := n2_
    have R0 := n3_
    have R1 := n4_
    have R2 := n5_
    have R3 := n6_
    clear n0_ n1_ n2_ n3_ n4_ n5_ n6_
    haveI := GW.of HB.out
    clear hb
    have R4 := Aside0.mk (heap_alloc_new w5 (.cells #[.int .i64 2, .int .i64 1, .string ⟨#[]⟩] 23))
    obtain ⟨⟨c00, c01, c02⟩, _, _, _⟩ := box3 (show (w5.alloc (.cells #[.int .i64 2, .int .i64 1, .string ⟨#[]⟩] 23)).heap[w.heap.size]? = some (.cells #[.int .i64 x.f0, .int .i64 x.f1, .string x.f2] 23) from (by repeat (first | (with_reducible exact BX.out) | (with_reducible refine blk_alloc ?_ _) | (with_reducible refine blk_drewN ?_ _) | (with_reducible refine blk_drew ?_))))
    obtain ⟨⟨c10, c11, c12⟩, _, _, _⟩ := box3 (show (w5.alloc (.cells #[.int .i64 2, .int .i64 1, .string ⟨#[]⟩] 23)).heap[w.heap.size + 1]? = some (.cells #[.int .i64 y.f0, .int .i64 y.f1, .string y.f2] 23) from (by repeat (first | (with_reducible exact BY.out) | (with_reducible refine blk_alloc ?_ _) | (with_reducible refine blk_drewN ?_ _) | (with_reducible refine blk_drew ?_))))
    go_wp2_with (go_at_call 15; refine hold_ ?_)
    unfold Held
    clear c00 c01 c02 c10 c11 c12
    refine (oper_Binary.calls _ k 0 ⟨#[62, 61]⟩ x.f0 x.f1 x.f2 y.f0 y.f1 y.f2 2 0 ⟨#[]⟩ 0 _ E_ge.out).mono ?_
    rintro e w6 ⟨rfl, hb⟩
    have n0_ := Aside0.mk (below_step (by repeat (first | (with_reducible exact HB.out) | (with_reducible apply below_alloc) | (with_reducible apply pw_below_drewN) | (with_reducible apply below_drew1))) hb)
    have n1_ := Aside0.mk (blk_below (g := w.heap.size) (o := (.cells #[.int .i64 x.f0, .int .i64 x.f1, .string x.f2] 23)) (by repeat (first | (with_reducible exact BX.out) | (with_reducible refine blk_alloc ?_ _) | (with_reducible refine blk_drewN ?_ _) | (with_reducible refine blk_drew ?_))) hb)
    have n2_ := Aside0.mk (blk_below (g := (w.heap.size + 1)) (o := (.cells #[.int .i64 y.f0, .int .i64 y.f1, .string y.f2] 23)) (by repeat (first | (with_reducible exact BY.out) | (with_reducible refine blk_alloc ?_ _) | (with_reducible refine blk_drewN ?_ _) | (with_reducible refine blk_drew ?_))) hb)
    have n3_ := Aside0.mk (blk_below (g := w1.heap.size) (o := (.cells #[.int .i64 2, .int .i64 1, .string ⟨#[]⟩] 23)) (by repeat (first | (with_reducible exact R0.out) | (with_reducible refine blk_alloc ?_ _) | (with_reducible refine blk_drewN ?_ _) | (with_reducible refine blk_drew ?_))) hb)
    have n4_ := Aside0.mk (blk_below (g := w2.heap.size) (o := (.cells #[.int .i64 2, .int .i64 0, .string ⟨#[]⟩] 23)) (by repeat (first | (with_reducible exact R1.out) | (with_reducible refine blk_alloc ?_ _) | (with_reducible refine blk_drewN ?_ _) | (with_reducible refine blk_drew ?_))) hb)
    have n5_ := Aside0.mk (blk_below (g := w3.heap.size) (o := (.cells #[.int .i64 2, .int .i64 0, .string ⟨#[]⟩] 23)) (by repeat (first | (with_reducible exact R2.out) | (with_reducible refine blk_alloc ?_ _) | (with_reducible refine blk_drewN ?_ _) | (with_reducible refine blk_drew ?_))) hb)
    have n6_ := Aside0.mk (blk_below (g := w4.heap.size) (o := (.cells #[.int .i64 2, .int .i64 1, .string ⟨#[]⟩] 23)) (by repeat (first | (with_reducible exact R3.out) | (with_reducible refine blk_alloc ?_ _) | (with_reducible refine blk_drewN ?_ _) | (with_reducible refine blk_drew ?_))) hb)
    have n7_ := Aside0.mk (blk_below (g := w5.heap.size) (o := (.cells #[.int .i64 2, .int .i64 1, .string ⟨#[]⟩] 23)) (by repeat (first | (with_reducible exact R4.out) | (with_reducible refine blk_alloc ?_ _) | (with_reducible refine blk_drewN ?_ _) | (with_reducible refine blk_drew ?_))) hb)
    clear HB BX BY R0 R1 R2 R3 R4
    have HB := n0_
    have BX := n1_
    have BY := n2_
    have R0 := n3_
    have R1 := n4_
    have R2 := n5_
    have R3 := n6_
    have R4 := n7_
    clear n0_ n1_ n2_ n3_ n4_ n5_ n6_ n7_
    haveI := GW.of HB.out
    clear hb
    have R5 := Aside0.mk (heap_alloc_new w6 (.cells #[.int .i64 2, .int .i64 0, .string ⟨#[]⟩] 23))
    obtain ⟨⟨_, r0, _⟩, _, _, _⟩ := box3 (show (w6.alloc (.cells #[.int .i64 2, .int .i64 0, .string ⟨#[]⟩] 23)).heap[w1.heap.size]? = some (.cells #[.int .i64 2, .int .i64 1, .string ⟨#[]⟩] 23) from (by repeat (first | (with_reducible exact R0.out) | (with_reducible refine blk_alloc ?_ _) | (with_reducible refine blk_drewN ?_ _) | (with_reducible refine blk_drew ?_))))
    obtain ⟨⟨_, r1, _⟩, _, _, _⟩ := box3 (show (w6.alloc (.cells #[.int .i64 2, .int .i64 0, .string ⟨#[]⟩] 23)).heap[w2.heap.size]? = some (.cells #[.int .i64 2, .int .i64 0, .string ⟨#[]⟩] 23) from (by repeat (first | (with_reducible exact R1.out) | (with_reducible refine blk_alloc ?_ _) | (with_reducible refine blk_drewN ?_ _) | (with_reducible refine blk_drew ?_))))
    obtain ⟨⟨_, r2, _⟩, _, _, _⟩ := box3 (show (w6.alloc (.cells #[.int .i64 2, .int .i64 0, .string ⟨#[]⟩] 23)).heap[w3.heap.size]? = some (.cells #[.int .i64 2, .int .i64 0, .string ⟨#[]⟩] 23) from (by repeat (first | (with_reducible exact R2.out) | (with_reducible refine blk_alloc ?_ _) | (with_reducible refine blk_drewN ?_ _) | (with_reducible refine blk_drew ?_))))
    obtain ⟨⟨_, r3, _⟩, _, _, _⟩ := box3 (show (w6.alloc (.cells #[.int .i64 2, .int .i64 0, .string ⟨#[]⟩] 23)).heap[w4.heap.size]? = some (.cells #[.int .i64 2, .int .i64 1, .string ⟨#[]⟩] 23) from (by repeat (first | (with_reducible exact R3.out) | (with_reducible refine blk_alloc ?_ _) | (with_reducible refine blk_drewN ?_ _) | (with_reducible refine blk_drew ?_))))
    obtain ⟨⟨_, r4, _⟩, _, _, _⟩ := box3 (show (w6.alloc (.cells #[.int .i64 2, .int .i64 0, .string ⟨#[]⟩] 23)).heap[w5.heap.size]? = some (.cells #[.int .i64 2, .int .i64 1, .string ⟨#[]⟩] 23) from (by repeat (first | (with_reducible exact R4.out) | (with_reducible refine blk_alloc ?_ _) | (with_reducible refine blk_drewN ?_ _) | (with_reducible refine blk_drew ?_))))
    obtain ⟨⟨_, r5, _⟩, _, _, _⟩ := box3 (show (w6.alloc (.cells #[.int .i64 2, .int .i64 0, .string ⟨#[]⟩] 23)).heap[w6.heap.size]? = some (.cells #[.int .i64 2, .int .i64 0, .string ⟨#[]⟩] 23) from (by repeat (first | (with_reducible exact R5.out) | (with_reducible refine blk_alloc ?_ _) | (with_reducible refine blk_drewN ?_ _) | (with_reducible refine blk_drew ?_))))
    go_wp2
    go_ret
    exact ⟨rfl, (by repeat (first | (with_reducible exact HB.out) | (with_reducible apply below_alloc) | (with_reducible apply pw_below_drewN) | (with_reducible apply below_drew1)))⟩
  · have HB := Aside0.mk (below_alloc (below_alloc (Below.refl w.heap.size w) (.cells #[.int .i64 x.f0, .int .i64 x.f1, .string x.f2] 23)) (.cells #[.int .i64 y.f0, .int .i64 y.f1, .string y.f2] 23))
    have BX := Aside0.mk (new1 w (.cells #[.int .i64 x.f0, .int .i64 x.f1, .string x.f2] 23) (.cells #[.int .i64 y.f0, .int .i64 y.f1, .string y.f2] 23))
    have BY := Aside0.mk (new2 w (.cells #[.int .i64 x.f0, .int .i64 x.f1, .string x.f2] 23) (.cells #[.int .i64 y.f0, .int .i64 y.f1, .string y.f2] 23))
    go_enter Tryd.func25, Tryd.ntmps25
    go_wp2_with (go_at_call 22; refine hold_ ?_)
    unfold Held
    refine (new_calls2 _).mono ?_
    rintro e w0 ⟨rfl, hb⟩
    have n0_ := Aside0.mk (below_step (by repeat (first | (with_reducible exact HB.out) | (with_reducible apply below_alloc) | (with_reducible apply pw_below_drewN) | (with_reducible apply below_drew1))) hb)
    have n1_ := Aside0.mk (blk_below (g := w.heap.size) (o := (.cells #[.int .i64 x.f0, .int .i64 x.f1, .string x.f2] 23)) (by repeat (first | (with_reducible exact BX.out) | (with_reducible refine blk_alloc ?_ _) | (with_reducible refine blk_drewN ?_ _) | (with_reducible refine blk_drew ?_))) hb)
    have n2_ := Aside0.mk (blk_below (g := (w.heap.size + 1)) (o := (.cells #[.int .i64 y.f0, .int .i64 y.f1, .string y.f2] 23)) (by repeat (first | (with_reducible exact BY.out) | (with_reducible refine blk_alloc ?_ _) | (with_reducible refine blk_drewN ?_ _) | (with_reducible refine blk_drew ?_))) hb)
    clear HB BX BY
    have HB := n0_
    have BX := n1_
    have BY := n2_
    clear n0_ n1_ n2_
    haveI := GW.of HB.out
    clear hb
    obtain ⟨⟨c00, c01, c02⟩, _, _, _⟩ := box3 (show (w0).heap[w.heap.size]? = some (.cells #[.int .i64 x.f0, .int .i64 x.f1, .string x.f2] 23) from (by repeat (first | (with_reducible exact BX.out) | (with_reducible refine blk_alloc ?_ _) | (with_reducible refine blk_drewN ?_ _) | (with_reducible refine blk_drew ?_))))
    obtain ⟨⟨c10, c11, c12⟩, _, _, _⟩ := box3 (show (w0).heap[w.heap.size + 1]? = some (.cells #[.int .i64 y.f0, .int .i64 y.f1, .string y.f2] 23) from (by repeat (first | (with_reducible exact BY.out) | (with_reducible refine blk_alloc ?_ _) | (with_reducible refine blk_drewN ?_ _) | (with_reducible refine blk_drew ?_))))
    go_wp2_with (go_at_call 15; refine hold_ ?_)
    unfold Held
    clear c00 c01 c02 c10 c11 c12
    refine (oper_Binary.calls _ k 0 ⟨#[60]⟩ x.f0 x.f1 x.f2 y.f0 y.f1 y.f2 2 0 ⟨#[]⟩ 0 _ E_l.out).mono ?_
    rintro e w1 ⟨rfl, hb⟩
    have n0_ := Aside0.mk (below_step (by repeat (first | (with_reducible exact HB.out) | (with_reducible apply below_alloc) | (with_reducible apply pw_below_drewN) | (with_reducible apply below_drew1))) hb)
    have n1_ := Aside0.mk (blk_below (g := w.heap.size) (o := (.cells #[.int .i64 x.f0, .int .i64 x.f1, .string x.f2] 23)) (by repeat (first | (with_reducible exact BX.out) | (with_reducible refine blk_alloc ?_ _) | (with_reducible refine blk_drewN ?_ _) | (with_reducible refine blk_drew ?_))) hb)
    have n2_ := Aside0.mk (blk_below (g := (w.heap.size + 1)) (o := (.cells #[.int .i64 y.f0, .int .i64 y.f1, .string y.f2] 23)) (by repeat (first | (with_reducible exact BY.out) | (with_reducible refine blk_alloc ?_ _) | (with_reducible refine blk_drewN ?_ _) | (with_reducible refine blk_drew ?_))) hb)
    clear HB BX BY
    have HB := n0_
    have BX := n1_
    have BY := n2_
    clear n0_ n1_ n2_
    haveI := GW.of HB.out
    clear hb
    have R0 := Aside0.mk (heap_alloc_new w1 (.cells #[.int .i64 2, .int .i64 0, .string ⟨#[]⟩] 23))
    obtain ⟨⟨c00, c01, c02⟩, _, _, _⟩ := box3 (show (w1.alloc (.cells #[.int .i64 2, .int .i64 0, .string ⟨#[]⟩] 23)).heap[w.heap.size]? = some (.cells #[.int .i64 x.f0, .int .i64 x.f1, .string x.f2] 23) from (by repeat (first | (with_reducible exact BX.out) | (with_reducible refine blk_alloc ?_ _) | (with_reducible refine blk_drewN ?_ _) | (with_reducible refine blk_drew ?_))))
    obtain ⟨⟨c10, c11, c12⟩, _, _, _⟩ := box3 (show (w1.alloc (.cells #[.int .i64 2, .int .i64 0, .string ⟨#[]⟩] 23)).heap[w.heap.size + 1]? = some (.cells #[.int .i64 y.f0, .int .i64 y.f1, .string y.f2] 23) from (by repeat (first | (with_reducible exact BY.out) | (with_reducible refine blk_alloc ?_ _) | (with_reducible refine blk_drewN ?_ _) | (with_reducible refine blk_drew ?_))))
    go_wp2_with (go_at_call 15; refine hold_ ?_)
    unfold Held
    clear c00 c01 c02 c10 c11 c12
    refine (oper_Binary.calls _ k 0 ⟨#[62]⟩ x.f0 x.f1 x.f2 y.f0 y.f1 y.f2 2 1 ⟨#[]⟩ 0 _ E_g.out).mono ?_
    rintro e w2 ⟨rfl, hb⟩
    have n0_ := Aside0.mk (below_step (by repeat (first | (with_reducible exact HB.out) | (with_reducible apply below_alloc) | (with_reducible apply pw_below_drewN) | (with_reducible apply below_drew1))) hb)
    have n1_ := Aside0.mk (blk_below (g := w.heap.size) (o := (.cells #[.int .i64 x.f0, .int .i64 x.f1, .string x.f2] 23)) (by repeat (first | (with_reducible exact BX.out) | (with_reducible refine blk_alloc ?_ _) | (with_reducible refine blk_drewN ?_ _) | (with_reducible refine blk_drew ?_))) hb)
    have n2_ := Aside0.mk (blk_below (g := (w.heap.size + 1)) (o := (.cells #[.int .i64 y.f0, .int .i64 y.f1, .string y.f2] 23)) (by repeat (first | (with_reducible exact BY.out) | (with_reducible refine blk_alloc ?_ _) | (with_reducible refine blk_drewN ?_ _) | (with_reducible refine blk_drew ?_))) hb)
    have n3_ := Aside0.mk (blk_below (g := w1.heap.size) (o := (.cells #[.int .i64 2, .int .i64 0, .string ⟨#[]⟩] 23)) (by repeat (first | (with_reducible exact R0.out) | (with_reducible refine blk_alloc ?_ _) | (with_reducible refine blk_drewN ?_ _) | (with_reducible refine blk_drew ?_))) hb)
    clear HB BX BY R0
    have HB := n0_
    have BX := n1_
    have BY := n2_
    have R0 := n3_
    clear n0_ n1_ n2_ n3_
    haveI := GW.of HB.out
    clear hb
    have R1 := Aside0.mk (heap_alloc_new w2 (.cells #[.int .i64 2, .int .i64 1, .string ⟨#[]⟩] 23))
    obtain ⟨⟨c00, c01, c02⟩, _, _, _⟩ := box3 (show (w2.alloc (.cells #[.int .i64 2, .int .i64 1, .string ⟨#[]⟩] 23)).heap[w.heap.size]? = some (.cells #[.int .i64 x.f0, .int .i64 x.f1, .string x.f2] 23) from (by repeat (first | (with_reducible exact BX.out) | (with_reducible refine blk_alloc ?_ _) | (with_reducible refine blk_drewN ?_ _) | (with_reducible refine blk_drew ?_))))
    obtain ⟨⟨c10, c11, c12⟩, _, _, _⟩ := box3 (show (w2.alloc (.cells #[.int .i64 2, .int .i64 1, .string ⟨#[]⟩] 23)).heap[w.heap.size + 1]? = some (.cells #[.int .i64 y.f0, .int .i64 y.f1, .string y.f2] 23) from (by repeat (first | (with_reducible exact BY.out) | (with_reducible refine blk_alloc ?_ _) | (with_reducible refine blk_drewN ?_ _) | (with_reducible refine blk_drew ?_))))
    go_wp2_with (go_at_call 15; refine hold_ ?_)
    unfold Held
    clear c00 c01 c02 c10 c11 c12
    refine (oper_Binary.calls _ k 0 ⟨#[61, 61, 61]⟩ x.f0 x.f1 x.f2 y.f0 y.f1 y.f2 2 0 ⟨#[]⟩ 0 _ E_s.out).mono ?_
    rintro e w3 ⟨rfl, hb⟩
    have n0_ := Aside0.mk (below_step (by repeat (first | (with_reducible exact HB.out) | (with_reducible apply below_alloc) | (with_reducible apply pw_below_drewN) | (with_reducible apply below_drew1))) hb)
    have n1_ := Aside0.mk (blk_below (g := w.heap.size) (o := (.cells #[.int .i64 x.f0, .int .i64 x.f1, .string x.f2] 23)) (by repeat (first | (with_reducible exact BX.out) | (with_reducible refine blk_alloc ?_ _) | (with_reducible refine blk_drewN ?_ _) | (with_reducible refine blk_drew ?_))) hb)
    have n2_ := Aside0.mk (blk_below (g := (w.heap.size + 1)) (o := (.cells #[.int .i64 y.f0, .int .i64 y.f1, .string y.f2] 23)) (by repeat (first | (with_reducible exact BY.out) | (with_reducible refine blk_alloc ?_ _) | (with_reducible refine blk_drewN ?_ _) | (with_reducible refine blk_drew ?_))) hb)
    have n3_ := Aside0.mk (blk_below (g := w1.heap.size) (o := (.cells #[.int .i64 2, .int .i64 0, .string ⟨#[]⟩] 23)) (by repeat (first | (with_reducible exact R0.out) | (with_reducible refine blk_alloc ?_ _) | (with_reducible refine blk_drewN ?_ _) | (with_reducible refine blk_drew ?_))) hb)
    have n4_ := Aside0.mk (blk_below (g := w2.heap.size) (o := (.cells #[.int .i64 2, .int .i64 1, .string ⟨#[]⟩] 23)) (by repeat (first | (with_reducible exact R1.out) | (with_reducible refine blk_alloc ?_ _) | (with_reducible refine blk_drewN ?_ _) | (with_reducible refine blk_drew ?_))) hb)
    clear HB BX BY R0 R1
    have HB := n0_
    have BX := n1_
    have BY := n2_
    have R0 := n3_
    have R1 := n4_
    clear n0_ n1_ n2_ n3_ n4_
    haveI := GW.of HB.out
    clear hb
    have R2 := Aside0.mk (heap_alloc_new w3 (.cells #[.int .i64 2, .int .i64 0, .string ⟨#[]⟩] 23))
    obtain ⟨⟨c00, c01, c02⟩, _, _, _⟩ := box3 (show (w3.alloc (.cells #[.int .i64 2, .int .i64 0, .string ⟨#[]⟩] 23)).heap[w.heap.size]? = some (.cells #[.int .i64 x.f0, .int .i64 x.f1, .string x.f2] 23) from (by repeat (first | (with_reducible exact BX.out) | (with_reducible refine blk_alloc ?_ _) | (with_reducible refine blk_drewN ?_ _) | (with_reducible refine blk_drew ?_))))
    obtain ⟨⟨c10, c11, c12⟩, _, _, _⟩ := box3 (show (w3.alloc (.cells #[.int .i64 2, .int .i64 0, .string ⟨#[]⟩] 23)).heap[w.heap.size + 1]? = some (.cells #[.int .i64 y.f0, .int .i64 y.f1, .string y.f2] 23) from (by repeat (first | (with_reducible exact BY.out) | (with_reducible refine blk_alloc ?_ _) | (with_reducible refine blk_drewN ?_ _) | (with_reducible refine blk_drew ?_))))
    go_wp2_with (go_at_call 15; refine hold_ ?_)
    unfold Held
    clear c00 c01 c02 c10 c11 c12
    refine (oper_Binary.calls _ k 0 ⟨#[33, 61, 61]⟩ x.f0 x.f1 x.f2 y.f0 y.f1 y.f2 2 1 ⟨#[]⟩ 0 _ E_n.out).mono ?_
    rintro e w4 ⟨rfl, hb⟩
    have n0_ := Aside0.mk (below_step (by repeat (first | (with_reducible exact HB.out) | (with_reducible apply below_alloc) | (with_reducible apply pw_below_drewN) | (with_reducible apply below_drew1))) hb)
    have n1_ := Aside0.mk (blk_below (g := w.heap.size) (o := (.cells #[.int .i64 x.f0, .int .i64 x.f1, .string x.f2] 23)) (by repeat (first | (with_reducible exact BX.out) | (with_reducible refine blk_alloc ?_ _) | (with_reducible refine blk_drewN ?_ _) | (with_reducible refine blk_drew ?_))) hb)
    have n2_ := Aside0.mk (blk_below (g := (w.heap.size + 1)) (o := (.cells #[.int .i64 y.f0, .int .i64 y.f1, .string y.f2] 23)) (by repeat (first | (with_reducible exact BY.out) | (with_reducible refine blk_alloc ?_ _) | (with_reducible refine blk_drewN ?_ _) | (with_reducible refine blk_drew ?_))) hb)
    have n3_ := Aside0.mk (blk_below (g := w1.heap.size) (o := (.cells #[.int .i64 2, .int .i64 0, .string ⟨#[]⟩] 23)) (by repeat (first | (with_reducible exact R0.out) | (with_reducible refine blk_alloc ?_ _) | (with_reducible refine blk_drewN ?_ _) | (with_reducible refine blk_drew ?_))) hb)
    have n4_ := Aside0.mk (blk_below (g := w2.heap.size) (o := (.cells #[.int .i64 2, .int .i64 1, .string ⟨#[]⟩] 23)) (by repeat (first | (with_reducible exact R1.out) | (with_reducible refine blk_alloc ?_ _) | (with_reducible refine blk_drewN ?_ _) | (with_reducible refine blk_drew ?_))) hb)
    have n5_ := Aside0.mk (blk_below (g := w3.heap.size) (o := (.cells #[.int .i64 2, .int .i64 0, .string ⟨#[]⟩] 23)) (by repeat (first | (with_reducible exact R2.out) | (with_reducible refine blk_alloc ?_ _) | (with_reducible refine blk_drewN ?_ _) | (with_reducible refine blk_drew ?_))) hb)
    clear HB BX BY R0 R1 R2
    have HB := n0_
    have BX := n1_
    have BY := n2_
    have R0 := n3_
    have R1 := n4_
    have R2 := n5_
    clear n0_ n1_ n2_ n3_ n4_ n5_
    haveI := GW.of HB.out
    clear hb
    have R3 := Aside0.mk (heap_alloc_new w4 (.cells #[.int .i64 2, .int .i64 1, .string ⟨#[]⟩] 23))
    obtain ⟨⟨c00, c01, c02⟩, _, _, _⟩ := box3 (show (w4.alloc (.cells #[.int .i64 2, .int .i64 1, .string ⟨#[]⟩] 23)).heap[w.heap.size]? = some (.cells #[.int .i64 x.f0, .int .i64 x.f1, .string x.f2] 23) from (by repeat (first | (with_reducible exact BX.out) | (with_reducible refine blk_alloc ?_ _) | (with_reducible refine blk_drewN ?_ _) | (with_reducible refine blk_drew ?_))))
    obtain ⟨⟨c10, c11, c12⟩, _, _, _⟩ := box3 (show (w4.alloc (.cells #[.int .i64 2, .int .i64 1, .string ⟨#[]⟩] 23)).heap[w.heap.size + 1]? = some (.cells #[.int .i64 y.f0, .int .i64 y.f1, .string y.f2] 23) from (by repeat (first | (with_reducible exact BY.out) | (with_reducible refine blk_alloc ?_ _) | (with_reducible refine blk_drewN ?_ _) | (with_reducible refine blk_drew ?_))))
    go_wp2_with (go_at_call 15; refine hold_ ?_)
    unfold Held
    clear c00 c01 c02 c10 c11 c12
    refine (oper_Binary.calls _ k 0 ⟨#[60, 61]⟩ x.f0 x.f1 x.f2 y.f0 y.f1 y.f2 2 0 ⟨#[]⟩ 0 _ E_le.out).mono ?_
    rintro e w5 ⟨rfl, hb⟩
    have n0_ := Aside0.mk (below_step (by repeat (first | (with_reducible exact HB.out) | (with_reducible apply below_alloc) | (with_reducible apply pw_below_drewN) | (with_reducible apply below_drew1))) hb)
    have n1_ := Aside0.mk (blk_below (g := w.heap.size) (o := (.cells #[.int .i64 x.f0, .int .i64 x.f1, .string x.f2] 23)) (by repeat (first | (with_reducible exact BX.out) | (with_reducible refine blk_alloc ?_ _) | (with_reducible refine blk_drewN ?_ _) | (with_reducible refine blk_drew ?_))) hb)
    have n2_ := Aside0.mk (blk_below (g := (w.heap.size + 1)) (o := (.cells #[.int .i64 y.f0, .int .i64 y.f1, .string y.f2] 23)) (by repeat (first | (with_reducible exact BY.out) | (with_reducible refine blk_alloc ?_ _) | (with_reducible refine blk_drewN ?_ _) | (with_reducible refine blk_drew ?_))) hb)
    have n3_ := Aside0.mk (blk_below (g := w1.heap.size) (o := (.cells #[.int .i64 2, .int .i64 0, .string ⟨#[]⟩] 23)) (by repeat (first | (with_reducible exact R0.out) | (with_reducible refine blk_alloc ?_ _) | (with_reducible refine blk_drewN ?_ _) | (with_reducible refine blk_drew ?_))) hb)
    have n4_ := Aside0.mk (blk_below (g := w2.heap.size) (o := (.cells #[.int .i64 2, .int .i64 1, .string ⟨#[]⟩] 23)) (by repeat (first | (with_reducible exact R1.out) | (with_reducible refine blk_alloc ?_ _) | (with_reducible refine blk_drewN ?_ _) | (with_reducible refine blk_drew ?_))) hb)
    have n5_ := Aside0.mk (blk_below (g := w3.heap.size) (o := (.cells #[.int .i64 2, .int .i64 0, .string ⟨#[]⟩] 23)) (by repeat (first | (with_reducible exact R2.out) | (with_reducible refine blk_alloc ?_ _) | (with_reducible refine blk_drewN ?_ _) | (with_reducible refine blk_drew ?_))) hb)
    have n6_ := Aside0.mk (blk_below (g := w4.heap.size) (o := (.cells #[.int .i64 2, .int .i64 1, .string ⟨#[]⟩] 23)) (by repeat (first | (with_reducible exact R3.out) | (with_reducible refine blk_alloc ?_ _) | (with_reducible refine blk_drewN ?_ _) | (with_reducible refine blk_drew ?_))) hb)
    clear HB BX BY R0 R1 R2 R3
    have HB := n0_
    have BX := n1_
    have BY := n2_
    have R0 := n3_
    have R1 := n4_
    have R2 := n5_
    have R3 := n6_
    clear n0_ n1_ n2_ n3_ n4_ n5_ n6_
    haveI := GW.of HB.out
    clear hb
    have R4 := Aside0.mk (heap_alloc_new w5 (.cells #[.int .i64 2, .int .i64 0, .string ⟨#[]⟩] 23))
    obtain ⟨⟨c00, c01, c02⟩, _, _, _⟩ := box3 (show (w5.alloc (.cells #[.int .i64 2, .int .i64 0, .string ⟨#[]⟩] 23)).heap[w.heap.size]? = some (.cells #[.int .i64 x.f0, .int .i64 x.f1, .string x.f2] 23) from (by repeat (first | (with_reducible exact BX.out) | (with_reducible refine blk_alloc ?_ _) | (with_reducible refine blk_drewN ?_ _) | (with_reducible refine blk_drew ?_))))
    obtain ⟨⟨c10, c11, c12⟩, _, _, _⟩ := box3 (show (w5.alloc (.cells #[.int .i64 2, .int .i64 0, .string ⟨#[]⟩] 23)).heap[w.heap.size + 1]? = some (.cells #[.int .i64 y.f0, .int .i64 y.f1, .string y.f2] 23) from (by repeat (first | (with_reducible exact BY.out) | (with_reducible refine blk_alloc ?_ _) | (with_reducible refine blk_drewN ?_ _) | (with_reducible refine blk_drew ?_))))
    go_wp2_with (go_at_call 15; refine hold_ ?_)
    unfold Held
    clear c00 c01 c02 c10 c11 c12
    refine (oper_Binary.calls _ k 0 ⟨#[62, 61]⟩ x.f0 x.f1 x.f2 y.f0 y.f1 y.f2 2 1 ⟨#[]⟩ 0 _ E_ge.out).mono ?_
    rintro e w6 ⟨rfl, hb⟩
    have n0_ := Aside0.mk (below_step (by repeat (first | (with_reducible exact HB.out) | (with_reducible apply below_alloc) | (with_reducible apply pw_below_drewN) | (with_reducible apply below_drew1))) hb)
    have n1_ := Aside0.mk (blk_below (g := w.heap.size) (o := (.cells #[.int .i64 x.f0, .int .i64 x.f1, .string x.f2] 23)) (by repeat (first | (with_reducible exact BX.out) | (with_reducible refine blk_alloc ?_ _) | (with_reducible refine blk_drewN ?_ _) | (with_reducible refine blk_drew ?_))) hb)
    have n2_ := Aside0.mk (blk_below (g := (w.heap.size + 1)) (o := (.cells #[.int .i64 y.f0, .int .i64 y.f1, .string y.f2] 23)) (by repeat (first | (with_reducible exact BY.out) | (with_reducible refine blk_alloc ?_ _) | (with_reducible refine blk_drewN ?_ _) | (with_reducible refine blk_drew ?_))) hb)
    have n3_ := Aside0.mk (blk_below (g := w1.heap.size) (o := (.cells #[.int .i64 2, .int .i64 0, .string ⟨#[]⟩] 23)) (by repeat (first | (with_reducible exact R0.out) | (with_reducible refine blk_alloc ?_ _) | (with_reducible refine blk_drewN ?_ _) | (with_reducible refine blk_drew ?_))) hb)
    have n4_ := Aside0.mk (blk_below (g := w2.heap.size) (o := (.cells #[.int .i64 2, .int .i64 1, .string ⟨#[]⟩] 23)) (by repeat (first | (with_reducible exact R1.out) | (with_reducible refine blk_alloc ?_ _) | (with_reducible refine blk_drewN ?_ _) | (with_reducible refine blk_drew ?_))) hb)
    have n5_ := Aside0.mk (blk_below (g := w3.heap.size) (o := (.cells #[.int .i64 2, .int .i64 0, .string ⟨#[]⟩] 23)) (by repeat (first | (with_reducible exact R2.out) | (with_reducible refine blk_alloc ?_ _) | (with_reducible refine blk_drewN ?_ _) | (with_reducible refine blk_drew ?_))) hb)
    have n6_ := Aside0.mk (blk_below (g := w4.heap.size) (o := (.cells #[.int .i64 2, .int .i64 1, .string ⟨#[]⟩] 23)) (by repeat (first | (with_reducible exact R3.out) | (with_reducible refine blk_alloc ?_ _) | (with_reducible refine blk_drewN ?_ _) | (with_reducible refine blk_drew ?_))) hb)
    have n7_ := Aside0.mk (blk_below (g := w5.heap.size) (o := (.cells #[.int .i64 2, .int .i64 0, .string ⟨#[]⟩] 23)) (by repeat (first | (with_reducible exact R4.out) | (with_reducible refine blk_alloc ?_ _) | (with_reducible refine blk_drewN ?_ _) | (with_reducible refine blk_drew ?_))) hb)
    clear HB BX BY R0 R1 R2 R3 R4
    have HB := n0_
    have BX := n1_
    have BY := n2_
    have R0 := n3_
    have R1 := n4_
    have R2 := n5_
    have R3 := n6_
    have R4 := n7_
    clear n0_ n1_ n2_ n3_ n4_ n5_ n6_ n7_
    haveI := GW.of HB.out
    clear hb
    have R5 := Aside0.mk (heap_alloc_new w6 (.cells #[.int .i64 2, .int .i64 1, .string ⟨#[]⟩] 23))
    obtain ⟨⟨_, r0, _⟩, _, _, _⟩ := box3 (show (w6.alloc (.cells #[.int .i64 2, .int .i64 1, .string ⟨#[]⟩] 23)).heap[w1.heap.size]? = some (.cells #[.int .i64 2, .int .i64 0, .string ⟨#[]⟩] 23) from (by repeat (first | (with_reducible exact R0.out) | (with_reducible refine blk_alloc ?_ _) | (with_reducible refine blk_drewN ?_ _) | (with_reducible refine blk_drew ?_))))
    obtain ⟨⟨_, r1, _⟩, _, _, _⟩ := box3 (show (w6.alloc (.cells #[.int .i64 2, .int .i64 1, .string ⟨#[]⟩] 23)).heap[w2.heap.size]? = some (.cells #[.int .i64 2, .int .i64 1, .string ⟨#[]⟩] 23) from (by repeat (first | (with_reducible exact R1.out) | (with_reducible refine blk_alloc ?_ _) | (with_reducible refine blk_drewN ?_ _) | (with_reducible refine blk_drew ?_))))
    obtain ⟨⟨_, r2, _⟩, _, _, _⟩ := box3 (show (w6.alloc (.cells #[.int .i64 2, .int .i64 1, .string ⟨#[]⟩] 23)).heap[w3.heap.size]? = some (.cells #[.int .i64 2, .int .i64 0, .string ⟨#[]⟩] 23) from (by repeat (first | (with_reducible exact R2.out) | (with_reducible refine blk_alloc ?_ _) | (with_reducible refine blk_drewN ?_ _) | (with_reducible refine blk_drew ?_))))
    obtain ⟨⟨_, r3, _⟩, _, _, _⟩ := box3 (show (w6.alloc (.cells #[.int .i64 2, .int .i64 1, .string ⟨#[]⟩] 23)).heap[w4.heap.size]? = some (.cells #[.int .i64 2, .int .i64 1, .string ⟨#[]⟩] 23) from (by repeat (first | (with_reducible exact R3.out) | (with_reducible refine blk_alloc ?_ _) | (with_reducible refine blk_drewN ?_ _) | (with_reducible refine blk_drew ?_))))
    obtain ⟨⟨_, r4, _⟩, _, _, _⟩ := box3 (show (w6.alloc (.cells #[.int .i64 2, .int .i64 1, .string ⟨#[]⟩] 23)).heap[w5.heap.size]? = some (.cells #[.int .i64 2, .int .i64 0, .string ⟨#[]⟩] 23) from (by repeat (first | (with_reducible exact R4.out) | (with_reducible refine blk_alloc ?_ _) | (with_reducible refine blk_drewN ?_ _) | (with_reducible refine blk_drew ?_))))
    obtain ⟨⟨_, r5, _⟩, _, _, _⟩ := box3 (show (w6.alloc (.cells #[.int .i64 2, .int .i64 1, .string ⟨#[]⟩] 23)).heap[w6.heap.size]? = some (.cells #[.int .i64 2, .int .i64 1, .string ⟨#[]⟩] 23) from (by repeat (first | (with_reducible exact R5.out) | (with_reducible refine blk_alloc ?_ _) | (with_reducible refine blk_drewN ?_ _) | (with_reducible refine blk_drew ?_))))
    go_wp2
    go_ret
    exact ⟨rfl, (by repeat (first | (with_reducible exact HB.out) | (with_reducible apply below_alloc) | (with_reducible apply pw_below_drewN) | (with_reducible apply below_drew1)))⟩
  · have HB := Aside0.mk (below_alloc (below_alloc (Below.refl w.heap.size w) (.cells #[.int .i64 x.f0, .int .i64 x.f1, .string x.f2] 23)) (.cells #[.int .i64 y.f0, .int .i64 y.f1, .string y.f2] 23))
    have BX := Aside0.mk (new1 w (.cells #[.int .i64 x.f0, .int .i64 x.f1, .string x.f2] 23) (.cells #[.int .i64 y.f0, .int .i64 y.f1, .string y.f2] 23))
    have BY := Aside0.mk (new2 w (.cells #[.int .i64 x.f0, .int .i64 x.f1, .string x.f2] 23) (.cells #[.int .i64 y.f0, .int .i64 y.f1, .string y.f2] 23))
    go_enter Tryd.func25, Tryd.ntmps25
    go_wp2_with (go_at_call 22; refine hold_ ?_)
    unfold Held
    refine (new_calls2 _).mono ?_
    rintro e w0 ⟨rfl, hb⟩
    have n0_ := Aside0.mk (below_step (by repeat (first | (with_reducible exact HB.out) | (with_reducible apply below_alloc) | (with_reducible apply pw_below_drewN) | (with_reducible apply below_drew1))) hb)
    have n1_ := Aside0.mk (blk_below (g := w.heap.size) (o := (.cells #[.int .i64 x.f0, .int .i64 x.f1, .string x.f2] 23)) (by repeat (first | (with_reducible exact BX.out) | (with_reducible refine blk_alloc ?_ _) | (with_reducible refine blk_drewN ?_ _) | (with_reducible refine blk_drew ?_))) hb)
    have n2_ := Aside0.mk (blk_below (g := (w.heap.size + 1)) (o := (.cells #[.int .i64 y.f0, .int .i64 y.f1, .string y.f2] 23)) (by repeat (first | (with_reducible exact BY.out) | (with_reducible refine blk_alloc ?_ _) | (with_reducible refine blk_drewN ?_ _) | (with_reducible refine blk_drew ?_))) hb)
    clear HB BX BY
    have HB := n0_
    have BX := n1_
    have BY := n2_
    clear n0_ n1_ n2_
    haveI := GW.of HB.out
    clear hb
    obtain ⟨⟨c00, c01, c02⟩, _, _, _⟩ := box3 (show (w0).heap[w.heap.size]? = some (.cells #[.int .i64 x.f0, .int .i64 x.f1, .string x.f2] 23) from (by repeat (first | (with_reducible exact BX.out) | (with_reducible refine blk_alloc ?_ _) | (with_reducible refine blk_drewN ?_ _) | (with_reducible refine blk_drew ?_))))
    obtain ⟨⟨c10, c11, c12⟩, _, _, _⟩ := box3 (show (w0).heap[w.heap.size + 1]? = some (.cells #[.int .i64 y.f0, .int .i64 y.f1, .string y.f2] 23) from (by repeat (first | (with_reducible exact BY.out) | (with_reducible refine blk_alloc ?_ _) | (with_reducible refine blk_drewN ?_ _) | (with_reducible refine blk_drew ?_))))
    go_wp2_with (go_at_call 15; refine hold_ ?_)
    unfold Held
    clear c00 c01 c02 c10 c11 c12
    refine (oper_Binary.calls _ k 0 ⟨#[60]⟩ x.f0 x.f1 x.f2 y.f0 y.f1 y.f2 2 0 ⟨#[]⟩ 0 _ E_l.out).mono ?_
    rintro e w1 ⟨rfl, hb⟩
    have n0_ := Aside0.mk (below_step (by repeat (first | (with_reducible exact HB.out) | (with_reducible apply below_alloc) | (with_reducible apply pw_below_drewN) | (with_reducible apply below_drew1))) hb)
    have n1_ := Aside0.mk (blk_below (g := w.heap.size) (o := (.cells #[.int .i64 x.f0, .int .i64 x.f1, .string x.f2] 23)) (by repeat (first | (with_reducible exact BX.out) | (with_reducible refine blk_alloc ?_ _) | (with_reducible refine blk_drewN ?_ _) | (with_reducible refine blk_drew ?_))) hb)
    have n2_ := Aside0.mk (blk_below (g := (w.heap.size + 1)) (o := (.cells #[.int .i64 y.f0, .int .i64 y.f1, .string y.f2] 23)) (by repeat (first | (with_reducible exact BY.out) | (with_reducible refine blk_alloc ?_ _) | (with_reducible refine blk_drewN ?_ _) | (with_reducible refine blk_drew ?_))) hb)
    clear HB BX BY
    have HB := n0_
    have BX := n1_
    have BY := n2_
    clear n0_ n1_ n2_
    haveI := GW.of HB.out
    clear hb
    have R0 := Aside0.mk (heap_alloc_new w1 (.cells #[.int .i64 2, .int .i64 0, .string ⟨#[]⟩] 23))
    obtain ⟨⟨c00, c01, c02⟩, _, _, _⟩ := box3 (show (w1.alloc (.cells #[.int .i64 2, .int .i64 0, .string ⟨#[]⟩] 23)).heap[w.heap.size]? = some (.cells #[.int .i64 x.f0, .int .i64 x.f1, .string x.f2] 23) from (by repeat (first | (with_reducible exact BX.out) | (with_reducible refine blk_alloc ?_ _) | (with_reducible refine blk_drewN ?_ _) | (with_reducible refine blk_drew ?_))))
    obtain ⟨⟨c10, c11, c12⟩, _, _, _⟩ := box3 (show (w1.alloc (.cells #[.int .i64 2, .int .i64 0, .string ⟨#[]⟩] 23)).heap[w.heap.size + 1]? = some (.cells #[.int .i64 y.f0, .int .i64 y.f1, .string y.f2] 23) from (by repeat (first | (with_reducible exact BY.out) | (with_reducible refine blk_alloc ?_ _) | (with_reducible refine blk_drewN ?_ _) | (with_reducible refine blk_drew ?_))))
    go_wp2_with (go_at_call 15; refine hold_ ?_)
    unfold Held
    clear c00 c01 c02 c10 c11 c12
    refine (oper_Binary.calls _ k 0 ⟨#[62]⟩ x.f0 x.f1 x.f2 y.f0 y.f1 y.f2 2 0 ⟨#[]⟩ 0 _ E_g.out).mono ?_
    rintro e w2 ⟨rfl, hb⟩
    have n0_ := Aside0.mk (below_step (by repeat (first | (with_reducible exact HB.out) | (with_reducible apply below_alloc) | (with_reducible apply pw_below_drewN) | (with_reducible apply below_drew1))) hb)
    have n1_ := Aside0.mk (blk_below (g := w.heap.size) (o := (.cells #[.int .i64 x.f0, .int .i64 x.f1, .string x.f2] 23)) (by repeat (first | (with_reducible exact BX.out) | (with_reducible refine blk_alloc ?_ _) | (with_reducible refine blk_drewN ?_ _) | (with_reducible refine blk_drew ?_))) hb)
    have n2_ := Aside0.mk (blk_below (g := (w.heap.size + 1)) (o := (.cells #[.int .i64 y.f0, .int .i64 y.f1, .string y.f2] 23)) (by repeat (first | (with_reducible exact BY.out) | (with_reducible refine blk_alloc ?_ _) | (with_reducible refine blk_drewN ?_ _) | (with_reducible refine blk_drew ?_))) hb)
    have n3_ := Aside0.mk (blk_below (g := w1.heap.size) (o := (.cells #[.int .i64 2, .int .i64 0, .string ⟨#[]⟩] 23)) (by repeat (first | (with_reducible exact R0.out) | (with_reducible refine blk_alloc ?_ _) | (with_reducible refine blk_drewN ?_ _) | (with_reducible refine blk_drew ?_))) hb)
    clear HB BX BY R0
    have HB := n0_
    have BX := n1_
    have BY := n2_
    have R0 := n3_
    clear n0_ n1_ n2_ n3_
    haveI := GW.of HB.out
    clear hb
    have R1 := Aside0.mk (heap_alloc_new w2 (.cells #[.int .i64 2, .int .i64 0, .string ⟨#[]⟩] 23))
    obtain ⟨⟨c00, c01, c02⟩, _, _, _⟩ := box3 (show (w2.alloc (.cells #[.int .i64 2, .int .i64 0, .string ⟨#[]⟩] 23)).heap[w.heap.size]? = some (.cells #[.int .i64 x.f0, .int .i64 x.f1, .string x.f2] 23) from (by repeat (first | (with_reducible exact BX.out) | (with_reducible refine blk_alloc ?_ _) | (with_reducible refine blk_drewN ?_ _) | (with_reducible refine blk_drew ?_))))
    obtain ⟨⟨c10, c11, c12⟩, _, _, _⟩ := box3 (show (w2.alloc (.cells #[.int .i64 2, .int .i64 0, .string ⟨#[]⟩] 23)).heap[w.heap.size + 1]? = some (.cells #[.int .i64 y.f0, .int .i64 y.f1, .string y.f2] 23) from (by repeat (first | (with_reducible exact BY.out) | (with_reducible refine blk_alloc ?_ _) | (with_reducible refine blk_drewN ?_ _) | (with_reducible refine blk_drew ?_))))
    go_wp2_with (go_at_call 15; refine hold_ ?_)
    unfold Held
    clear c00 c01 c02 c10 c11 c12
    refine (oper_Binary.calls _ k 0 ⟨#[61, 61, 61]⟩ x.f0 x.f1 x.f2 y.f0 y.f1 y.f2 2 1 ⟨#[]⟩ 0 _ E_s.out).mono ?_
    rintro e w3 ⟨rfl, hb⟩
    have n0_ := Aside0.mk (below_step (by repeat (first | (with_reducible exact HB.out) | (with_reducible apply below_alloc) | (with_reducible apply pw_below_drewN) | (with_reducible apply below_drew1))) hb)
    have n1_ := Aside0.mk (blk_below (g := w.heap.size) (o := (.cells #[.int .i64 x.f0, .int .i64 x.f1, .string x.f2] 23)) (by repeat (first | (with_reducible exact BX.out) | (with_reducible refine blk_alloc ?_ _) | (with_reducible refine blk_drewN ?_ _) | (with_reducible refine blk_drew ?_))) hb)
    have n2_ := Aside0.mk (blk_below (g := (w.heap.size + 1)) (o := (.cells #[.int .i64 y.f0, .int .i64 y.f1, .string y.f2] 23)) (by repeat (first | (with_reducible exact BY.out) | (with_reducible refine blk_alloc ?_ _) | (with_reducible refine blk_drewN ?_ _) | (with_reducible refine blk_drew ?_))) hb)
    have n3_ := Aside0.mk (blk_below (g := w1.heap.size) (o := (.cells #[.int .i64 2, .int .i64 0, .string ⟨#[]⟩] 23)) (by repeat (first | (with_reducible exact R0.out) | (with_reducible refine blk_alloc ?_ _) | (with_reducible refine blk_drewN ?_ _) | (with_reducible refine blk_drew ?_))) hb)
    have n4_ := Aside0.mk (blk_below (g := w2.heap.size) (o := (.cells #[.int .i64 2, .int .i64 0, .string ⟨#[]⟩] 23)) (by repeat (first | (with_reducible exact R1.out) | (with_reducible refine blk_alloc ?_ _) | (with_reducible refine blk_drewN ?_ _) | (with_reducible refine blk_drew ?_))) hb)
    clear HB BX BY R0 R1
    have HB := n0_
    have BX := n1_
    have BY := n2_
    have R0 := n3_
    have R1 := n4_
    clear n0_ n1_ n2_ n3_ n4_
    haveI := GW.of HB.out
    clear hb
    have R2 := Aside0.mk (heap_alloc_new w3 (.cells #[.int .i64 2, .int .i64 1, .string ⟨#[]⟩] 23))
    obtain ⟨⟨c00, c01, c02⟩, _, _, _⟩ := box3 (show (w3.alloc (.cells #[.int .i64 2, .int .i64 1, .string ⟨#[]⟩] 23)).heap[w.heap.size]? = some (.cells #[.int .i64 x.f0, .int .i64 x.f1, .string x.f2] 23) from (by repeat (first | (with_reducible exact BX.out) | (with_reducible refine blk_alloc ?_ _) | (with_reducible refine blk_drewN ?_ _) | (with_reducible refine blk_drew ?_))))
    obtain ⟨⟨c10, c11, c12⟩, _, _, _⟩ := box3 (show (w3.alloc (.cells #[.int .i64 2, .int .i64 1, .string ⟨#[]⟩] 23)).heap[w.heap.size + 1]? = some (.cells #[.int .i64 y.f0, .int .i64 y.f1, .string y.f2] 23) from (by repeat (first | (with_reducible exact BY.out) | (with_reducible refine blk_alloc ?_ _) | (with_reducible refine blk_drewN ?_ _) | (with_reducible refine blk_drew ?_))))
    go_wp2_with (go_at_call 15; refine hold_ ?_)
    unfold Held
    clear c00 c01 c02 c10 c11 c12
    refine (oper_Binary.calls _ k 0 ⟨#[33, 61, 61]⟩ x.f0 x.f1 x.f2 y.f0 y.f1 y.f2 2 0 ⟨#[]⟩ 0 _ E_n.out).mono ?_
    rintro e w4 ⟨rfl, hb⟩
    have n0_ := Aside0.mk (below_step (by repeat (first | (with_reducible exact HB.out) | (with_reducible apply below_alloc) | (with_reducible apply pw_below_drewN) | (with_reducible apply below_drew1))) hb)
    have n1_ := Aside0.mk (blk_below (g := w.heap.size) (o := (.cells #[.int .i64 x.f0, .int .i64 x.f1, .string x.f2] 23)) (by repeat (first | (with_reducible exact BX.out) | (with_reducible refine blk_alloc ?_ _) | (with_reducible refine blk_drewN ?_ _) | (with_reducible refine blk_drew ?_))) hb)
    have n2_ := Aside0.mk (blk_below (g := (w.heap.size + 1)) (o := (.cells #[.int .i64 y.f0, .int .i64 y.f1, .string y.f2] 23)) (by repeat (first | (with_reducible exact BY.out) | (with_reducible refine blk_alloc ?_ _) | (with_reducible refine blk_drewN ?_ _) | (with_reducible refine blk_drew ?_))) hb)
    have n3_ := Aside0.mk (blk_below (g := w1.heap.size) (o := (.cells #[.int .i64 2, .int .i64 0, .string ⟨#[]⟩] 23)) (by repeat (first | (with_reducible exact R0.out) | (with_reducible refine blk_alloc ?_ _) | (with_reducible refine blk_drewN ?_ _) | (with_reducible refine blk_drew ?_))) hb)
    have n4_ := Aside0.mk (blk_below (g := w2.heap.size) (o := (.cells #[.int .i64 2, .int .i64 0, .string ⟨#[]⟩] 23)) (by repeat (first | (with_reducible exact R1.out) | (with_reducible refine blk_alloc ?_ _) | (with_reducible refine blk_drewN ?_ _) | (with_reducible refine blk_drew ?_))) hb)
    have n5_ := Aside0.mk (blk_below (g := w3.heap.size) (o := (.cells #[.int .i64 2, .int .i64 1, .string ⟨#[]⟩] 23)) (by repeat (first | (with_reducible exact R2.out) | (with_reducible refine blk_alloc ?_ _) | (with_reducible refine blk_drewN ?_ _) | (with_reducible refine blk_drew ?_))) hb)
    clear HB BX BY R0 R1 R2
    have HB := n0_
    have BX := n1_
    have BY := n2_
    have R0 := n3_
    have R1 := n4_
    have R2 := n5_
    clear n0_ n1_ n2_ n3_ n4_ n5_
    haveI := GW.of HB.out
    clear hb
    have R3 := Aside0.mk (heap_alloc_new w4 (.cells #[.int .i64 2, .int .i64 0, .string ⟨#[]⟩] 23))
    obtain ⟨⟨c00, c01, c02⟩, _, _, _⟩ := box3 (show (w4.alloc (.cells #[.int .i64 2, .int .i64 0, .string ⟨#[]⟩] 23)).heap[w.heap.size]? = some (.cells #[.int .i64 x.f0, .int .i64 x.f1, .string x.f2] 23) from (by repeat (first | (with_reducible exact BX.out) | (with_reducible refine blk_alloc ?_ _) | (with_reducible refine blk_drewN ?_ _) | (with_reducible refine blk_drew ?_))))
    obtain ⟨⟨c10, c11, c12⟩, _, _, _⟩ := box3 (show (w4.alloc (.cells #[.int .i64 2, .int .i64 0, .string ⟨#[]⟩] 23)).heap[w.heap.size + 1]? = some (.cells #[.int .i64 y.f0, .int .i64 y.f1, .string y.f2] 23) from (by repeat (first | (with_reducible exact BY.out) | (with_reducible refine blk_alloc ?_ _) | (with_reducible refine blk_drewN ?_ _) | (with_reducible refine blk_drew ?_))))
    go_wp2_with (go_at_call 15; refine hold_ ?_)
    unfold Held
    clear c00 c01 c02 c10 c11 c12
    refine (oper_Binary.calls _ k 0 ⟨#[60, 61]⟩ x.f0 x.f1 x.f2 y.f0 y.f1 y.f2 2 1 ⟨#[]⟩ 0 _ E_le.out).mono ?_
    rintro e w5 ⟨rfl, hb⟩
    have n0_ := Aside0.mk (below_step (by repeat (first | (with_reducible exact HB.out) | (with_reducible apply below_alloc) | (with_reducible apply pw_below_drewN) | (with_reducible apply below_drew1))) hb)
    have n1_ := Aside0.mk (blk_below (g := w.heap.size) (o := (.cells #[.int .i64 x.f0, .int .i64 x.f1, .string x.f2] 23)) (by repeat (first | (with_reducible exact BX.out) | (with_reducible refine blk_alloc ?_ _) | (with_reducible refine blk_drewN ?_ _) | (with_reducible refine blk_drew ?_))) hb)
    have n2_ := Aside0.mk (blk_below (g := (w.heap.size + 1)) (o := (.cells #[.int .i64 y.f0, .int .i64 y.f1, .string y.f2] 23)) (by repeat (first | (with_reducible exact BY.out) | (with_reducible refine blk_alloc ?_ _) | (with_reducible refine blk_drewN ?_ _) | (with_reducible refine blk_drew ?_))) hb)
    have n3_ := Aside0.mk (blk_below (g := w1.heap.size) (o := (.cells #[.int .i64 2, .int .i64 0, .string ⟨#[]⟩] 23)) (by repeat (first | (with_reducible exact R0.out) | (with_reducible refine blk_alloc ?_ _) | (with_reducible refine blk_drewN ?_ _) | (with_reducible refine blk_drew ?_))) hb)
    have n4_ := Aside0.mk (blk_below (g := w2.heap.size) (o := (.cells #[.int .i64 2, .int .i64 0, .string ⟨#[]⟩] 23)) (by repeat (first | (with_reducible exact R1.out) | (with_reducible refine blk_alloc ?_ _) | (with_reducible refine blk_drewN ?_ _) | (with_reducible refine blk_drew ?_))) hb)
    have n5_ := Aside0.mk (blk_below (g := w3.heap.size) (o := (.cells #[.int .i64 2, .int .i64 1, .string ⟨#[]⟩] 23)) (by repeat (first | (with_reducible exact R2.out) | (with_reducible refine blk_alloc ?_ _) | (with_reducible refine blk_drewN ?_ _) | (with_reducible refine blk_drew ?_))) hb)
    have n6_ := Aside0.mk (blk_below (g := w4.heap.size) (o := (.cells #[.int .i64 2, .int .i64 0, .string ⟨#[]⟩] 23)) (by repeat (first | (with_reducible exact R3.out) | (with_reducible refine blk_alloc ?_ _) | (with_reducible refine blk_drewN ?_ _) | (with_reducible refine blk_drew ?_))) hb)
    clear HB BX BY R0 R1 R2 R3
    have HB := n0_
    have BX := n1_
    have BY := n2_
    have R0 := n3_
    have R1 := n4_
    have R2 := n5_
    have R3 := n6_
    clear n0_ n1_ n2_ n3_ n4_ n5_ n6_
    haveI := GW.of HB.out
    clear hb
    have R4 := Aside0.mk (heap_alloc_new w5 (.cells #[.int .i64 2, .int .i64 1, .string ⟨#[]⟩] 23))
    obtain ⟨⟨c00, c01, c02⟩, _, _, _⟩ := box3 (show (w5.alloc (.cells #[.int .i64 2, .int .i64 1, .string ⟨#[]⟩] 23)).heap[w.heap.size]? = some (.cells #[.int .i64 x.f0, .int .i64 x.f1, .string x.f2] 23) from (by repeat (first | (with_reducible exact BX.out) | (with_reducible refine blk_alloc ?_ _) | (with_reducible refine blk_drewN ?_ _) | (with_reducible refine blk_drew ?_))))
    obtain ⟨⟨c10, c11, c12⟩, _, _, _⟩ := box3 (show (w5.alloc (.cells #[.int .i64 2, .int .i64 1, .string ⟨#[]⟩] 23)).heap[w.heap.size + 1]? = some (.cells #[.int .i64 y.f0, .int .i64 y.f1, .string y.f2] 23) from (by repeat (first | (with_reducible exact BY.out) | (with_reducible refine blk_alloc ?_ _) | (with_reducible refine blk_drewN ?_ _) | (with_reducible refine blk_drew ?_))))
    go_wp2_with (go_at_call 15; refine hold_ ?_)
    unfold Held
    clear c00 c01 c02 c10 c11 c12
    refine (oper_Binary.calls _ k 0 ⟨#[62, 61]⟩ x.f0 x.f1 x.f2 y.f0 y.f1 y.f2 2 1 ⟨#[]⟩ 0 _ E_ge.out).mono ?_
    rintro e w6 ⟨rfl, hb⟩
    have n0_ := Aside0.mk (below_step (by repeat (first | (with_reducible exact HB.out) | (with_reducible apply below_alloc) | (with_reducible apply pw_below_drewN) | (with_reducible apply below_drew1))) hb)
    have n1_ := Aside0.mk (blk_below (g := w.heap.size) (o := (.cells #[.int .i64 x.f0, .int .i64 x.f1, .string x.f2] 23)) (by repeat (first | (with_reducible exact BX.out) | (with_reducible refine blk_alloc ?_ _) | (with_reducible refine blk_drewN ?_ _) | (with_reducible refine blk_drew ?_))) hb)
    have n2_ := Aside0.mk (blk_below (g := (w.heap.size + 1)) (o := (.cells #[.int .i64 y.f0, .int .i64 y.f1, .string y.f2] 23)) (by repeat (first | (with_reducible exact BY.out) | (with_reducible refine blk_alloc ?_ _) | (with_reducible refine blk_drewN ?_ _) | (with_reducible refine blk_drew ?_))) hb)
    have n3_ := Aside0.mk (blk_below (g := w1.heap.size) (o := (.cells #[.int .i64 2, .int .i64 0, .string ⟨#[]⟩] 23)) (by repeat (first | (with_reducible exact R0.out) | (with_reducible refine blk_alloc ?_ _) | (with_reducible refine blk_drewN ?_ _) | (with_reducible refine blk_drew ?_))) hb)
    have n4_ := Aside0.mk (blk_below (g := w2.heap.size) (o := (.cells #[.int .i64 2, .int .i64 0, .string ⟨#[]⟩] 23)) (by repeat (first | (with_reducible exact R1.out) | (with_reducible refine blk_alloc ?_ _) | (with_reducible refine blk_drewN ?_ _) | (with_reducible refine blk_drew ?_))) hb)
    have n5_ := Aside0.mk (blk_below (g := w3.heap.size) (o := (.cells #[.int .i64 2, .int .i64 1, .string ⟨#[]⟩] 23)) (by repeat (first | (with_reducible exact R2.out) | (with_reducible refine blk_alloc ?_ _) | (with_reducible refine blk_drewN ?_ _) | (with_reducible refine blk_drew ?_))) hb)
    have n6_ := Aside0.mk (blk_below (g := w4.heap.size) (o := (.cells #[.int .i64 2, .int .i64 0, .string ⟨#[]⟩] 23)) (by repeat (first | (with_reducible exact R3.out) | (with_reducible refine blk_alloc ?_ _) | (with_reducible refine blk_drewN ?_ _) | (with_reducible refine blk_drew ?_))) hb)
    have n7_ := Aside0.mk (blk_below (g := w5.heap.size) (o := (.cells #[.int .i64 2, .int .i64 1, .string ⟨#[]⟩] 23)) (by repeat (first | (with_reducible exact R4.out) | (with_reducible refine blk_alloc ?_ _) | (with_reducible refine blk_drewN ?_ _) | (with_reducible refine blk_drew ?_))) hb)
    clear HB BX BY R0 R1 R2 R3 R4
    have HB := n0_
    have BX := n1_
    have BY := n2_
    have R0 := n3_
    have R1 := n4_
    have R2 := n5_
    have R3 := n6_
    have R4 := n7_
    clear n0_ n1_ n2_ n3_ n4_ n5_ n6_ n7_
    haveI := GW.of HB.out
    clear hb
    have R5 := Aside0.mk (heap_alloc_new w6 (.cells #[.int .i64 2, .int .i64 1, .string ⟨#[]⟩] 23))
    obtain ⟨⟨_, r0, _⟩, _, _, _⟩ := box3 (show (w6.alloc (.cells #[.int .i64 2, .int .i64 1, .string ⟨#[]⟩] 23)).heap[w1.heap.size]? = some (.cells #[.int .i64 2, .int .i64 0, .string ⟨#[]⟩] 23) from (by repeat (first | (with_reducible exact R0.out) | (with_reducible refine blk_alloc ?_ _) | (with_reducible refine blk_drewN ?_ _) | (with_reducible refine blk_drew ?_))))
    obtain ⟨⟨_, r1, _⟩, _, _, _⟩ := box3 (show (w6.alloc (.cells #[.int .i64 2, .int .i64 1, .string ⟨#[]⟩] 23)).heap[w2.heap.size]? = some (.cells #[.int .i64 2, .int .i64 0, .string ⟨#[]⟩] 23) from (by repeat (first | (with_reducible exact R1.out) | (with_reducible refine blk_alloc ?_ _) | (with_reducible refine blk_drewN ?_ _) | (with_reducible refine blk_drew ?_))))
    obtain ⟨⟨_, r2, _⟩, _, _, _⟩ := box3 (show (w6.alloc (.cells #[.int .i64 2, .int .i64 1, .string ⟨#[]⟩] 23)).heap[w3.heap.size]? = some (.cells #[.int .i64 2, .int .i64 1, .string ⟨#[]⟩] 23) from (by repeat (first | (with_reducible exact R2.out) | (with_reducible refine blk_alloc ?_ _) | (with_reducible refine blk_drewN ?_ _) | (with_reducible refine blk_drew ?_))))
    obtain ⟨⟨_, r3, _⟩, _, _, _⟩ := box3 (show (w6.alloc (.cells #[.int .i64 2, .int .i64 1, .string ⟨#[]⟩] 23)).heap[w4.heap.size]? = some (.cells #[.int .i64 2, .int .i64 0, .string ⟨#[]⟩] 23) from (by repeat (first | (with_reducible exact R3.out) | (with_reducible refine blk_alloc ?_ _) | (with_reducible refine blk_drewN ?_ _) | (with_reducible refine blk_drew ?_))))
    obtain ⟨⟨_, r4, _⟩, _, _, _⟩ := box3 (show (w6.alloc (.cells #[.int .i64 2, .int .i64 1, .string ⟨#[]⟩] 23)).heap[w5.heap.size]? = some (.cells #[.int .i64 2, .int .i64 1, .string ⟨#[]⟩] 23) from (by repeat (first | (with_reducible exact R4.out) | (with_reducible refine blk_alloc ?_ _) | (with_reducible refine blk_drewN ?_ _) | (with_reducible refine blk_drew ?_))))
    obtain ⟨⟨_, r5, _⟩, _, _, _⟩ := box3 (show (w6.alloc (.cells #[.int .i64 2, .int .i64 1, .string ⟨#[]⟩] 23)).heap[w6.heap.size]? = some (.cells #[.int .i64 2, .int .i64 1, .string ⟨#[]⟩] 23) from (by repeat (first | (with_reducible exact R5.out) | (with_reducible refine blk_alloc ?_ _) | (with_reducible refine blk_drewN ?_ _) | (with_reducible refine blk_drew ?_))))
    go_wp2
    go_ret
    exact ⟨rfl, (by repeat (first | (with_reducible exact HB.out) | (with_reducible apply below_alloc) | (with_reducible apply pw_below_drewN) | (with_reducible apply below_drew1)))⟩
end Go.Proofs.YtdheakalfleleaaDoor.Val
namespace Go.Proofs.YtdheakalfleleaaDoor.Val
open Go.RowKit Go.Proofs.YtdheakalfleleaaDoor.POper Go.Proofs.YtdheakalfleleaaDoorW.PrintWords Go.Proofs.YtdheakalfleleaaDoorW.PrintLast Go.Proofs.YtdheakalfleleaaDoorW.PrintMore
set_option linter.unusedVariables false
set_option linter.unusedSimpArgs false
theorem t60 : (⟨#[60]⟩ : ByteArray).toList = [60] := by rw [Lib.toList_data]
theorem t62 : (⟨#[62]⟩ : ByteArray).toList = [62] := by rw [Lib.toList_data]
theorem t616161 : (⟨#[61, 61, 61]⟩ : ByteArray).toList = [61, 61, 61] := by rw [Lib.toList_data]
theorem t336161 : (⟨#[33, 61, 61]⟩ : ByteArray).toList = [33, 61, 61] := by rw [Lib.toList_data]
theorem t6061 : (⟨#[60, 61]⟩ : ByteArray).toList = [60, 61] := by rw [Lib.toList_data]
theorem t6261 : (⟨#[62, 61]⟩ : ByteArray).toList = [62, 61] := by rw [Lib.toList_data]
def bi (b : Bool) : Int := if b = true then 1 else 0
theorem boolean_is (b : Bool) : oper_boolean.f b = some (2, bi b, ⟨#[]⟩) := by cases b <;> rfl
structure Six (x y : S23) (lt eq : Bool) : Prop where
  l : oper_Binary.f 4 0 ⟨#[60]⟩ x.f0 x.f1 x.f2 y.f0 y.f1 y.f2 = some (2, bi lt, ⟨#[]⟩, 0)
  g : oper_Binary.f 4 0 ⟨#[62]⟩ x.f0 x.f1 x.f2 y.f0 y.f1 y.f2 = some (2, bi (!lt && !eq), ⟨#[]⟩, 0)
  s : oper_Binary.f 4 0 ⟨#[61, 61, 61]⟩ x.f0 x.f1 x.f2 y.f0 y.f1 y.f2 = some (2, bi eq, ⟨#[]⟩, 0)
  n : oper_Binary.f 4 0 ⟨#[33, 61, 61]⟩ x.f0 x.f1 x.f2 y.f0 y.f1 y.f2 = some (2, bi (!eq), ⟨#[]⟩, 0)
  le : oper_Binary.f 4 0 ⟨#[60, 61]⟩ x.f0 x.f1 x.f2 y.f0 y.f1 y.f2 = some (2, bi (lt || eq), ⟨#[]⟩, 0)
  ge : oper_Binary.f 4 0 ⟨#[62, 61]⟩ x.f0 x.f1 x.f2 y.f0 y.f1 y.f2 = some (2, bi (!lt), ⟨#[]⟩, 0)
theorem six_num (a b : Int) : Six ⟨3, a, ⟨#[]⟩⟩ ⟨3, b, ⟨#[]⟩⟩ (decide (a < b)) (a == b) := by
  constructor
  all_goals
    simp only [oper_Binary.f, oper_Binary.j0, oper_arithmetic.f, oper_compared.f, value_Same.f, value_Same.j0, boolean_is, t60, t62, t616161, t336161, t6061, t6261]
    cases decide (a < b) <;> cases (a == b) <;> simp [bi]
theorem six_text (s t : ByteArray) : Six ⟨4, 0, s⟩ ⟨4, 0, t⟩ (Op.bytesLess s.toList t.toList) (s.toList == t.toList) := by
  constructor
  all_goals
    simp only [oper_Binary.f, oper_Binary.j0, oper_Binary.j1, oper_compared.f, value_Same.f, value_Same.j0, boolean_is, t60, t62, t616161, t336161, t6061, t6261]
    cases Op.bytesLess s.toList t.toList <;> cases (s.toList == t.toList) <;> simp [bi]
theorem ordered_six (w : World) [GW w] (x y : S23) (lt eq : Bool) (h : Six x y lt eq) (hn : ¬ (lt = true ∧ eq = true)) :
    Calls Tryd.prog 25 #[.agg #[.int .i64 x.f0, .int .i64 x.f1, .string x.f2], .agg #[.int .i64 y.f0, .int .i64 y.f1, .string y.f2]] w fun e w' => e = .returned (.bool true) ∧ Below w.heap.size w w' := by
  refine ordered_calls w x y 4 _ _ _ _ _ _ ?_ h.l h.g h.s h.n h.le h.ge
  cases lt <;> cases eq <;> simp_all [bi]
theorem less_irr : ∀ l : List UInt8, Op.bytesLess l l = false
  | [] => rfl
  | a :: r => by
    have := less_irr r
    simp [Op.bytesLess, this]
theorem num_any (n : Int) (w : World) : Calls Tryd.prog 23 #[.int .i64 n] w fun e w' => e = .returned (.agg #[.int .i64 3, .int .i64 n, .string ⟨#[]⟩]) ∧ Below w.heap.size w w' := gussetlaw24_num.calls n 3 n ⟨#[]⟩ w rfl
theorem text_any (s : ByteArray) (w : World) : Calls Tryd.prog 26 #[.string s] w fun e w' => e = .returned (.agg #[.int .i64 4, .int .i64 0, .string s]) ∧ Below w.heap.size w w' := gussetlaw24_text.calls s 4 0 s w rfl
theorem ord_num (w : World) [GW w] (a b : Int) : Calls Tryd.prog 25 #[.agg #[.int .i64 3, .int .i64 a, .string ⟨#[]⟩], .agg #[.int .i64 3, .int .i64 b, .string ⟨#[]⟩]] w fun e w' => e = .returned (.bool true) ∧ Below w.heap.size w w' :=
  ordered_six w ⟨3, a, ⟨#[]⟩⟩ ⟨3, b, ⟨#[]⟩⟩ _ _ (six_num a b) (fun h => by have h1 := of_decide_eq_true h.1; have h2 := beq_iff_eq.1 h.2; omega)
theorem ord_text (w : World) [GW w] (s t : ByteArray) : Calls Tryd.prog 25 #[.agg #[.int .i64 4, .int .i64 0, .string s], .agg #[.int .i64 4, .int .i64 0, .string t]] w fun e w' => e = .returned (.bool true) ∧ Below w.heap.size w w' :=
  ordered_six w ⟨4, 0, s⟩ ⟨4, 0, t⟩ _ _ (six_text s t) (fun h => by have h1 := h.1; rw [beq_iff_eq.1 h.2, less_irr] at h1; cases h1)
attribute [local go_sem] max2_int min2_int max_two min_two
set_option maxHeartbeats 4000000 in
set_option maxRecDepth 100000 in
theorem operOrders_calls (w : World) [GW w] (a b : Int) (s t : ByteArray) :
    Calls Tryd.prog 8 #[.agg #[.int .i64 a, .int .i64 b], .string s, .string t] w fun e w' => e = .returned (.bool true) ∧ Below w.heap.size w w' := by
  have hbox := heap_alloc_new w (.cells #[.int .i64 a, .int .i64 b] 50)
  have c0 : (w.alloc (.cells #[.int .i64 a, .int .i64 b] 50)).cell? ⟨w.heap.size, 0, none⟩ = some (.int .i64 a) := (blk_cell hbox 0).trans rfl
  have c1 : (w.alloc (.cells #[.int .i64 a, .int .i64 b] 50)).cell? ⟨w.heap.size, 1, none⟩ = some (.int .i64 b) := (blk_cell hbox 1).trans rfl
  have HB := Aside0.mk (below_alloc (Below.refl w.heap.size w) (.cells #[.int .i64 a, .int .i64 b] 50))
  clear hbox
  go_enter Tryd.func8, Tryd.ntmps8
  go_wp2
  go_quiet (fail)
  clear c0 c1
  go_wp2_with (go_at_call 23; refine hold_ ?_)
  all_goals
    unfold Held
    refine (num_any _ _).mono ?_
    rintro e w1 ⟨rfl, hb⟩
    have nB := Aside0.mk (below_step (by repeat (first | (with_reducible exact HB.out) | (with_reducible apply below_alloc) | (with_reducible apply pw_below_drewN) | (with_reducible apply below_drew1))) hb)
    clear HB hb
    have HB := nB
    clear nB
    haveI := GW.of HB.out
    go_wp2_with (go_at_call 23; refine hold_ ?_)
    unfold Held
    refine (num_any _ _).mono ?_
    rintro e w2 ⟨rfl, hb⟩
    have nB := Aside0.mk (below_step (by repeat (first | (with_reducible exact HB.out) | (with_reducible apply below_alloc) | (with_reducible apply pw_below_drewN) | (with_reducible apply below_drew1))) hb)
    clear HB hb
    have HB := nB
    clear nB
    haveI := GW.of HB.out
    go_wp2_with (go_at_call 25; refine hold_ ?_)
    unfold Held
    refine (ord_num _ _ _).mono ?_
    rintro e w3 ⟨rfl, hb⟩
    have nB := Aside0.mk (below_step (by repeat (first | (with_reducible exact HB.out) | (with_reducible apply below_alloc) | (with_reducible apply pw_below_drewN) | (with_reducible apply below_drew1))) hb)
    clear HB hb
    have HB := nB
    clear nB
    haveI := GW.of HB.out
    go_wp2_with (go_at_call 26; refine hold_ ?_)
    unfold Held
    refine (text_any _ _).mono ?_
    rintro e w4 ⟨rfl, hb⟩
    have nB := Aside0.mk (below_step (by repeat (first | (with_reducible exact HB.out) | (with_reducible apply below_alloc) | (with_reducible apply pw_below_drewN) | (with_reducible apply below_drew1))) hb)
    clear HB hb
    have HB := nB
    clear nB
    haveI := GW.of HB.out
    go_wp2_with (go_at_call 26; refine hold_ ?_)
    unfold Held
    refine (text_any _ _).mono ?_
    rintro e w5 ⟨rfl, hb⟩
    have nB := Aside0.mk (below_step (by repeat (first | (with_reducible exact HB.out) | (with_reducible apply below_alloc) | (with_reducible apply pw_below_drewN) | (with_reducible apply below_drew1))) hb)
    clear HB hb
    have HB := nB
    clear nB
    haveI := GW.of HB.out
    go_wp2_with (go_at_call 25; refine hold_ ?_)
    unfold Held
    refine (ord_text _ _ _).mono ?_
    rintro e w6 ⟨rfl, hb⟩
    have nB := Aside0.mk (below_step (by repeat (first | (with_reducible exact HB.out) | (with_reducible apply below_alloc) | (with_reducible apply pw_below_drewN) | (with_reducible apply below_drew1))) hb)
    clear HB hb
    have HB := nB
    clear nB
    haveI := GW.of HB.out
    go_wp2_with (go_at_call 13; refine hold_ ?_)
    unfold Held
    refine (sure_calls _).mono ?_
    rintro e w7 ⟨rfl, hb⟩
    have nB := Aside0.mk (below_step (by repeat (first | (with_reducible exact HB.out) | (with_reducible apply below_alloc) | (with_reducible apply pw_below_drewN) | (with_reducible apply below_drew1))) hb)
    clear HB hb
    have HB := nB
    clear nB
    haveI := GW.of HB.out
    go_wp2
    go_ret
    exact ⟨rfl, HB.out⟩
end Go.Proofs.YtdheakalfleleaaDoor.Val
