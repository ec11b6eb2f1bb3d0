/- POperx18, as this claim needs it. -/
import Derived.Test.YtdheakalfleleaaDoorPOperx0q
import Derived.Test.YtdheakalfleleaaDoorPOperx2q
import Derived.Test.YtdheakalfleleaaDoorPOperx3q
import Derived.Test.YtdheakalfleleaaDoorPOperx15q
import Derived.Test.YtdheakalfleleaaDoorPOperx16q
import Derived.Test.YtdheakalfleleaaDoorPOperx17q
namespace Go.Proofs.YtdheakalfleleaaDoor.POper
open Go.RowKit Go.Proofs.YtdheakalfleleaaDoorW.PrintWords Go.Proofs.YtdheakalfleleaaDoorW.PrintLast Go.Proofs.YtdheakalfleleaaDoorW.PrintMore
attribute [local go_sem] max2_int min2_int max_two min_two max_three min_three max_four min_four   -- for this text's walks alone
set_option linter.unusedVariables false
set_option linter.unusedSimpArgs false
theorem bl_leq : (a b : List UInt8) → (Op.bytesLess a b || a == b) = !(Op.bytesLess b a)
  | [], [] => by simp [Op.bytesLess]
  | [], y :: b => by simp [Op.bytesLess]
  | x :: a, [] => by simp [Op.bytesLess]
  | x :: a, y :: b => by
    have ih := bl_leq a b
    simp only [Op.bytesLess]
    by_cases h : x < y
    · have h2 : ¬ y < x := fun k => by simp only [UInt8.lt_iff_toNat_lt] at h k; omega
      have h3 : ¬ y = x := fun k => by subst k; simp only [UInt8.lt_iff_toNat_lt] at h; omega
      simp [h, h2, h3]
    · by_cases h2 : y < x
      · have h3 : ¬ x = y := fun k => by subst k; simp only [UInt8.lt_iff_toNat_lt] at h2; omega
        simp [h, h2, h3]
      · have h3 : x = y := by
          apply UInt8.toNat_inj.mp
          simp only [UInt8.lt_iff_toNat_lt] at h h2; omega
        subst h3
        simpa [h] using ih
theorem bs_leq (t : TypeId) (a b : ByteArray) : binOp .leq t (.string a) (.string b) = pure (.bool !(Op.bytesLess b.toList a.toList)) := by
  rw [← bl_leq]; simp [binOp, Op.stringOp]
theorem bs_gtr (t : TypeId) (a b : ByteArray) : binOp .gtr t (.string a) (.string b) = pure (.bool (Op.bytesLess b.toList a.toList)) := by
  rw [show Op.bytesLess b.toList a.toList = !!(Op.bytesLess b.toList a.toList) from (Bool.not_not _).symm, ← bl_leq]; simp [binOp, Op.stringOp]
theorem bs_geq (t : TypeId) (a b : ByteArray) : binOp .geq t (.string a) (.string b) = pure (.bool !(Op.bytesLess a.toList b.toList)) := by
  simp [binOp, Op.stringOp]
attribute [local go_sem high] bs_leq bs_gtr bs_geq
mutual
def gussetref24_Binary.j0 : Nat → ByteArray → Bool → Int → Int → ByteArray → Int → Int → ByteArray → Option (Int × Int × ByteArray × Int)
  | 0, _, _, _, _, _, _, _, _ => none
  | k + 1, x1, x29, x516000, x516001, x516002, x517000, x517001, x517002 => if x29 = true then ((gussetref24_numbers.f k x1 x516001 x517001).bind fun bt528 => (some (bt528.1, bt528.2.1, bt528.2.2.1, bt528.2.2.2))) else (if x1.toList = ([43] : List UInt8) then (if x516000 = 4 then ((gussetref24_plain.f x517000 x517001 x517002).bind fun t532 => (if t532 = true then (gussetref24_Binary.j1 k x1 true x516000 x516001 x516002 x517000 x517001 x517002) else (if x517000 = 4 then ((gussetref24_plain.f x516000 x516001 x516002).bind fun t533 => (gussetref24_Binary.j1 k x1 t533 x516000 x516001 x516002 x517000 x517001 x517002)) else (gussetref24_Binary.j1 k x1 false x516000 x516001 x516002 x517000 x517001 x517002)))) else (if x517000 = 4 then ((gussetref24_plain.f x516000 x516001 x516002).bind fun t534 => (gussetref24_Binary.j1 k x1 t534 x516000 x516001 x516002 x517000 x517001 x517002)) else (gussetref24_Binary.j1 k x1 false x516000 x516001 x516002 x517000 x517001 x517002))) else (gussetref24_Binary.j1 k x1 false x516000 x516001 x516002 x517000 x517001 x517002))
def gussetref24_Binary.j1 : Nat → ByteArray → Bool → Int → Int → ByteArray → Int → Int → ByteArray → Option (Int × Int × ByteArray × Int)
  | 0, _, _, _, _, _, _, _, _ => none
  | k + 1, x1, x46, x516000, x516001, x516002, x517000, x517001, x517002 => if x46 = true then ((gussetref23_Text.f k x516000 x516001 x516002).bind fun t535 => ((gussetref23_Text.f k x517000 x517001 x517002).bind fun t536 => (if t535.size + t536.size ≤ 9223372036854775807 then ((gussetref24_text.f (t535 ++ t536)).bind fun bt537 => (some (bt537.1, bt537.2.1, bt537.2.2.1, bt537.2.2.2))) else (none)))) else (if x516000 = 4 then (gussetref24_Binary.j2 k x1 (x517000 == 4) x516000 x516001 x516002 x517000 x517001 x517002) else (gussetref24_Binary.j2 k x1 false x516000 x516001 x516002 x517000 x517001 x517002))
def gussetref24_Binary.j2 : Nat → ByteArray → Bool → Int → Int → ByteArray → Int → Int → ByteArray → Option (Int × Int × ByteArray × Int)
  | 0, _, _, _, _, _, _, _, _ => none
  | k + 1, x1, x75, x516000, x516001, x516002, x517000, x517001, x517002 => if x75 = true then (if x1.toList = ([60] : List UInt8) then ((gussetref24_truth.f (Op.bytesLess x516002.toList x517002.toList)).bind fun bt541 => (some (bt541.1, bt541.2.1, bt541.2.2.1, bt541.2.2.2))) else (if x1.toList = ([60, 61] : List UInt8) then ((gussetref24_truth.f (!(Op.bytesLess x517002.toList x516002.toList))).bind fun bt545 => (some (bt545.1, bt545.2.1, bt545.2.2.1, bt545.2.2.2))) else (if x1.toList = ([62] : List UInt8) then ((gussetref24_truth.f (Op.bytesLess x517002.toList x516002.toList)).bind fun bt549 => (some (bt549.1, bt549.2.1, bt549.2.2.1, bt549.2.2.2))) else (if x1.toList = ([62, 61] : List UInt8) then ((gussetref24_truth.f (!(Op.bytesLess x516002.toList x517002.toList))).bind fun bt553 => (some (bt553.1, bt553.2.1, bt553.2.2.1, bt553.2.2.2))) else ((gussetref24_wrong.f).bind fun bt557 => (some (bt557.1, bt557.2.1, bt557.2.2.1, bt557.2.2.2))))))) else ((gussetref24_wrong.f).bind fun bt561 => (some (bt561.1, bt561.2.1, bt561.2.2.1, bt561.2.2.2)))
end
def gussetref24_Binary.f (k : Nat) (a0 : Int) (a1 : ByteArray) (a2_0 : Int) (a2_1 : Int) (a2_2 : ByteArray) (a3_0 : Int) (a3_1 : Int) (a3_2 : ByteArray) : Option (Int × Int × ByteArray × Int) := if a1.toList = ([61, 61, 61] : List UInt8) then ((gussetref23_Same.f k a2_0 a2_1 a2_2 a3_0 a3_1 a3_2).bind fun t518 => ((gussetref24_truth.f t518).bind fun bt519 => (some (bt519.1, bt519.2.1, bt519.2.2.1, bt519.2.2.2)))) else (if a1.toList = ([33, 61, 61] : List UInt8) then ((gussetref23_Same.f k a2_0 a2_1 a2_2 a3_0 a3_1 a3_2).bind fun t523 => ((gussetref24_truth.f (!t523)).bind fun bt524 => (some (bt524.1, bt524.2.1, bt524.2.2.1, bt524.2.2.2)))) else (if a2_0 = 3 then (gussetref24_Binary.j0 k a1 (a3_0 == 3) a2_0 a2_1 a2_2 a3_0 a3_1 a3_2) else (gussetref24_Binary.j0 k a1 false a2_0 a2_1 a2_2 a3_0 a3_1 a3_2)))
def gussetref24_Binary.T8 : Bool × List (List Nat × List Nat) := (true, [([], []), ([0], [0]), ([], []), ([2, 1], [2]), ([1, 3], [1, 3]), ([4, 3], [4]), ([5], [5]), ([5], [5]), ([6, 5, 0, 1, 2, 3, 4, 5, 6, 7], [6]), ([7, 8, 0, 1, 2, 3, 4, 5, 6, 7, 8], [7])])
def gussetref24_Binary.B8 : List Nat := [0, 1, 0, 7, 15, 31, 63, 63, 255, 511]
theorem gussetref24_Binary.tab8 : rtab .any (opsOf Tryd.f16 8) = gussetref24_Binary.T8 := by kernel_rfl
theorem gussetref24_Binary.bits8 : waitsOk gussetref24_Binary.T8.2 gussetref24_Binary.B8 = true := by kernel_rfl
set_option maxHeartbeats 8000000 in
set_option maxRecDepth 100000 in
theorem gussetref24_Binary.calls (q : Option Addr) (k : Nat) (a0 : Int) (a1 : ByteArray) (a2_0 : Int) (a2_1 : Int) (a2_2 : ByteArray) (a3_0 : Int) (a3_1 : Int) (a3_2 : ByteArray) (r1 : Int) (r2 : Int) (r3 : ByteArray) (r4 : Int) (w : World) (h : gussetref24_Binary.f k a0 a1 a2_0 a2_1 a2_2 a3_0 a3_1 a3_2 = some (r1, r2, r3, r4)) :
    Calls Tryd.prog 16 #[.pointer q, .string a1, .agg #[.int .i64 a2_0, .int .i64 a2_1, .string a2_2], .agg #[.int .i64 a3_0, .int .i64 a3_1, .string a3_2]] w fun e w' => e = .returned (.tuple #[.agg #[.int .i64 r1, .int .i64 r2, .string r3], .int .i64 r4]) ∧ Below w.heap.size w w' := by
  have hu23 := Tryd.underlying23
  have HB := Aside0.mk (Below.refl w.heap.size w)
  have H : (if a1.toList = ([61, 61, 61] : List UInt8) then ((gussetref23_Same.f k a2_0 a2_1 a2_2 a3_0 a3_1 a3_2).bind fun t518 => ((gussetref24_truth.f t518).bind fun bt519 => (some (bt519.1, bt519.2.1, bt519.2.2.1, bt519.2.2.2)))) else (if a1.toList = ([33, 61, 61] : List UInt8) then ((gussetref23_Same.f k a2_0 a2_1 a2_2 a3_0 a3_1 a3_2).bind fun t523 => ((gussetref24_truth.f (!t523)).bind fun bt524 => (some (bt524.1, bt524.2.1, bt524.2.2.1, bt524.2.2.2)))) else (if a2_0 = 3 then (gussetref24_Binary.j0 k a1 (a3_0 == 3) a2_0 a2_1 a2_2 a3_0 a3_1 a3_2) else (gussetref24_Binary.j0 k a1 false a2_0 a2_1 a2_2 a3_0 a3_1 a3_2)))) = some (r1, r2, r3, r4) := h
  clear h
  by_cases c5 : a1.toList = ([61, 61, 61] : List UInt8)
  · rw [if_pos c5] at H
    have c5b0 : (a1.toList == ([61, 61, 61] : List UInt8)) = true := beq_iff_eq.mpr c5
    have c5b1 : (a1.toList != ([61, 61, 61] : List UInt8)) = false := bne_eq_false_iff_eq.mpr c5
    clear c5
    replace H := Option.bind_eq_some_iff.mp H
    obtain ⟨t518, A60, H⟩ := H
    replace H : ((gussetref24_truth.f t518).bind fun bt519 => (some (bt519.1, bt519.2.1, bt519.2.2.1, bt519.2.2.2))) = some (r1, r2, r3, r4) := H
    have A6 := Aside0.mk A60
    clear A60
    replace H := Option.bind_eq_some_iff.mp H
    obtain ⟨⟨t519, t520, t521, t522⟩, A70, H⟩ := H
    replace H : (some (t519, t520, t521, t522)) = some (r1, r2, r3, r4) := H
    have A7 := Aside0.mk A70
    clear A70
    simp only [Option.some.injEq, Prod.mk.injEq] at H
    obtain ⟨rfl, rfl, rfl, rfl⟩ := H
    go_enter Tryd.func16, Tryd.ntmps16
    go_wp2_with (first | ((with_reducible refine gate_dst (N := 6) rfl ?_); refine box_event ?hg (N := 6) ?hd (cs := #[.int .i64 a2_0, .int .i64 a2_1, .string a2_2]) (t := 23) ?hr ?_; (case hd => rfl); (case hg => rfl); (case hr => first | (go_simp; done) | (go_simp; rfl)); intro gb515 hg w8 hbox hb; have n0_ := Aside0.mk (below_step (by repeat (first | (with_reducible first | exact HB.out | apply below_alloc | apply pw_below_drewN | apply below_drew1) | exact HB.out)) hb); have n1_ := Aside0.mk (hbox); have n2_ := Aside0.mk ((by rw [hg]; exact (below_size (by repeat (first | (with_reducible first | exact HB.out | apply below_alloc | apply pw_below_drewN | apply below_drew1) | exact HB.out))) : w.heap.size ≤ gb515)); have n3_ := Aside0.mk ((by rw [hg]; exact (below_size (by repeat (first | (with_reducible first | exact HB.out | apply below_alloc | apply pw_below_drewN | apply below_drew1) | exact HB.out))) : w.heap.size ≤ gb515)); clear HB; have HB := n0_; have BK515 := n1_; have GW515 := n2_; have GE515 := n3_; clear n0_ n1_ n2_ n3_; clear hb hbox hg) | ((with_reducible refine gate_dst (N := 7) rfl ?_); refine box_event ?hg (N := 7) ?hd (cs := #[.int .i64 a3_0, .int .i64 a3_1, .string a3_2]) (t := 23) ?hr ?_; (case hd => rfl); (case hg => rfl); (case hr => first | (go_simp; done) | (go_simp; rfl)); intro gb516 hg w9 hbox hb; have n0_ := Aside0.mk (blk_below (g := gb515) (o := .cells #[.int .i64 a2_0, .int .i64 a2_1, .string a2_2] 23 (0, 0)) (by (with_reducible repeat (first | refine blk_drewN ?_ _ | refine blk_drew ?_ | refine blk_alloc ?_ _)); exact BK515.out) hb); have n1_ := Aside0.mk (below_step (by repeat (first | (with_reducible first | exact HB.out | apply below_alloc | apply pw_below_drewN | apply below_drew1 | refine below_set ?_ GE515.out) | exact HB.out)) hb); have n2_ := Aside0.mk (hbox); have n3_ := Aside0.mk ((by rw [hg]; exact (below_size (by repeat (first | (with_reducible first | exact HB.out | apply below_alloc | apply pw_below_drewN | apply below_drew1 | refine below_set ?_ GE515.out) | exact HB.out))) : w.heap.size ≤ gb516)); have n4_ := Aside0.mk ((by rw [hg]; exact (below_size (by repeat (first | (with_reducible first | exact HB.out | apply below_alloc | apply pw_below_drewN | apply below_drew1 | refine below_set ?_ GE515.out) | exact HB.out))) : w.heap.size ≤ gb516)); have n5_ := Aside0.mk ((by rw [hg]; exact Nat.ne_of_lt (blk_lt (g := gb515) (o := .cells #[.int .i64 a2_0, .int .i64 a2_1, .string a2_2] 23 (0, 0)) (by (with_reducible repeat (first | refine blk_drewN ?_ _ | refine blk_drew ?_ | refine blk_alloc ?_ _)); exact BK515.out)) : gb515 ≠ gb516)); have n6_ := Aside0.mk ((by rw [hg]; exact Nat.ne_of_gt (blk_lt (g := gb515) (o := .cells #[.int .i64 a2_0, .int .i64 a2_1, .string a2_2] 23 (0, 0)) (by (with_reducible repeat (first | refine blk_drewN ?_ _ | refine blk_drew ?_ | refine blk_alloc ?_ _)); exact BK515.out)) : gb516 ≠ gb515)); clear BK515; clear HB; have BK515 := n0_; have HB := n1_; have BK516 := n2_; have GW516 := n3_; have GE516 := n4_; have NB515_516 := n5_; have NB516_515 := n6_; clear n0_ n1_ n2_ n3_ n4_ n5_ n6_; clear hb hbox hg) | ((with_reducible refine gate_dst (N := 8) rfl ?_); refine box_event ?hg (N := 8) ?hd (cs := #[.int .i64 0, .int .i64 0, .string (⟨#[]⟩ : ByteArray)]) (t := 23) ?hr ?_; (case hd => rfl); (case hg => rfl); (case hr => first | (go_simp; done) | (go_simp; rfl)); intro gb517 hg w10 hbox hb; have n0_ := Aside0.mk (blk_below (g := gb515) (o := .cells #[.int .i64 a2_0, .int .i64 a2_1, .string a2_2] 23 (0, 0)) (by (with_reducible repeat (first | refine blk_drewN ?_ _ | refine blk_drew ?_ | refine blk_alloc ?_ _)); exact BK515.out) hb); have n1_ := Aside0.mk (blk_below (g := gb516) (o := .cells #[.int .i64 a3_0, .int .i64 a3_1, .string a3_2] 23 (0, 0)) (by (with_reducible repeat (first | refine blk_drewN ?_ _ | refine blk_drew ?_ | refine blk_alloc ?_ _)); exact BK516.out) hb); have n2_ := Aside0.mk (below_step (by repeat (first | (with_reducible first | exact HB.out | apply below_alloc | apply pw_below_drewN | apply below_drew1 | refine below_set ?_ GE515.out | refine below_set ?_ GE516.out) | exact HB.out)) hb); have n3_ := Aside0.mk (hbox); have n4_ := Aside0.mk ((by rw [hg]; exact (below_size (by repeat (first | (with_reducible first | exact HB.out | apply below_alloc | apply pw_below_drewN | apply below_drew1 | refine below_set ?_ GE515.out | refine below_set ?_ GE516.out) | exact HB.out))) : w.heap.size ≤ gb517)); have n5_ := Aside0.mk ((by rw [hg]; exact (below_size (by repeat (first | (with_reducible first | exact HB.out | apply below_alloc | apply pw_below_drewN | apply below_drew1 | refine below_set ?_ GE515.out | refine below_set ?_ GE516.out) | exact HB.out))) : w.heap.size ≤ gb517)); have n6_ := Aside0.mk ((by rw [hg]; exact Nat.ne_of_lt (blk_lt (g := gb515) (o := .cells #[.int .i64 a2_0, .int .i64 a2_1, .string a2_2] 23 (0, 0)) (by (with_reducible repeat (first | refine blk_drewN ?_ _ | refine blk_drew ?_ | refine blk_alloc ?_ _)); exact BK515.out)) : gb515 ≠ gb517)); have n7_ := Aside0.mk ((by rw [hg]; exact Nat.ne_of_gt (blk_lt (g := gb515) (o := .cells #[.int .i64 a2_0, .int .i64 a2_1, .string a2_2] 23 (0, 0)) (by (with_reducible repeat (first | refine blk_drewN ?_ _ | refine blk_drew ?_ | refine blk_alloc ?_ _)); exact BK515.out)) : gb517 ≠ gb515)); have n8_ := Aside0.mk ((by rw [hg]; exact Nat.ne_of_lt (blk_lt (g := gb516) (o := .cells #[.int .i64 a3_0, .int .i64 a3_1, .string a3_2] 23 (0, 0)) (by (with_reducible repeat (first | refine blk_drewN ?_ _ | refine blk_drew ?_ | refine blk_alloc ?_ _)); exact BK516.out)) : gb516 ≠ gb517)); have n9_ := Aside0.mk ((by rw [hg]; exact Nat.ne_of_gt (blk_lt (g := gb516) (o := .cells #[.int .i64 a3_0, .int .i64 a3_1, .string a3_2] 23 (0, 0)) (by (with_reducible repeat (first | refine blk_drewN ?_ _ | refine blk_drew ?_ | refine blk_alloc ?_ _)); exact BK516.out)) : gb517 ≠ gb516)); clear BK515; clear BK516; clear HB; have BK515 := n0_; have BK516 := n1_; have HB := n2_; have BK517 := n3_; have GW517 := n4_; have GE517 := n5_; have NB515_517 := n6_; have NB517_515 := n7_; have NB516_517 := n8_; have NB517_516 := n9_; clear n0_ n1_ n2_ n3_ n4_ n5_ n6_ n7_ n8_ n9_; clear hb hbox hg; have hnb11 := NB515_516.out; have hnc11 := NB516_515.out; have hnb12 := NB515_517.out; have hnc12 := NB517_515.out; have hcz13_0 : w10.cell? ⟨gb515, 0, none⟩ = some (.int .i64 a2_0) := (blk_cell BK515.out 0).trans rfl; have hcz13_1 : w10.cell? ⟨gb515, 1, none⟩ = some (.int .i64 a2_1) := (blk_cell BK515.out 1).trans rfl; have hcz13_2 : w10.cell? ⟨gb515, 2, none⟩ = some (.string a2_2) := (blk_cell BK515.out 2).trans rfl; have hfz13_0 := blk_frozen BK515.out 0; have hfz13_1 := blk_frozen BK515.out 1; have hfz13_2 := blk_frozen BK515.out 2; have hnb14 := NB516_517.out; have hnc14 := NB517_516.out; have hcz15_0 : w10.cell? ⟨gb516, 0, none⟩ = some (.int .i64 a3_0) := (blk_cell BK516.out 0).trans rfl; have hcz15_1 : w10.cell? ⟨gb516, 1, none⟩ = some (.int .i64 a3_1) := (blk_cell BK516.out 1).trans rfl; have hcz15_2 : w10.cell? ⟨gb516, 2, none⟩ = some (.string a3_2) := (blk_cell BK516.out 2).trans rfl; have hfz15_0 := blk_frozen BK516.out 0; have hfz15_1 := blk_frozen BK516.out 1; have hfz15_2 := blk_frozen BK516.out 2) | ((with_reducible refine gate_callee (f := 49) rfl ?_); refine goesL_ (some 15) rfl rfl Tryd.func49 (by kernel_rfl) rfl #[.agg #[.int .i64 a2_0, .int .i64 a2_1, .string a2_2], .agg #[.int .i64 a3_0, .int .i64 a3_1, .string a3_2]] rfl (by (try simp only [List.map_toArray, List.map_cons, List.map_nil]); first | done | rfl | (simp only [List.length_drop, List.length_take]; rfl)) ?_; (with_reducible refine (gussetref23_Same.calls k a2_0 a2_1 a2_2 a3_0 a3_1 a3_2 t518 _ A6.out).mono ?_); rintro e w16 ⟨rfl, hb⟩; refine ⟨_, rfl, ?_⟩; have n0_ := Aside0.mk (blk_below (g := gb515) (o := .cells #[.int .i64 a2_0, .int .i64 a2_1, .string a2_2] 23 (0, 0)) (by (with_reducible repeat (first | refine blk_drewN ?_ _ | refine blk_drew ?_ | refine blk_alloc ?_ _)); exact BK515.out) hb); have n1_ := Aside0.mk (blk_below (g := gb516) (o := .cells #[.int .i64 a3_0, .int .i64 a3_1, .string a3_2] 23 (0, 0)) (by (with_reducible repeat (first | refine blk_drewN ?_ _ | refine blk_drew ?_ | refine blk_alloc ?_ _)); exact BK516.out) hb); have n2_ := Aside0.mk (blk_below (g := gb517) (o := .cells #[.int .i64 0, .int .i64 0, .string (⟨#[]⟩ : ByteArray)] 23 (0, 0)) (by (with_reducible repeat (first | refine blk_drewN ?_ _ | refine blk_drew ?_ | refine blk_alloc ?_ _)); exact BK517.out) hb); have n3_ := Aside0.mk (below_step (by repeat (first | (with_reducible first | exact HB.out | apply below_alloc | apply pw_below_drewN | apply below_drew1 | refine below_set ?_ GE515.out | refine below_set ?_ GE516.out | refine below_set ?_ GE517.out) | exact HB.out)) hb); clear BK515; clear BK516; clear BK517; clear HB; have BK515 := n0_; have BK516 := n1_; have BK517 := n2_; have HB := n3_; clear n0_ n1_ n2_ n3_; (try clear hb); (try clear hb2); (try clear hk); (try clear hi)) | ((with_reducible refine gate_callee (f := 33) rfl ?_); refine goesL_ (some 16) rfl rfl Tryd.func33 (by kernel_rfl) rfl #[.bool t518] rfl (by (try simp only [List.map_toArray, List.map_cons, List.map_nil]); first | done | rfl | (simp only [List.length_drop, List.length_take]; rfl)) ?_; (with_reducible refine (gussetref24_truth.calls t518 t519 t520 t521 t522 _ A7.out).mono ?_); rintro e w17 ⟨rfl, hb⟩; refine ⟨_, rfl, ?_⟩; have n0_ := Aside0.mk (blk_below (g := gb515) (o := .cells #[.int .i64 a2_0, .int .i64 a2_1, .string a2_2] 23 (0, 0)) (by (with_reducible repeat (first | refine blk_drewN ?_ _ | refine blk_drew ?_ | refine blk_alloc ?_ _)); exact BK515.out) hb); have n1_ := Aside0.mk (blk_below (g := gb516) (o := .cells #[.int .i64 a3_0, .int .i64 a3_1, .string a3_2] 23 (0, 0)) (by (with_reducible repeat (first | refine blk_drewN ?_ _ | refine blk_drew ?_ | refine blk_alloc ?_ _)); exact BK516.out) hb); have n2_ := Aside0.mk (blk_below (g := gb517) (o := .cells #[.int .i64 0, .int .i64 0, .string (⟨#[]⟩ : ByteArray)] 23 (0, 0)) (by (with_reducible repeat (first | refine blk_drewN ?_ _ | refine blk_drew ?_ | refine blk_alloc ?_ _)); exact BK517.out) hb); have n3_ := Aside0.mk (below_step (by repeat (first | (with_reducible first | exact HB.out | apply below_alloc | apply pw_below_drewN | apply below_drew1 | refine below_set ?_ GE515.out | refine below_set ?_ GE516.out | refine below_set ?_ GE517.out) | exact HB.out)) hb); clear BK515; clear BK516; clear BK517; clear HB; have BK515 := n0_; have BK516 := n1_; have BK517 := n2_; have HB := n3_; clear n0_ n1_ n2_ n3_; (try clear hb); (try clear hb2); (try clear hk); (try clear hi); have hcz18_0 : w17.cell? ⟨gb517, 0, none⟩ = some (.int .i64 0) := (blk_cell BK517.out 0).trans rfl; have hcz18_1 : w17.cell? ⟨gb517, 1, none⟩ = some (.int .i64 0) := (blk_cell BK517.out 1).trans rfl; have hcz18_2 : w17.cell? ⟨gb517, 2, none⟩ = some (.string (⟨#[]⟩ : ByteArray)) := (blk_cell BK517.out 2).trans rfl; have hfz18_0 := blk_frozen BK517.out 0; have hfz18_1 := blk_frozen BK517.out 1; have hfz18_2 := blk_frozen BK517.out 2))
    refine bodyPost_ret (results_ct rfl _ _ gb517 23 #[.int .i64 t519, .int .i64 t520, .string t521] (0, 0) _ rfl (by (with_reducible repeat (first | refine blk_drewN ?_ _ | refine blk_drew ?_ | refine blk_alloc ?_ _)); refine blk_put (cs := #[.int .i64 t519, .int .i64 t520, .string (⟨#[]⟩ : ByteArray)]) ?_ 2 _ rfl; (with_reducible repeat (first | refine blk_drewN ?_ _ | refine blk_drew ?_ | refine blk_alloc ?_ _)); refine blk_put (cs := #[.int .i64 t519, .int .i64 0, .string (⟨#[]⟩ : ByteArray)]) ?_ 1 _ rfl; (with_reducible repeat (first | refine blk_drewN ?_ _ | refine blk_drew ?_ | refine blk_alloc ?_ _)); refine blk_put (cs := #[.int .i64 0, .int .i64 0, .string (⟨#[]⟩ : ByteArray)]) ?_ 0 _ rfl; (with_reducible repeat (first | refine blk_drewN ?_ _ | refine blk_drew ?_ | refine blk_alloc ?_ _)); exact BK517.out) Tryd.underlying23 rfl (by kernel_rfl)) rfl ?_
    exact ⟨by first | rfl | (simp [errW_none, errW_some] <;> rfl) | (simp [*, errW_none, errW_some] <;> rfl), by repeat (first | (with_reducible first | exact HB.out | apply below_alloc | apply pw_below_drewN | apply below_drew1 | refine below_set ?_ GE515.out | refine below_set ?_ GE516.out | refine below_set ?_ GE517.out) | exact HB.out)⟩
  · rw [if_neg c5] at H
    have c5b0 : (a1.toList == ([61, 61, 61] : List UInt8)) = false := beq_eq_false_iff_ne.mpr c5
    have c5b1 : (a1.toList != ([61, 61, 61] : List UInt8)) = true := bne_iff_ne.mpr c5
    by_cases c19 : a1.toList = ([33, 61, 61] : List UInt8)
    · rw [if_pos c19] at H
      have c19b0 : (a1.toList == ([33, 61, 61] : List UInt8)) = true := beq_iff_eq.mpr c19
      have c19b1 : (a1.toList != ([33, 61, 61] : List UInt8)) = false := bne_eq_false_iff_eq.mpr c19
      clear c19
      replace H := Option.bind_eq_some_iff.mp H
      obtain ⟨t523, A200, H⟩ := H
      replace H : ((gussetref24_truth.f (!t523)).bind fun bt524 => (some (bt524.1, bt524.2.1, bt524.2.2.1, bt524.2.2.2))) = some (r1, r2, r3, r4) := H
      have A20 := Aside0.mk A200
      clear A200
      replace H := Option.bind_eq_some_iff.mp H
      obtain ⟨⟨t524, t525, t526, t527⟩, A210, H⟩ := H
      replace H : (some (t524, t525, t526, t527)) = some (r1, r2, r3, r4) := H
      have A21 := Aside0.mk A210
      clear A210
      simp only [Option.some.injEq, Prod.mk.injEq] at H
      obtain ⟨rfl, rfl, rfl, rfl⟩ := H
      go_enter Tryd.func16, Tryd.ntmps16
      go_wp2_with (first | ((with_reducible refine gate_dst (N := 6) rfl ?_); refine box_event ?hg (N := 6) ?hd (cs := #[.int .i64 a2_0, .int .i64 a2_1, .string a2_2]) (t := 23) ?hr ?_; (case hd => rfl); (case hg => rfl); (case hr => first | (go_simp; done) | (go_simp; rfl)); intro gb515 hg w22 hbox hb; have n0_ := Aside0.mk (below_step (by repeat (first | (with_reducible first | exact HB.out | apply below_alloc | apply pw_below_drewN | apply below_drew1) | exact HB.out)) hb); have n1_ := Aside0.mk (hbox); have n2_ := Aside0.mk ((by rw [hg]; exact (below_size (by repeat (first | (with_reducible first | exact HB.out | apply below_alloc | apply pw_below_drewN | apply below_drew1) | exact HB.out))) : w.heap.size ≤ gb515)); have n3_ := Aside0.mk ((by rw [hg]; exact (below_size (by repeat (first | (with_reducible first | exact HB.out | apply below_alloc | apply pw_below_drewN | apply below_drew1) | exact HB.out))) : w.heap.size ≤ gb515)); clear HB; have HB := n0_; have BK515 := n1_; have GW515 := n2_; have GE515 := n3_; clear n0_ n1_ n2_ n3_; clear hb hbox hg) | ((with_reducible refine gate_dst (N := 7) rfl ?_); refine box_event ?hg (N := 7) ?hd (cs := #[.int .i64 a3_0, .int .i64 a3_1, .string a3_2]) (t := 23) ?hr ?_; (case hd => rfl); (case hg => rfl); (case hr => first | (go_simp; done) | (go_simp; rfl)); intro gb516 hg w23 hbox hb; have n0_ := Aside0.mk (blk_below (g := gb515) (o := .cells #[.int .i64 a2_0, .int .i64 a2_1, .string a2_2] 23 (0, 0)) (by (with_reducible repeat (first | refine blk_drewN ?_ _ | refine blk_drew ?_ | refine blk_alloc ?_ _)); exact BK515.out) hb); have n1_ := Aside0.mk (below_step (by repeat (first | (with_reducible first | exact HB.out | apply below_alloc | apply pw_below_drewN | apply below_drew1 | refine below_set ?_ GE515.out) | exact HB.out)) hb); have n2_ := Aside0.mk (hbox); have n3_ := Aside0.mk ((by rw [hg]; exact (below_size (by repeat (first | (with_reducible first | exact HB.out | apply below_alloc | apply pw_below_drewN | apply below_drew1 | refine below_set ?_ GE515.out) | exact HB.out))) : w.heap.size ≤ gb516)); have n4_ := Aside0.mk ((by rw [hg]; exact (below_size (by repeat (first | (with_reducible first | exact HB.out | apply below_alloc | apply pw_below_drewN | apply below_drew1 | refine below_set ?_ GE515.out) | exact HB.out))) : w.heap.size ≤ gb516)); have n5_ := Aside0.mk ((by rw [hg]; exact Nat.ne_of_lt (blk_lt (g := gb515) (o := .cells #[.int .i64 a2_0, .int .i64 a2_1, .string a2_2] 23 (0, 0)) (by (with_reducible repeat (first | refine blk_drewN ?_ _ | refine blk_drew ?_ | refine blk_alloc ?_ _)); exact BK515.out)) : gb515 ≠ gb516)); have n6_ := Aside0.mk ((by rw [hg]; exact Nat.ne_of_gt (blk_lt (g := gb515) (o := .cells #[.int .i64 a2_0, .int .i64 a2_1, .string a2_2] 23 (0, 0)) (by (with_reducible repeat (first | refine blk_drewN ?_ _ | refine blk_drew ?_ | refine blk_alloc ?_ _)); exact BK515.out)) : gb516 ≠ gb515)); clear BK515; clear HB; have BK515 := n0_; have HB := n1_; have BK516 := n2_; have GW516 := n3_; have GE516 := n4_; have NB515_516 := n5_; have NB516_515 := n6_; clear n0_ n1_ n2_ n3_ n4_ n5_ n6_; clear hb hbox hg) | ((with_reducible refine gate_dst (N := 8) rfl ?_); refine box_event ?hg (N := 8) ?hd (cs := #[.int .i64 0, .int .i64 0, .string (⟨#[]⟩ : ByteArray)]) (t := 23) ?hr ?_; (case hd => rfl); (case hg => rfl); (case hr => first | (go_simp; done) | (go_simp; rfl)); intro gb517 hg w24 hbox hb; have n0_ := Aside0.mk (blk_below (g := gb515) (o := .cells #[.int .i64 a2_0, .int .i64 a2_1, .string a2_2] 23 (0, 0)) (by (with_reducible repeat (first | refine blk_drewN ?_ _ | refine blk_drew ?_ | refine blk_alloc ?_ _)); exact BK515.out) hb); have n1_ := Aside0.mk (blk_below (g := gb516) (o := .cells #[.int .i64 a3_0, .int .i64 a3_1, .string a3_2] 23 (0, 0)) (by (with_reducible repeat (first | refine blk_drewN ?_ _ | refine blk_drew ?_ | refine blk_alloc ?_ _)); exact BK516.out) hb); have n2_ := Aside0.mk (below_step (by repeat (first | (with_reducible first | exact HB.out | apply below_alloc | apply pw_below_drewN | apply below_drew1 | refine below_set ?_ GE515.out | refine below_set ?_ GE516.out) | exact HB.out)) hb); have n3_ := Aside0.mk (hbox); have n4_ := Aside0.mk ((by rw [hg]; exact (below_size (by repeat (first | (with_reducible first | exact HB.out | apply below_alloc | apply pw_below_drewN | apply below_drew1 | refine below_set ?_ GE515.out | refine below_set ?_ GE516.out) | exact HB.out))) : w.heap.size ≤ gb517)); have n5_ := Aside0.mk ((by rw [hg]; exact (below_size (by repeat (first | (with_reducible first | exact HB.out | apply below_alloc | apply pw_below_drewN | apply below_drew1 | refine below_set ?_ GE515.out | refine below_set ?_ GE516.out) | exact HB.out))) : w.heap.size ≤ gb517)); have n6_ := Aside0.mk ((by rw [hg]; exact Nat.ne_of_lt (blk_lt (g := gb515) (o := .cells #[.int .i64 a2_0, .int .i64 a2_1, .string a2_2] 23 (0, 0)) (by (with_reducible repeat (first | refine blk_drewN ?_ _ | refine blk_drew ?_ | refine blk_alloc ?_ _)); exact BK515.out)) : gb515 ≠ gb517)); have n7_ := Aside0.mk ((by rw [hg]; exact Nat.ne_of_gt (blk_lt (g := gb515) (o := .cells #[.int .i64 a2_0, .int .i64 a2_1, .string a2_2] 23 (0, 0)) (by (with_reducible repeat (first | refine blk_drewN ?_ _ | refine blk_drew ?_ | refine blk_alloc ?_ _)); exact BK515.out)) : gb517 ≠ gb515)); have n8_ := Aside0.mk ((by rw [hg]; exact Nat.ne_of_lt (blk_lt (g := gb516) (o := .cells #[.int .i64 a3_0, .int .i64 a3_1, .string a3_2] 23 (0, 0)) (by (with_reducible repeat (first | refine blk_drewN ?_ _ | refine blk_drew ?_ | refine blk_alloc ?_ _)); exact BK516.out)) : gb516 ≠ gb517)); have n9_ := Aside0.mk ((by rw [hg]; exact Nat.ne_of_gt (blk_lt (g := gb516) (o := .cells #[.int .i64 a3_0, .int .i64 a3_1, .string a3_2] 23 (0, 0)) (by (with_reducible repeat (first | refine blk_drewN ?_ _ | refine blk_drew ?_ | refine blk_alloc ?_ _)); exact BK516.out)) : gb517 ≠ gb516)); clear BK515; clear BK516; clear HB; have BK515 := n0_; have BK516 := n1_; have HB := n2_; have BK517 := n3_; have GW517 := n4_; have GE517 := n5_; have NB515_517 := n6_; have NB517_515 := n7_; have NB516_517 := n8_; have NB517_516 := n9_; clear n0_ n1_ n2_ n3_ n4_ n5_ n6_ n7_ n8_ n9_; clear hb hbox hg; have hnb25 := NB515_516.out; have hnc25 := NB516_515.out; have hnb26 := NB515_517.out; have hnc26 := NB517_515.out; have hcz27_0 : w24.cell? ⟨gb515, 0, none⟩ = some (.int .i64 a2_0) := (blk_cell BK515.out 0).trans rfl; have hcz27_1 : w24.cell? ⟨gb515, 1, none⟩ = some (.int .i64 a2_1) := (blk_cell BK515.out 1).trans rfl; have hcz27_2 : w24.cell? ⟨gb515, 2, none⟩ = some (.string a2_2) := (blk_cell BK515.out 2).trans rfl; have hfz27_0 := blk_frozen BK515.out 0; have hfz27_1 := blk_frozen BK515.out 1; have hfz27_2 := blk_frozen BK515.out 2; have hnb28 := NB516_517.out; have hnc28 := NB517_516.out; have hcz29_0 : w24.cell? ⟨gb516, 0, none⟩ = some (.int .i64 a3_0) := (blk_cell BK516.out 0).trans rfl; have hcz29_1 : w24.cell? ⟨gb516, 1, none⟩ = some (.int .i64 a3_1) := (blk_cell BK516.out 1).trans rfl; have hcz29_2 : w24.cell? ⟨gb516, 2, none⟩ = some (.string a3_2) := (blk_cell BK516.out 2).trans rfl; have hfz29_0 := blk_frozen BK516.out 0; have hfz29_1 := blk_frozen BK516.out 1; have hfz29_2 := blk_frozen BK516.out 2) | ((with_reducible refine gate_callee (f := 49) rfl ?_); refine goesL_ (some 24) rfl rfl Tryd.func49 (by kernel_rfl) rfl #[.agg #[.int .i64 a2_0, .int .i64 a2_1, .string a2_2], .agg #[.int .i64 a3_0, .int .i64 a3_1, .string a3_2]] rfl (by (try simp only [List.map_toArray, List.map_cons, List.map_nil]); first | done | rfl | (simp only [List.length_drop, List.length_take]; rfl)) ?_; (with_reducible refine (gussetref23_Same.calls k a2_0 a2_1 a2_2 a3_0 a3_1 a3_2 t523 _ A20.out).mono ?_); rintro e w30 ⟨rfl, hb⟩; refine ⟨_, rfl, ?_⟩; have n0_ := Aside0.mk (blk_below (g := gb515) (o := .cells #[.int .i64 a2_0, .int .i64 a2_1, .string a2_2] 23 (0, 0)) (by (with_reducible repeat (first | refine blk_drewN ?_ _ | refine blk_drew ?_ | refine blk_alloc ?_ _)); exact BK515.out) hb); have n1_ := Aside0.mk (blk_below (g := gb516) (o := .cells #[.int .i64 a3_0, .int .i64 a3_1, .string a3_2] 23 (0, 0)) (by (with_reducible repeat (first | refine blk_drewN ?_ _ | refine blk_drew ?_ | refine blk_alloc ?_ _)); exact BK516.out) hb); have n2_ := Aside0.mk (blk_below (g := gb517) (o := .cells #[.int .i64 0, .int .i64 0, .string (⟨#[]⟩ : ByteArray)] 23 (0, 0)) (by (with_reducible repeat (first | refine blk_drewN ?_ _ | refine blk_drew ?_ | refine blk_alloc ?_ _)); exact BK517.out) hb); have n3_ := Aside0.mk (below_step (by repeat (first | (with_reducible first | exact HB.out | apply below_alloc | apply pw_below_drewN | apply below_drew1 | refine below_set ?_ GE515.out | refine below_set ?_ GE516.out | refine below_set ?_ GE517.out) | exact HB.out)) hb); clear BK515; clear BK516; clear BK517; clear HB; have BK515 := n0_; have BK516 := n1_; have BK517 := n2_; have HB := n3_; clear n0_ n1_ n2_ n3_; (try clear hb); (try clear hb2); (try clear hk); (try clear hi)) | ((with_reducible refine gate_callee (f := 33) rfl ?_); refine goesL_ (some 26) rfl rfl Tryd.func33 (by kernel_rfl) rfl #[.bool (!t523)] rfl (by (try simp only [List.map_toArray, List.map_cons, List.map_nil]); first | done | rfl | (simp only [List.length_drop, List.length_take]; rfl)) ?_; (with_reducible refine (gussetref24_truth.calls (!t523) t524 t525 t526 t527 _ A21.out).mono ?_); rintro e w31 ⟨rfl, hb⟩; refine ⟨_, rfl, ?_⟩; have n0_ := Aside0.mk (blk_below (g := gb515) (o := .cells #[.int .i64 a2_0, .int .i64 a2_1, .string a2_2] 23 (0, 0)) (by (with_reducible repeat (first | refine blk_drewN ?_ _ | refine blk_drew ?_ | refine blk_alloc ?_ _)); exact BK515.out) hb); have n1_ := Aside0.mk (blk_below (g := gb516) (o := .cells #[.int .i64 a3_0, .int .i64 a3_1, .string a3_2] 23 (0, 0)) (by (with_reducible repeat (first | refine blk_drewN ?_ _ | refine blk_drew ?_ | refine blk_alloc ?_ _)); exact BK516.out) hb); have n2_ := Aside0.mk (blk_below (g := gb517) (o := .cells #[.int .i64 0, .int .i64 0, .string (⟨#[]⟩ : ByteArray)] 23 (0, 0)) (by (with_reducible repeat (first | refine blk_drewN ?_ _ | refine blk_drew ?_ | refine blk_alloc ?_ _)); exact BK517.out) hb); have n3_ := Aside0.mk (below_step (by repeat (first | (with_reducible first | exact HB.out | apply below_alloc | apply pw_below_drewN | apply below_drew1 | refine below_set ?_ GE515.out | refine below_set ?_ GE516.out | refine below_set ?_ GE517.out) | exact HB.out)) hb); clear BK515; clear BK516; clear BK517; clear HB; have BK515 := n0_; have BK516 := n1_; have BK517 := n2_; have HB := n3_; clear n0_ n1_ n2_ n3_; (try clear hb); (try clear hb2); (try clear hk); (try clear hi); have hcz32_0 : w31.cell? ⟨gb517, 0, none⟩ = some (.int .i64 0) := (blk_cell BK517.out 0).trans rfl; have hcz32_1 : w31.cell? ⟨gb517, 1, none⟩ = some (.int .i64 0) := (blk_cell BK517.out 1).trans rfl; have hcz32_2 : w31.cell? ⟨gb517, 2, none⟩ = some (.string (⟨#[]⟩ : ByteArray)) := (blk_cell BK517.out 2).trans rfl; have hfz32_0 := blk_frozen BK517.out 0; have hfz32_1 := blk_frozen BK517.out 1; have hfz32_2 := blk_frozen BK517.out 2))
      refine bodyPost_ret (results_ct rfl _ _ gb517 23 #[.int .i64 t524, .int .i64 t525, .string t526] (0, 0) _ rfl (by (with_reducible repeat (first | refine blk_drewN ?_ _ | refine blk_drew ?_ | refine blk_alloc ?_ _)); refine blk_put (cs := #[.int .i64 t524, .int .i64 t525, .string (⟨#[]⟩ : ByteArray)]) ?_ 2 _ rfl; (with_reducible repeat (first | refine blk_drewN ?_ _ | refine blk_drew ?_ | refine blk_alloc ?_ _)); refine blk_put (cs := #[.int .i64 t524, .int .i64 0, .string (⟨#[]⟩ : ByteArray)]) ?_ 1 _ rfl; (with_reducible repeat (first | refine blk_drewN ?_ _ | refine blk_drew ?_ | refine blk_alloc ?_ _)); refine blk_put (cs := #[.int .i64 0, .int .i64 0, .string (⟨#[]⟩ : ByteArray)]) ?_ 0 _ rfl; (with_reducible repeat (first | refine blk_drewN ?_ _ | refine blk_drew ?_ | refine blk_alloc ?_ _)); exact BK517.out) Tryd.underlying23 rfl (by kernel_rfl)) rfl ?_
      exact ⟨by first | rfl | (simp [errW_none, errW_some] <;> rfl) | (simp [*, errW_none, errW_some] <;> rfl), by repeat (first | (with_reducible first | exact HB.out | apply below_alloc | apply pw_below_drewN | apply below_drew1 | refine below_set ?_ GE515.out | refine below_set ?_ GE516.out | refine below_set ?_ GE517.out) | exact HB.out)⟩
    · rw [if_neg c19] at H
      have c19b0 : (a1.toList == ([33, 61, 61] : List UInt8)) = false := beq_eq_false_iff_ne.mpr c19
      have c19b1 : (a1.toList != ([33, 61, 61] : List UInt8)) = true := bne_iff_ne.mpr c19
      have HC33 := Aside0.mk H
      clear H
      go_enter Tryd.func16, Tryd.ntmps16
      go_upto_region 5 with (first | ((with_reducible refine gate_dst (N := 6) rfl ?_); refine box_event ?hg (N := 6) ?hd (cs := #[.int .i64 a2_0, .int .i64 a2_1, .string a2_2]) (t := 23) ?hr ?_; (case hd => rfl); (case hg => rfl); (case hr => first | (go_simp; done) | (go_simp; rfl)); intro gb515 hg w34 hbox hb; have n0_ := Aside0.mk (below_step (by repeat (first | (with_reducible first | exact HB.out | apply below_alloc | apply pw_below_drewN | apply below_drew1) | exact HB.out)) hb); have n1_ := Aside0.mk (hbox); have n2_ := Aside0.mk ((by rw [hg]; exact (below_size (by repeat (first | (with_reducible first | exact HB.out | apply below_alloc | apply pw_below_drewN | apply below_drew1) | exact HB.out))) : w.heap.size ≤ gb515)); have n3_ := Aside0.mk ((by rw [hg]; exact (below_size (by repeat (first | (with_reducible first | exact HB.out | apply below_alloc | apply pw_below_drewN | apply below_drew1) | exact HB.out))) : w.heap.size ≤ gb515)); clear HB; have HB := n0_; have BK515 := n1_; have GW515 := n2_; have GE515 := n3_; clear n0_ n1_ n2_ n3_; clear hb hbox hg) | ((with_reducible refine gate_dst (N := 7) rfl ?_); refine box_event ?hg (N := 7) ?hd (cs := #[.int .i64 a3_0, .int .i64 a3_1, .string a3_2]) (t := 23) ?hr ?_; (case hd => rfl); (case hg => rfl); (case hr => first | (go_simp; done) | (go_simp; rfl)); intro gb516 hg w35 hbox hb; have n0_ := Aside0.mk (blk_below (g := gb515) (o := .cells #[.int .i64 a2_0, .int .i64 a2_1, .string a2_2] 23 (0, 0)) (by (with_reducible repeat (first | refine blk_drewN ?_ _ | refine blk_drew ?_ | refine blk_alloc ?_ _)); exact BK515.out) hb); have n1_ := Aside0.mk (below_step (by repeat (first | (with_reducible first | exact HB.out | apply below_alloc | apply pw_below_drewN | apply below_drew1 | refine below_set ?_ GE515.out) | exact HB.out)) hb); have n2_ := Aside0.mk (hbox); have n3_ := Aside0.mk ((by rw [hg]; exact (below_size (by repeat (first | (with_reducible first | exact HB.out | apply below_alloc | apply pw_below_drewN | apply below_drew1 | refine below_set ?_ GE515.out) | exact HB.out))) : w.heap.size ≤ gb516)); have n4_ := Aside0.mk ((by rw [hg]; exact (below_size (by repeat (first | (with_reducible first | exact HB.out | apply below_alloc | apply pw_below_drewN | apply below_drew1 | refine below_set ?_ GE515.out) | exact HB.out))) : w.heap.size ≤ gb516)); have n5_ := Aside0.mk ((by rw [hg]; exact Nat.ne_of_lt (blk_lt (g := gb515) (o := .cells #[.int .i64 a2_0, .int .i64 a2_1, .string a2_2] 23 (0, 0)) (by (with_reducible repeat (first | refine blk_drewN ?_ _ | refine blk_drew ?_ | refine blk_alloc ?_ _)); exact BK515.out)) : gb515 ≠ gb516)); have n6_ := Aside0.mk ((by rw [hg]; exact Nat.ne_of_gt (blk_lt (g := gb515) (o := .cells #[.int .i64 a2_0, .int .i64 a2_1, .string a2_2] 23 (0, 0)) (by (with_reducible repeat (first | refine blk_drewN ?_ _ | refine blk_drew ?_ | refine blk_alloc ?_ _)); exact BK515.out)) : gb516 ≠ gb515)); clear BK515; clear HB; have BK515 := n0_; have HB := n1_; have BK516 := n2_; have GW516 := n3_; have GE516 := n4_; have NB515_516 := n5_; have NB516_515 := n6_; clear n0_ n1_ n2_ n3_ n4_ n5_ n6_; clear hb hbox hg) | ((with_reducible refine gate_dst (N := 8) rfl ?_); refine box_event ?hg (N := 8) ?hd (cs := #[.int .i64 0, .int .i64 0, .string (⟨#[]⟩ : ByteArray)]) (t := 23) ?hr ?_; (case hd => rfl); (case hg => rfl); (case hr => first | (go_simp; done) | (go_simp; rfl)); intro gb517 hg w36 hbox hb; have n0_ := Aside0.mk (blk_below (g := gb515) (o := .cells #[.int .i64 a2_0, .int .i64 a2_1, .string a2_2] 23 (0, 0)) (by (with_reducible repeat (first | refine blk_drewN ?_ _ | refine blk_drew ?_ | refine blk_alloc ?_ _)); exact BK515.out) hb); have n1_ := Aside0.mk (blk_below (g := gb516) (o := .cells #[.int .i64 a3_0, .int .i64 a3_1, .string a3_2] 23 (0, 0)) (by (with_reducible repeat (first | refine blk_drewN ?_ _ | refine blk_drew ?_ | refine blk_alloc ?_ _)); exact BK516.out) hb); have n2_ := Aside0.mk (below_step (by repeat (first | (with_reducible first | exact HB.out | apply below_alloc | apply pw_below_drewN | apply below_drew1 | refine below_set ?_ GE515.out | refine below_set ?_ GE516.out) | exact HB.out)) hb); have n3_ := Aside0.mk (hbox); have n4_ := Aside0.mk ((by rw [hg]; exact (below_size (by repeat (first | (with_reducible first | exact HB.out | apply below_alloc | apply pw_below_drewN | apply below_drew1 | refine below_set ?_ GE515.out | refine below_set ?_ GE516.out) | exact HB.out))) : w.heap.size ≤ gb517)); have n5_ := Aside0.mk ((by rw [hg]; exact (below_size (by repeat (first | (with_reducible first | exact HB.out | apply below_alloc | apply pw_below_drewN | apply below_drew1 | refine below_set ?_ GE515.out | refine below_set ?_ GE516.out) | exact HB.out))) : w.heap.size ≤ gb517)); have n6_ := Aside0.mk ((by rw [hg]; exact Nat.ne_of_lt (blk_lt (g := gb515) (o := .cells #[.int .i64 a2_0, .int .i64 a2_1, .string a2_2] 23 (0, 0)) (by (with_reducible repeat (first | refine blk_drewN ?_ _ | refine blk_drew ?_ | refine blk_alloc ?_ _)); exact BK515.out)) : gb515 ≠ gb517)); have n7_ := Aside0.mk ((by rw [hg]; exact Nat.ne_of_gt (blk_lt (g := gb515) (o := .cells #[.int .i64 a2_0, .int .i64 a2_1, .string a2_2] 23 (0, 0)) (by (with_reducible repeat (first | refine blk_drewN ?_ _ | refine blk_drew ?_ | refine blk_alloc ?_ _)); exact BK515.out)) : gb517 ≠ gb515)); have n8_ := Aside0.mk ((by rw [hg]; exact Nat.ne_of_lt (blk_lt (g := gb516) (o := .cells #[.int .i64 a3_0, .int .i64 a3_1, .string a3_2] 23 (0, 0)) (by (with_reducible repeat (first | refine blk_drewN ?_ _ | refine blk_drew ?_ | refine blk_alloc ?_ _)); exact BK516.out)) : gb516 ≠ gb517)); have n9_ := Aside0.mk ((by rw [hg]; exact Nat.ne_of_gt (blk_lt (g := gb516) (o := .cells #[.int .i64 a3_0, .int .i64 a3_1, .string a3_2] 23 (0, 0)) (by (with_reducible repeat (first | refine blk_drewN ?_ _ | refine blk_drew ?_ | refine blk_alloc ?_ _)); exact BK516.out)) : gb517 ≠ gb516)); clear BK515; clear BK516; clear HB; have BK515 := n0_; have BK516 := n1_; have HB := n2_; have BK517 := n3_; have GW517 := n4_; have GE517 := n5_; have NB515_517 := n6_; have NB517_515 := n7_; have NB516_517 := n8_; have NB517_516 := n9_; clear n0_ n1_ n2_ n3_ n4_ n5_ n6_ n7_ n8_ n9_; clear hb hbox hg))
      (try simp only [Act.put, List.setIfInBounds_toArray, List.set_cons_zero, List.set_cons_succ])
      go_cut [29] (fun v29 wc => ∃ (kq : Nat) (x29_32 : Bool), v29 = .bool x29_32 ∧ Aside0 (gussetref24_Binary.j0 kq a1 x29_32 a2_0 a2_1 a2_2 a3_0 a3_1 a3_2 = some (r1, r2, r3, r4)) ∧ Aside0 (kq ≤ k) ∧ Aside0 (wc.heap[gb515]? = some (.cells #[.int .i64 a2_0, .int .i64 a2_1, .string a2_2] 23 (0, 0))) ∧ Aside0 (wc.heap[gb516]? = some (.cells #[.int .i64 a3_0, .int .i64 a3_1, .string a3_2] 23 (0, 0))) ∧ Aside0 (wc.heap[gb517]? = some (.cells #[.int .i64 0, .int .i64 0, .string (⟨#[]⟩ : ByteArray)] 23 (0, 0))) ∧ Aside0 (Below w.heap.size w wc))
      case first =>
        have H := HC33.out
        clear HC33
        by_cases c37 : a2_0 = 3
        · rw [if_pos c37] at H
          have c37b0 : (a2_0 == 3) = true := beq_iff_eq.mpr c37
          have c37b1 : (a2_0 != 3) = false := bne_eq_false_iff_eq.mpr c37
          clear c37
          (first | rw [c37b0] | (simp only [i64_w, i32_w]; rw [c37b0]) | skip)
          have H' := Aside0.mk H
          clear H
          have hnb38 := NB515_516.out
          have hnc38 := NB516_515.out
          have hnb39 := NB515_517.out
          have hnc39 := NB517_515.out
          have hcz40_0 : w36.cell? ⟨gb515, 0, none⟩ = some (.int .i64 a2_0) := (blk_cell BK515.out 0).trans rfl
          have hcz40_1 : w36.cell? ⟨gb515, 1, none⟩ = some (.int .i64 a2_1) := (blk_cell BK515.out 1).trans rfl
          have hcz40_2 : w36.cell? ⟨gb515, 2, none⟩ = some (.string a2_2) := (blk_cell BK515.out 2).trans rfl
          have hfz40_0 := blk_frozen BK515.out 0
          have hfz40_1 := blk_frozen BK515.out 1
          have hfz40_2 := blk_frozen BK515.out 2
          have hnb41 := NB516_517.out
          have hnc41 := NB517_516.out
          have hcz42_0 : w36.cell? ⟨gb516, 0, none⟩ = some (.int .i64 a3_0) := (blk_cell BK516.out 0).trans rfl
          have hcz42_1 : w36.cell? ⟨gb516, 1, none⟩ = some (.int .i64 a3_1) := (blk_cell BK516.out 1).trans rfl
          have hcz42_2 : w36.cell? ⟨gb516, 2, none⟩ = some (.string a3_2) := (blk_cell BK516.out 2).trans rfl
          have hfz42_0 := blk_frozen BK516.out 0
          have hfz42_1 := blk_frozen BK516.out 1
          have hfz42_2 := blk_frozen BK516.out 2
          go_wp2
          go_meet
          case rel => exact ⟨_, ((a3_0 == 3)), (by first | rfl | (simp; done) | (simp [*]; done)), H', ⟨by first | omega | exact Nat.le_refl _⟩, ⟨by (with_reducible repeat (first | refine blk_drewN ?_ _ | refine blk_drew ?_ | refine blk_alloc ?_ _)); exact BK515.out⟩, ⟨by (with_reducible repeat (first | refine blk_drewN ?_ _ | refine blk_drew ?_ | refine blk_alloc ?_ _)); exact BK516.out⟩, ⟨by (with_reducible repeat (first | refine blk_drewN ?_ _ | refine blk_drew ?_ | refine blk_alloc ?_ _)); exact BK517.out⟩, ⟨by repeat (first | (with_reducible first | exact HB.out | apply below_alloc | apply pw_below_drewN | apply below_drew1 | refine below_set ?_ GE515.out | refine below_set ?_ GE516.out | refine below_set ?_ GE517.out) | exact HB.out)⟩⟩
        · rw [if_neg c37] at H
          have c37b0 : (a2_0 == 3) = false := beq_eq_false_iff_ne.mpr c37
          have c37b1 : (a2_0 != 3) = true := bne_iff_ne.mpr c37
          (first | rw [c37b0] | (simp only [i64_w, i32_w]; rw [c37b0]) | skip)
          have H' := Aside0.mk H
          clear H
          have hnb43 := NB515_516.out
          have hnc43 := NB516_515.out
          have hnb44 := NB515_517.out
          have hnc44 := NB517_515.out
          have hcz45_0 : w36.cell? ⟨gb515, 0, none⟩ = some (.int .i64 a2_0) := (blk_cell BK515.out 0).trans rfl
          have hcz45_1 : w36.cell? ⟨gb515, 1, none⟩ = some (.int .i64 a2_1) := (blk_cell BK515.out 1).trans rfl
          have hcz45_2 : w36.cell? ⟨gb515, 2, none⟩ = some (.string a2_2) := (blk_cell BK515.out 2).trans rfl
          have hfz45_0 := blk_frozen BK515.out 0
          have hfz45_1 := blk_frozen BK515.out 1
          have hfz45_2 := blk_frozen BK515.out 2
          go_wp2
          go_meet
          case rel => exact ⟨_, (false), (by first | rfl | (simp; done) | (simp [*]; done)), H', ⟨by first | omega | exact Nat.le_refl _⟩, ⟨by (with_reducible repeat (first | refine blk_drewN ?_ _ | refine blk_drew ?_ | refine blk_alloc ?_ _)); exact BK515.out⟩, ⟨by (with_reducible repeat (first | refine blk_drewN ?_ _ | refine blk_drew ?_ | refine blk_alloc ?_ _)); exact BK516.out⟩, ⟨by (with_reducible repeat (first | refine blk_drewN ?_ _ | refine blk_drew ?_ | refine blk_alloc ?_ _)); exact BK517.out⟩, ⟨by repeat (first | (with_reducible first | exact HB.out | apply below_alloc | apply pw_below_drewN | apply below_drew1 | refine below_set ?_ GE515.out | refine below_set ?_ GE516.out | refine below_set ?_ GE517.out) | exact HB.out)⟩⟩
      case rest =>
        clear HC33
        try clear c1
        try clear c2
        try clear p2
        try clear c3
        try clear c4
        try clear c5
        try clear c5b0
        try clear c5b1
        try clear c11
        try clear c12
        try clear c14
        try clear c16
        try clear c19
        try clear c19b0
        try clear c19b1
        try clear c25
        try clear c26
        try clear c28
        try clear c33
        try clear c37
        try clear c37b0
        try clear c37b1
        try clear c38
        try clear c39
        try clear c41
        try clear c43
        try clear c44
        try clear hcz13_0
        try clear hcz13_1
        try clear hcz13_2
        try clear hcz15_0
        try clear hcz15_1
        try clear hcz15_2
        try clear hcz18_0
        try clear hcz18_1
        try clear hcz18_2
        try clear hcz27_0
        try clear hcz27_1
        try clear hcz27_2
        try clear hcz29_0
        try clear hcz29_1
        try clear hcz29_2
        try clear hcz32_0
        try clear hcz32_1
        try clear hcz32_2
        try clear hcz40_0
        try clear hcz40_1
        try clear hcz40_2
        try clear hcz42_0
        try clear hcz42_1
        try clear hcz42_2
        try clear hcz45_0
        try clear hcz45_1
        try clear hcz45_2
        try clear hfz13_0
        try clear hfz13_1
        try clear hfz13_2
        try clear hfz15_0
        try clear hfz15_1
        try clear hfz15_2
        try clear hfz18_0
        try clear hfz18_1
        try clear hfz18_2
        try clear hfz27_0
        try clear hfz27_1
        try clear hfz27_2
        try clear hfz29_0
        try clear hfz29_1
        try clear hfz29_2
        try clear hfz32_0
        try clear hfz32_1
        try clear hfz32_2
        try clear hfz40_0
        try clear hfz40_1
        try clear hfz40_2
        try clear hfz42_0
        try clear hfz42_1
        try clear hfz42_2
        try clear hfz45_0
        try clear hfz45_1
        try clear hfz45_2
        obtain ⟨kq, x29_32, rfl, HA, HJ32, BK515, BK516, BK517, HB⟩ := hcut
        cases kq with
        | zero => exact absurd HA.out (by simp [gussetref24_Binary.j0])
        | succ kj32 =>
          have H := HA.out
          clear HA
          simp only [gussetref24_Binary.j0] at H
          by_cases c46 : x29_32 = true
          · subst c46
            have H1 : ((gussetref24_numbers.f kj32 a1 a2_1 a3_1).bind fun bt528 => (some (bt528.1, bt528.2.1, bt528.2.2.1, bt528.2.2.2))) = some (r1, r2, r3, r4) := by rw [if_pos rfl] at H; exact H
            clear H
            have H := H1
            clear H1
            replace H := Option.bind_eq_some_iff.mp H
            obtain ⟨⟨t528, t529, t530, t531⟩, A470, H⟩ := H
            replace H : (some (t528, t529, t530, t531)) = some (r1, r2, r3, r4) := H
            have A47 := Aside0.mk A470
            clear A470
            simp only [Option.some.injEq, Prod.mk.injEq] at H
            obtain ⟨rfl, rfl, rfl, rfl⟩ := H
            have hnb48 := NB515_516.out
            have hnc48 := NB516_515.out
            have hnb49 := NB515_517.out
            have hnc49 := NB517_515.out
            have hcz50_0 : wc.cell? ⟨gb515, 0, none⟩ = some (.int .i64 a2_0) := (blk_cell BK515.out 0).trans rfl
            have hcz50_1 : wc.cell? ⟨gb515, 1, none⟩ = some (.int .i64 a2_1) := (blk_cell BK515.out 1).trans rfl
            have hcz50_2 : wc.cell? ⟨gb515, 2, none⟩ = some (.string a2_2) := (blk_cell BK515.out 2).trans rfl
            have hfz50_0 := blk_frozen BK515.out 0
            have hfz50_1 := blk_frozen BK515.out 1
            have hfz50_2 := blk_frozen BK515.out 2
            have hnb51 := NB516_517.out
            have hnc51 := NB517_516.out
            have hcz52_0 : wc.cell? ⟨gb516, 0, none⟩ = some (.int .i64 a3_0) := (blk_cell BK516.out 0).trans rfl
            have hcz52_1 : wc.cell? ⟨gb516, 1, none⟩ = some (.int .i64 a3_1) := (blk_cell BK516.out 1).trans rfl
            have hcz52_2 : wc.cell? ⟨gb516, 2, none⟩ = some (.string a3_2) := (blk_cell BK516.out 2).trans rfl
            have hfz52_0 := blk_frozen BK516.out 0
            have hfz52_1 := blk_frozen BK516.out 1
            have hfz52_2 := blk_frozen BK516.out 2
            go_wp2_with (first | ((with_reducible refine gate_callee (f := 50) rfl ?_); refine goesL_ (some 43) rfl rfl Tryd.func50 (by kernel_rfl) rfl #[.string a1, .int .i64 a2_1, .int .i64 a3_1] rfl (by (try simp only [List.map_toArray, List.map_cons, List.map_nil]); first | done | rfl | (simp only [List.length_drop, List.length_take]; rfl)) ?_; (with_reducible refine (gussetref24_numbers.calls kj32 a1 a2_1 a3_1 t528 t529 t530 t531 _ A47.out).mono ?_); rintro e w53 ⟨rfl, hb⟩; refine ⟨_, rfl, ?_⟩; have n0_ := Aside0.mk (blk_below (g := gb515) (o := .cells #[.int .i64 a2_0, .int .i64 a2_1, .string a2_2] 23 (0, 0)) (by (with_reducible repeat (first | refine blk_drewN ?_ _ | refine blk_drew ?_ | refine blk_alloc ?_ _)); exact BK515.out) hb); have n1_ := Aside0.mk (blk_below (g := gb516) (o := .cells #[.int .i64 a3_0, .int .i64 a3_1, .string a3_2] 23 (0, 0)) (by (with_reducible repeat (first | refine blk_drewN ?_ _ | refine blk_drew ?_ | refine blk_alloc ?_ _)); exact BK516.out) hb); have n2_ := Aside0.mk (blk_below (g := gb517) (o := .cells #[.int .i64 0, .int .i64 0, .string (⟨#[]⟩ : ByteArray)] 23 (0, 0)) (by (with_reducible repeat (first | refine blk_drewN ?_ _ | refine blk_drew ?_ | refine blk_alloc ?_ _)); exact BK517.out) hb); have n3_ := Aside0.mk (below_step (by repeat (first | (with_reducible first | exact HB.out | apply below_alloc | apply pw_below_drewN | apply below_drew1 | refine below_set ?_ GE515.out | refine below_set ?_ GE516.out | refine below_set ?_ GE517.out) | exact HB.out)) hb); clear BK515; clear BK516; clear BK517; clear HB; have BK515 := n0_; have BK516 := n1_; have BK517 := n2_; have HB := n3_; clear n0_ n1_ n2_ n3_; (try clear hb); (try clear hb2); (try clear hk); (try clear hi); have hcz54_0 : w53.cell? ⟨gb517, 0, none⟩ = some (.int .i64 0) := (blk_cell BK517.out 0).trans rfl; have hcz54_1 : w53.cell? ⟨gb517, 1, none⟩ = some (.int .i64 0) := (blk_cell BK517.out 1).trans rfl; have hcz54_2 : w53.cell? ⟨gb517, 2, none⟩ = some (.string (⟨#[]⟩ : ByteArray)) := (blk_cell BK517.out 2).trans rfl; have hfz54_0 := blk_frozen BK517.out 0; have hfz54_1 := blk_frozen BK517.out 1; have hfz54_2 := blk_frozen BK517.out 2))
            refine bodyPost_ret (results_ct rfl _ _ gb517 23 #[.int .i64 t528, .int .i64 t529, .string t530] (0, 0) _ rfl (by (with_reducible repeat (first | refine blk_drewN ?_ _ | refine blk_drew ?_ | refine blk_alloc ?_ _)); refine blk_put (cs := #[.int .i64 t528, .int .i64 t529, .string (⟨#[]⟩ : ByteArray)]) ?_ 2 _ rfl; (with_reducible repeat (first | refine blk_drewN ?_ _ | refine blk_drew ?_ | refine blk_alloc ?_ _)); refine blk_put (cs := #[.int .i64 t528, .int .i64 0, .string (⟨#[]⟩ : ByteArray)]) ?_ 1 _ rfl; (with_reducible repeat (first | refine blk_drewN ?_ _ | refine blk_drew ?_ | refine blk_alloc ?_ _)); refine blk_put (cs := #[.int .i64 0, .int .i64 0, .string (⟨#[]⟩ : ByteArray)]) ?_ 0 _ rfl; (with_reducible repeat (first | refine blk_drewN ?_ _ | refine blk_drew ?_ | refine blk_alloc ?_ _)); exact BK517.out) Tryd.underlying23 rfl (by kernel_rfl)) rfl ?_
            exact ⟨by first | rfl | (simp [errW_none, errW_some] <;> rfl) | (simp [*, errW_none, errW_some] <;> rfl), by repeat (first | (with_reducible first | exact HB.out | apply below_alloc | apply pw_below_drewN | apply below_drew1 | refine below_set ?_ GE515.out | refine below_set ?_ GE516.out | refine below_set ?_ GE517.out) | exact HB.out)⟩
          · replace c46 := Bool.eq_false_iff.mpr c46
            subst c46
            have H1 : (if a1.toList = ([43] : List UInt8) then (if a2_0 = 4 then ((gussetref24_plain.f a3_0 a3_1 a3_2).bind fun t532 => (if t532 = true then (gussetref24_Binary.j1 kj32 a1 true a2_0 a2_1 a2_2 a3_0 a3_1 a3_2) else (if a3_0 = 4 then ((gussetref24_plain.f a2_0 a2_1 a2_2).bind fun t533 => (gussetref24_Binary.j1 kj32 a1 t533 a2_0 a2_1 a2_2 a3_0 a3_1 a3_2)) else (gussetref24_Binary.j1 kj32 a1 false a2_0 a2_1 a2_2 a3_0 a3_1 a3_2)))) else (if a3_0 = 4 then ((gussetref24_plain.f a2_0 a2_1 a2_2).bind fun t534 => (gussetref24_Binary.j1 kj32 a1 t534 a2_0 a2_1 a2_2 a3_0 a3_1 a3_2)) else (gussetref24_Binary.j1 kj32 a1 false a2_0 a2_1 a2_2 a3_0 a3_1 a3_2))) else (gussetref24_Binary.j1 kj32 a1 false a2_0 a2_1 a2_2 a3_0 a3_1 a3_2)) = some (r1, r2, r3, r4) := by rw [if_neg (show ¬ (false = true) by decide)] at H; exact H
            clear H
            have H := H1
            clear H1
            have HC55 := Aside0.mk H
            clear H
            go_upto_region 7 with (fail)
            go_cut [46] (fun v46 wc => ∃ (kq : Nat) (x46_54 : Bool), v46 = .bool x46_54 ∧ Aside0 (gussetref24_Binary.j1 kq a1 x46_54 a2_0 a2_1 a2_2 a3_0 a3_1 a3_2 = some (r1, r2, r3, r4)) ∧ Aside0 (kq ≤ kj32) ∧ Aside0 (wc.heap[gb515]? = some (.cells #[.int .i64 a2_0, .int .i64 a2_1, .string a2_2] 23 (0, 0))) ∧ Aside0 (wc.heap[gb516]? = some (.cells #[.int .i64 a3_0, .int .i64 a3_1, .string a3_2] 23 (0, 0))) ∧ Aside0 (wc.heap[gb517]? = some (.cells #[.int .i64 0, .int .i64 0, .string (⟨#[]⟩ : ByteArray)] 23 (0, 0))) ∧ Aside0 (Below w.heap.size w wc))
            case first =>
              have H := HC55.out
              clear HC55
              by_cases c56 : a1.toList = ([43] : List UInt8)
              · rw [if_pos c56] at H
                have c56b0 : (a1.toList == ([43] : List UInt8)) = true := beq_iff_eq.mpr c56
                have c56b1 : (a1.toList != ([43] : List UInt8)) = false := bne_eq_false_iff_eq.mpr c56
                clear c56
                (first | rw [c56b0] | (simp only [i64_w, i32_w]; rw [c56b0]) | skip)
                by_cases c57 : a2_0 = 4
                · rw [if_pos c57] at H
                  have c57b0 : (a2_0 == 4) = true := beq_iff_eq.mpr c57
                  have c57b1 : (a2_0 != 4) = false := bne_eq_false_iff_eq.mpr c57
                  clear c57
                  replace H := Option.bind_eq_some_iff.mp H
                  obtain ⟨t532, A580, H⟩ := H
                  replace H : (if t532 = true then (gussetref24_Binary.j1 kj32 a1 true a2_0 a2_1 a2_2 a3_0 a3_1 a3_2) else (if a3_0 = 4 then ((gussetref24_plain.f a2_0 a2_1 a2_2).bind fun t533 => (gussetref24_Binary.j1 kj32 a1 t533 a2_0 a2_1 a2_2 a3_0 a3_1 a3_2)) else (gussetref24_Binary.j1 kj32 a1 false a2_0 a2_1 a2_2 a3_0 a3_1 a3_2))) = some (r1, r2, r3, r4) := H
                  have A58 := Aside0.mk A580
                  clear A580
                  by_cases c59 : t532 = true
                  · subst c59
                    have H1 : (gussetref24_Binary.j1 kj32 a1 true a2_0 a2_1 a2_2 a3_0 a3_1 a3_2) = some (r1, r2, r3, r4) := by rw [if_pos rfl] at H; exact H
                    clear H
                    have H := H1
                    clear H1
                    have H' := Aside0.mk H
                    clear H
                    have hnb60 := NB515_516.out
                    have hnc60 := NB516_515.out
                    have hnb61 := NB515_517.out
                    have hnc61 := NB517_515.out
                    have hcz62_0 : wc.cell? ⟨gb515, 0, none⟩ = some (.int .i64 a2_0) := (blk_cell BK515.out 0).trans rfl
                    have hcz62_1 : wc.cell? ⟨gb515, 1, none⟩ = some (.int .i64 a2_1) := (blk_cell BK515.out 1).trans rfl
                    have hcz62_2 : wc.cell? ⟨gb515, 2, none⟩ = some (.string a2_2) := (blk_cell BK515.out 2).trans rfl
                    have hfz62_0 := blk_frozen BK515.out 0
                    have hfz62_1 := blk_frozen BK515.out 1
                    have hfz62_2 := blk_frozen BK515.out 2
                    have hnb63 := NB516_517.out
                    have hnc63 := NB517_516.out
                    have hcz64_0 : wc.cell? ⟨gb516, 0, none⟩ = some (.int .i64 a3_0) := (blk_cell BK516.out 0).trans rfl
                    have hcz64_1 : wc.cell? ⟨gb516, 1, none⟩ = some (.int .i64 a3_1) := (blk_cell BK516.out 1).trans rfl
                    have hcz64_2 : wc.cell? ⟨gb516, 2, none⟩ = some (.string a3_2) := (blk_cell BK516.out 2).trans rfl
                    have hfz64_0 := blk_frozen BK516.out 0
                    have hfz64_1 := blk_frozen BK516.out 1
                    have hfz64_2 := blk_frozen BK516.out 2
                    go_wp2_with (first | (go_at_call 51; (with_reducible refine (gussetref24_plain.calls a3_0 a3_1 a3_2 true _ A58.out).mono ?_); rintro e w65 ⟨rfl, hb⟩; have n0_ := Aside0.mk (blk_below (g := gb515) (o := .cells #[.int .i64 a2_0, .int .i64 a2_1, .string a2_2] 23 (0, 0)) (by (with_reducible repeat (first | refine blk_drewN ?_ _ | refine blk_drew ?_ | refine blk_alloc ?_ _)); exact BK515.out) hb); have n1_ := Aside0.mk (blk_below (g := gb516) (o := .cells #[.int .i64 a3_0, .int .i64 a3_1, .string a3_2] 23 (0, 0)) (by (with_reducible repeat (first | refine blk_drewN ?_ _ | refine blk_drew ?_ | refine blk_alloc ?_ _)); exact BK516.out) hb); have n2_ := Aside0.mk (blk_below (g := gb517) (o := .cells #[.int .i64 0, .int .i64 0, .string (⟨#[]⟩ : ByteArray)] 23 (0, 0)) (by (with_reducible repeat (first | refine blk_drewN ?_ _ | refine blk_drew ?_ | refine blk_alloc ?_ _)); exact BK517.out) hb); have n3_ := Aside0.mk (below_step (by repeat (first | (with_reducible first | exact HB.out | apply below_alloc | apply pw_below_drewN | apply below_drew1 | refine below_set ?_ GE515.out | refine below_set ?_ GE516.out | refine below_set ?_ GE517.out) | exact HB.out)) hb); clear BK515; clear BK516; clear BK517; clear HB; have BK515 := n0_; have BK516 := n1_; have BK517 := n2_; have HB := n3_; clear n0_ n1_ n2_ n3_; (try clear hb); (try clear hb2); (try clear hk); (try clear hi)))
                    go_meet
                    case rel => exact ⟨_, (true), (by first | rfl | (simp; done) | (simp [*]; done)), H', ⟨by have := HJ32.out; first | omega | exact Nat.le_refl _⟩, ⟨by (with_reducible repeat (first | refine blk_drewN ?_ _ | refine blk_drew ?_ | refine blk_alloc ?_ _)); exact BK515.out⟩, ⟨by (with_reducible repeat (first | refine blk_drewN ?_ _ | refine blk_drew ?_ | refine blk_alloc ?_ _)); exact BK516.out⟩, ⟨by (with_reducible repeat (first | refine blk_drewN ?_ _ | refine blk_drew ?_ | refine blk_alloc ?_ _)); exact BK517.out⟩, ⟨by repeat (first | (with_reducible first | exact HB.out | apply below_alloc | apply pw_below_drewN | apply below_drew1 | refine below_set ?_ GE515.out | refine below_set ?_ GE516.out | refine below_set ?_ GE517.out) | exact HB.out)⟩⟩
                  · replace c59 := Bool.eq_false_iff.mpr c59
                    subst c59
                    have H1 : (if a3_0 = 4 then ((gussetref24_plain.f a2_0 a2_1 a2_2).bind fun t533 => (gussetref24_Binary.j1 kj32 a1 t533 a2_0 a2_1 a2_2 a3_0 a3_1 a3_2)) else (gussetref24_Binary.j1 kj32 a1 false a2_0 a2_1 a2_2 a3_0 a3_1 a3_2)) = some (r1, r2, r3, r4) := by rw [if_neg (show ¬ (false = true) by decide)] at H; exact H
                    clear H
                    have H := H1
                    clear H1
                    by_cases c66 : a3_0 = 4
                    · rw [if_pos c66] at H
                      have c66b0 : (a3_0 == 4) = true := beq_iff_eq.mpr c66
                      have c66b1 : (a3_0 != 4) = false := bne_eq_false_iff_eq.mpr c66
                      clear c66
                      replace H := Option.bind_eq_some_iff.mp H
                      obtain ⟨t533, A670, H⟩ := H
                      replace H : (gussetref24_Binary.j1 kj32 a1 t533 a2_0 a2_1 a2_2 a3_0 a3_1 a3_2) = some (r1, r2, r3, r4) := H
                      have A67 := Aside0.mk A670
                      clear A670
                      have H' := Aside0.mk H
                      clear H
                      have hnb68 := NB515_516.out
                      have hnc68 := NB516_515.out
                      have hnb69 := NB515_517.out
                      have hnc69 := NB517_515.out
                      have hcz70_0 : wc.cell? ⟨gb515, 0, none⟩ = some (.int .i64 a2_0) := (blk_cell BK515.out 0).trans rfl
                      have hcz70_1 : wc.cell? ⟨gb515, 1, none⟩ = some (.int .i64 a2_1) := (blk_cell BK515.out 1).trans rfl
                      have hcz70_2 : wc.cell? ⟨gb515, 2, none⟩ = some (.string a2_2) := (blk_cell BK515.out 2).trans rfl
                      have hfz70_0 := blk_frozen BK515.out 0
                      have hfz70_1 := blk_frozen BK515.out 1
                      have hfz70_2 := blk_frozen BK515.out 2
                      have hnb71 := NB516_517.out
                      have hnc71 := NB517_516.out
                      have hcz72_0 : wc.cell? ⟨gb516, 0, none⟩ = some (.int .i64 a3_0) := (blk_cell BK516.out 0).trans rfl
                      have hcz72_1 : wc.cell? ⟨gb516, 1, none⟩ = some (.int .i64 a3_1) := (blk_cell BK516.out 1).trans rfl
                      have hcz72_2 : wc.cell? ⟨gb516, 2, none⟩ = some (.string a3_2) := (blk_cell BK516.out 2).trans rfl
                      have hfz72_0 := blk_frozen BK516.out 0
                      have hfz72_1 := blk_frozen BK516.out 1
                      have hfz72_2 := blk_frozen BK516.out 2
                      go_wp2_with (first | (go_at_call 51; (with_reducible refine (gussetref24_plain.calls a3_0 a3_1 a3_2 false _ A58.out).mono ?_); rintro e w73 ⟨rfl, hb⟩; have n0_ := Aside0.mk (blk_below (g := gb515) (o := .cells #[.int .i64 a2_0, .int .i64 a2_1, .string a2_2] 23 (0, 0)) (by (with_reducible repeat (first | refine blk_drewN ?_ _ | refine blk_drew ?_ | refine blk_alloc ?_ _)); exact BK515.out) hb); have n1_ := Aside0.mk (blk_below (g := gb516) (o := .cells #[.int .i64 a3_0, .int .i64 a3_1, .string a3_2] 23 (0, 0)) (by (with_reducible repeat (first | refine blk_drewN ?_ _ | refine blk_drew ?_ | refine blk_alloc ?_ _)); exact BK516.out) hb); have n2_ := Aside0.mk (blk_below (g := gb517) (o := .cells #[.int .i64 0, .int .i64 0, .string (⟨#[]⟩ : ByteArray)] 23 (0, 0)) (by (with_reducible repeat (first | refine blk_drewN ?_ _ | refine blk_drew ?_ | refine blk_alloc ?_ _)); exact BK517.out) hb); have n3_ := Aside0.mk (below_step (by repeat (first | (with_reducible first | exact HB.out | apply below_alloc | apply pw_below_drewN | apply below_drew1 | refine below_set ?_ GE515.out | refine below_set ?_ GE516.out | refine below_set ?_ GE517.out) | exact HB.out)) hb); clear BK515; clear BK516; clear BK517; clear HB; have BK515 := n0_; have BK516 := n1_; have BK517 := n2_; have HB := n3_; clear n0_ n1_ n2_ n3_; (try clear hb); (try clear hb2); (try clear hk); (try clear hi); have hcz74_0 : w73.cell? ⟨gb516, 0, none⟩ = some (.int .i64 a3_0) := (blk_cell BK516.out 0).trans rfl; have hcz74_1 : w73.cell? ⟨gb516, 1, none⟩ = some (.int .i64 a3_1) := (blk_cell BK516.out 1).trans rfl; have hcz74_2 : w73.cell? ⟨gb516, 2, none⟩ = some (.string a3_2) := (blk_cell BK516.out 2).trans rfl; have hfz74_0 := blk_frozen BK516.out 0; have hfz74_1 := blk_frozen BK516.out 1; have hfz74_2 := blk_frozen BK516.out 2; have hcz75_0 : w73.cell? ⟨gb515, 0, none⟩ = some (.int .i64 a2_0) := (blk_cell BK515.out 0).trans rfl; have hcz75_1 : w73.cell? ⟨gb515, 1, none⟩ = some (.int .i64 a2_1) := (blk_cell BK515.out 1).trans rfl; have hcz75_2 : w73.cell? ⟨gb515, 2, none⟩ = some (.string a2_2) := (blk_cell BK515.out 2).trans rfl; have hfz75_0 := blk_frozen BK515.out 0; have hfz75_1 := blk_frozen BK515.out 1; have hfz75_2 := blk_frozen BK515.out 2) | (go_at_call 51; (with_reducible refine (gussetref24_plain.calls a2_0 a2_1 a2_2 t533 _ A67.out).mono ?_); rintro e w76 ⟨rfl, hb⟩; have n0_ := Aside0.mk (blk_below (g := gb515) (o := .cells #[.int .i64 a2_0, .int .i64 a2_1, .string a2_2] 23 (0, 0)) (by (with_reducible repeat (first | refine blk_drewN ?_ _ | refine blk_drew ?_ | refine blk_alloc ?_ _)); exact BK515.out) hb); have n1_ := Aside0.mk (blk_below (g := gb516) (o := .cells #[.int .i64 a3_0, .int .i64 a3_1, .string a3_2] 23 (0, 0)) (by (with_reducible repeat (first | refine blk_drewN ?_ _ | refine blk_drew ?_ | refine blk_alloc ?_ _)); exact BK516.out) hb); have n2_ := Aside0.mk (blk_below (g := gb517) (o := .cells #[.int .i64 0, .int .i64 0, .string (⟨#[]⟩ : ByteArray)] 23 (0, 0)) (by (with_reducible repeat (first | refine blk_drewN ?_ _ | refine blk_drew ?_ | refine blk_alloc ?_ _)); exact BK517.out) hb); have n3_ := Aside0.mk (below_step (by repeat (first | (with_reducible first | exact HB.out | apply below_alloc | apply pw_below_drewN | apply below_drew1 | refine below_set ?_ GE515.out | refine below_set ?_ GE516.out | refine below_set ?_ GE517.out) | exact HB.out)) hb); clear BK515; clear BK516; clear BK517; clear HB; have BK515 := n0_; have BK516 := n1_; have BK517 := n2_; have HB := n3_; clear n0_ n1_ n2_ n3_; (try clear hb); (try clear hb2); (try clear hk); (try clear hi)))
                      go_meet
                      case rel => exact ⟨_, (t533), (by first | rfl | (simp; done) | (simp [*]; done)), H', ⟨by have := HJ32.out; first | omega | exact Nat.le_refl _⟩, ⟨by (with_reducible repeat (first | refine blk_drewN ?_ _ | refine blk_drew ?_ | refine blk_alloc ?_ _)); exact BK515.out⟩, ⟨by (with_reducible repeat (first | refine blk_drewN ?_ _ | refine blk_drew ?_ | refine blk_alloc ?_ _)); exact BK516.out⟩, ⟨by (with_reducible repeat (first | refine blk_drewN ?_ _ | refine blk_drew ?_ | refine blk_alloc ?_ _)); exact BK517.out⟩, ⟨by repeat (first | (with_reducible first | exact HB.out | apply below_alloc | apply pw_below_drewN | apply below_drew1 | refine below_set ?_ GE515.out | refine below_set ?_ GE516.out | refine below_set ?_ GE517.out) | exact HB.out)⟩⟩
                    · rw [if_neg c66] at H
                      have c66b0 : (a3_0 == 4) = false := beq_eq_false_iff_ne.mpr c66
                      have c66b1 : (a3_0 != 4) = true := bne_iff_ne.mpr c66
                      have H' := Aside0.mk H
                      clear H
                      have hnb77 := NB515_516.out
                      have hnc77 := NB516_515.out
                      have hnb78 := NB515_517.out
                      have hnc78 := NB517_515.out
                      have hcz79_0 : wc.cell? ⟨gb515, 0, none⟩ = some (.int .i64 a2_0) := (blk_cell BK515.out 0).trans rfl
                      have hcz79_1 : wc.cell? ⟨gb515, 1, none⟩ = some (.int .i64 a2_1) := (blk_cell BK515.out 1).trans rfl
                      have hcz79_2 : wc.cell? ⟨gb515, 2, none⟩ = some (.string a2_2) := (blk_cell BK515.out 2).trans rfl
                      have hfz79_0 := blk_frozen BK515.out 0
                      have hfz79_1 := blk_frozen BK515.out 1
                      have hfz79_2 := blk_frozen BK515.out 2
                      have hnb80 := NB516_517.out
                      have hnc80 := NB517_516.out
                      have hcz81_0 : wc.cell? ⟨gb516, 0, none⟩ = some (.int .i64 a3_0) := (blk_cell BK516.out 0).trans rfl
                      have hcz81_1 : wc.cell? ⟨gb516, 1, none⟩ = some (.int .i64 a3_1) := (blk_cell BK516.out 1).trans rfl
                      have hcz81_2 : wc.cell? ⟨gb516, 2, none⟩ = some (.string a3_2) := (blk_cell BK516.out 2).trans rfl
                      have hfz81_0 := blk_frozen BK516.out 0
                      have hfz81_1 := blk_frozen BK516.out 1
                      have hfz81_2 := blk_frozen BK516.out 2
                      go_wp2_with (first | (go_at_call 51; (with_reducible refine (gussetref24_plain.calls a3_0 a3_1 a3_2 false _ A58.out).mono ?_); rintro e w82 ⟨rfl, hb⟩; have n0_ := Aside0.mk (blk_below (g := gb515) (o := .cells #[.int .i64 a2_0, .int .i64 a2_1, .string a2_2] 23 (0, 0)) (by (with_reducible repeat (first | refine blk_drewN ?_ _ | refine blk_drew ?_ | refine blk_alloc ?_ _)); exact BK515.out) hb); have n1_ := Aside0.mk (blk_below (g := gb516) (o := .cells #[.int .i64 a3_0, .int .i64 a3_1, .string a3_2] 23 (0, 0)) (by (with_reducible repeat (first | refine blk_drewN ?_ _ | refine blk_drew ?_ | refine blk_alloc ?_ _)); exact BK516.out) hb); have n2_ := Aside0.mk (blk_below (g := gb517) (o := .cells #[.int .i64 0, .int .i64 0, .string (⟨#[]⟩ : ByteArray)] 23 (0, 0)) (by (with_reducible repeat (first | refine blk_drewN ?_ _ | refine blk_drew ?_ | refine blk_alloc ?_ _)); exact BK517.out) hb); have n3_ := Aside0.mk (below_step (by repeat (first | (with_reducible first | exact HB.out | apply below_alloc | apply pw_below_drewN | apply below_drew1 | refine below_set ?_ GE515.out | refine below_set ?_ GE516.out | refine below_set ?_ GE517.out) | exact HB.out)) hb); clear BK515; clear BK516; clear BK517; clear HB; have BK515 := n0_; have BK516 := n1_; have BK517 := n2_; have HB := n3_; clear n0_ n1_ n2_ n3_; (try clear hb); (try clear hb2); (try clear hk); (try clear hi); have hcz83_0 : w82.cell? ⟨gb516, 0, none⟩ = some (.int .i64 a3_0) := (blk_cell BK516.out 0).trans rfl; have hcz83_1 : w82.cell? ⟨gb516, 1, none⟩ = some (.int .i64 a3_1) := (blk_cell BK516.out 1).trans rfl; have hcz83_2 : w82.cell? ⟨gb516, 2, none⟩ = some (.string a3_2) := (blk_cell BK516.out 2).trans rfl; have hfz83_0 := blk_frozen BK516.out 0; have hfz83_1 := blk_frozen BK516.out 1; have hfz83_2 := blk_frozen BK516.out 2))
                      go_meet
                      case rel => exact ⟨_, (false), (by first | rfl | (simp; done) | (simp [*]; done)), H', ⟨by have := HJ32.out; first | omega | exact Nat.le_refl _⟩, ⟨by (with_reducible repeat (first | refine blk_drewN ?_ _ | refine blk_drew ?_ | refine blk_alloc ?_ _)); exact BK515.out⟩, ⟨by (with_reducible repeat (first | refine blk_drewN ?_ _ | refine blk_drew ?_ | refine blk_alloc ?_ _)); exact BK516.out⟩, ⟨by (with_reducible repeat (first | refine blk_drewN ?_ _ | refine blk_drew ?_ | refine blk_alloc ?_ _)); exact BK517.out⟩, ⟨by repeat (first | (with_reducible first | exact HB.out | apply below_alloc | apply pw_below_drewN | apply below_drew1 | refine below_set ?_ GE515.out | refine below_set ?_ GE516.out | refine below_set ?_ GE517.out) | exact HB.out)⟩⟩
                · rw [if_neg c57] at H
                  have c57b0 : (a2_0 == 4) = false := beq_eq_false_iff_ne.mpr c57
                  have c57b1 : (a2_0 != 4) = true := bne_iff_ne.mpr c57
                  by_cases c84 : a3_0 = 4
                  · rw [if_pos c84] at H
                    have c84b0 : (a3_0 == 4) = true := beq_iff_eq.mpr c84
                    have c84b1 : (a3_0 != 4) = false := bne_eq_false_iff_eq.mpr c84
                    clear c84
                    replace H := Option.bind_eq_some_iff.mp H
                    obtain ⟨t534, A850, H⟩ := H
                    replace H : (gussetref24_Binary.j1 kj32 a1 t534 a2_0 a2_1 a2_2 a3_0 a3_1 a3_2) = some (r1, r2, r3, r4) := H
                    have A85 := Aside0.mk A850
                    clear A850
                    have H' := Aside0.mk H
                    clear H
                    have hnb86 := NB515_516.out
                    have hnc86 := NB516_515.out
                    have hnb87 := NB515_517.out
                    have hnc87 := NB517_515.out
                    have hcz88_0 : wc.cell? ⟨gb515, 0, none⟩ = some (.int .i64 a2_0) := (blk_cell BK515.out 0).trans rfl
                    have hcz88_1 : wc.cell? ⟨gb515, 1, none⟩ = some (.int .i64 a2_1) := (blk_cell BK515.out 1).trans rfl
                    have hcz88_2 : wc.cell? ⟨gb515, 2, none⟩ = some (.string a2_2) := (blk_cell BK515.out 2).trans rfl
                    have hfz88_0 := blk_frozen BK515.out 0
                    have hfz88_1 := blk_frozen BK515.out 1
                    have hfz88_2 := blk_frozen BK515.out 2
                    have hnb89 := NB516_517.out
                    have hnc89 := NB517_516.out
                    have hcz90_0 : wc.cell? ⟨gb516, 0, none⟩ = some (.int .i64 a3_0) := (blk_cell BK516.out 0).trans rfl
                    have hcz90_1 : wc.cell? ⟨gb516, 1, none⟩ = some (.int .i64 a3_1) := (blk_cell BK516.out 1).trans rfl
                    have hcz90_2 : wc.cell? ⟨gb516, 2, none⟩ = some (.string a3_2) := (blk_cell BK516.out 2).trans rfl
                    have hfz90_0 := blk_frozen BK516.out 0
                    have hfz90_1 := blk_frozen BK516.out 1
                    have hfz90_2 := blk_frozen BK516.out 2
                    go_wp2_with (first | (go_at_call 51; (with_reducible refine (gussetref24_plain.calls a2_0 a2_1 a2_2 t534 _ A85.out).mono ?_); rintro e w91 ⟨rfl, hb⟩; have n0_ := Aside0.mk (blk_below (g := gb515) (o := .cells #[.int .i64 a2_0, .int .i64 a2_1, .string a2_2] 23 (0, 0)) (by (with_reducible repeat (first | refine blk_drewN ?_ _ | refine blk_drew ?_ | refine blk_alloc ?_ _)); exact BK515.out) hb); have n1_ := Aside0.mk (blk_below (g := gb516) (o := .cells #[.int .i64 a3_0, .int .i64 a3_1, .string a3_2] 23 (0, 0)) (by (with_reducible repeat (first | refine blk_drewN ?_ _ | refine blk_drew ?_ | refine blk_alloc ?_ _)); exact BK516.out) hb); have n2_ := Aside0.mk (blk_below (g := gb517) (o := .cells #[.int .i64 0, .int .i64 0, .string (⟨#[]⟩ : ByteArray)] 23 (0, 0)) (by (with_reducible repeat (first | refine blk_drewN ?_ _ | refine blk_drew ?_ | refine blk_alloc ?_ _)); exact BK517.out) hb); have n3_ := Aside0.mk (below_step (by repeat (first | (with_reducible first | exact HB.out | apply below_alloc | apply pw_below_drewN | apply below_drew1 | refine below_set ?_ GE515.out | refine below_set ?_ GE516.out | refine below_set ?_ GE517.out) | exact HB.out)) hb); clear BK515; clear BK516; clear BK517; clear HB; have BK515 := n0_; have BK516 := n1_; have BK517 := n2_; have HB := n3_; clear n0_ n1_ n2_ n3_; (try clear hb); (try clear hb2); (try clear hk); (try clear hi)))
                    go_meet
                    case rel => exact ⟨_, (t534), (by first | rfl | (simp; done) | (simp [*]; done)), H', ⟨by have := HJ32.out; first | omega | exact Nat.le_refl _⟩, ⟨by (with_reducible repeat (first | refine blk_drewN ?_ _ | refine blk_drew ?_ | refine blk_alloc ?_ _)); exact BK515.out⟩, ⟨by (with_reducible repeat (first | refine blk_drewN ?_ _ | refine blk_drew ?_ | refine blk_alloc ?_ _)); exact BK516.out⟩, ⟨by (with_reducible repeat (first | refine blk_drewN ?_ _ | refine blk_drew ?_ | refine blk_alloc ?_ _)); exact BK517.out⟩, ⟨by repeat (first | (with_reducible first | exact HB.out | apply below_alloc | apply pw_below_drewN | apply below_drew1 | refine below_set ?_ GE515.out | refine below_set ?_ GE516.out | refine below_set ?_ GE517.out) | exact HB.out)⟩⟩
                  · rw [if_neg c84] at H
                    have c84b0 : (a3_0 == 4) = false := beq_eq_false_iff_ne.mpr c84
                    have c84b1 : (a3_0 != 4) = true := bne_iff_ne.mpr c84
                    have H' := Aside0.mk H
                    clear H
                    have hnb92 := NB515_516.out
                    have hnc92 := NB516_515.out
                    have hnb93 := NB515_517.out
                    have hnc93 := NB517_515.out
                    have hcz94_0 : wc.cell? ⟨gb515, 0, none⟩ = some (.int .i64 a2_0) := (blk_cell BK515.out 0).trans rfl
                    have hcz94_1 : wc.cell? ⟨gb515, 1, none⟩ = some (.int .i64 a2_1) := (blk_cell BK515.out 1).trans rfl
                    have hcz94_2 : wc.cell? ⟨gb515, 2, none⟩ = some (.string a2_2) := (blk_cell BK515.out 2).trans rfl
                    have hfz94_0 := blk_frozen BK515.out 0
                    have hfz94_1 := blk_frozen BK515.out 1
                    have hfz94_2 := blk_frozen BK515.out 2
                    have hnb95 := NB516_517.out
                    have hnc95 := NB517_516.out
                    have hcz96_0 : wc.cell? ⟨gb516, 0, none⟩ = some (.int .i64 a3_0) := (blk_cell BK516.out 0).trans rfl
                    have hcz96_1 : wc.cell? ⟨gb516, 1, none⟩ = some (.int .i64 a3_1) := (blk_cell BK516.out 1).trans rfl
                    have hcz96_2 : wc.cell? ⟨gb516, 2, none⟩ = some (.string a3_2) := (blk_cell BK516.out 2).trans rfl
                    have hfz96_0 := blk_frozen BK516.out 0
                    have hfz96_1 := blk_frozen BK516.out 1
                    have hfz96_2 := blk_frozen BK516.out 2
                    go_wp2
                    go_meet
                    case rel => exact ⟨_, (false), (by first | rfl | (simp; done) | (simp [*]; done)), H', ⟨by have := HJ32.out; first | omega | exact Nat.le_refl _⟩, ⟨by (with_reducible repeat (first | refine blk_drewN ?_ _ | refine blk_drew ?_ | refine blk_alloc ?_ _)); exact BK515.out⟩, ⟨by (with_reducible repeat (first | refine blk_drewN ?_ _ | refine blk_drew ?_ | refine blk_alloc ?_ _)); exact BK516.out⟩, ⟨by (with_reducible repeat (first | refine blk_drewN ?_ _ | refine blk_drew ?_ | refine blk_alloc ?_ _)); exact BK517.out⟩, ⟨by repeat (first | (with_reducible first | exact HB.out | apply below_alloc | apply pw_below_drewN | apply below_drew1 | refine below_set ?_ GE515.out | refine below_set ?_ GE516.out | refine below_set ?_ GE517.out) | exact HB.out)⟩⟩
              · rw [if_neg c56] at H
                have c56b0 : (a1.toList == ([43] : List UInt8)) = false := beq_eq_false_iff_ne.mpr c56
                have c56b1 : (a1.toList != ([43] : List UInt8)) = true := bne_iff_ne.mpr c56
                (first | rw [c56b0] | (simp only [i64_w, i32_w]; rw [c56b0]) | skip)
                have H' := Aside0.mk H
                clear H
                go_wp2
                go_meet
                case rel => exact ⟨_, (false), (by first | rfl | (simp; done) | (simp [*]; done)), H', ⟨by have := HJ32.out; first | omega | exact Nat.le_refl _⟩, ⟨by (with_reducible repeat (first | refine blk_drewN ?_ _ | refine blk_drew ?_ | refine blk_alloc ?_ _)); exact BK515.out⟩, ⟨by (with_reducible repeat (first | refine blk_drewN ?_ _ | refine blk_drew ?_ | refine blk_alloc ?_ _)); exact BK516.out⟩, ⟨by (with_reducible repeat (first | refine blk_drewN ?_ _ | refine blk_drew ?_ | refine blk_alloc ?_ _)); exact BK517.out⟩, ⟨by repeat (first | (with_reducible first | exact HB.out | apply below_alloc | apply pw_below_drewN | apply below_drew1 | refine below_set ?_ GE515.out | refine below_set ?_ GE516.out | refine below_set ?_ GE517.out) | exact HB.out)⟩⟩
            case rest =>
              clear HC55
              try clear c1
              try clear c2
              try clear p2
              try clear c3
              try clear c4
              try clear c5
              try clear c5b0
              try clear c5b1
              try clear c6
              try clear c7
              try clear c8
              try clear c9
              try clear c11
              try clear c12
              try clear c14
              try clear c16
              try clear c19
              try clear c19b0
              try clear c19b1
              try clear c25
              try clear c26
              try clear c28
              try clear c33
              try clear c37
              try clear c37b0
              try clear c37b1
              try clear c38
              try clear c39
              try clear c41
              try clear c43
              try clear c44
              try clear c46
              try clear c48
              try clear c49
              try clear c50
              try clear c51
              try clear c56
              try clear c56b0
              try clear c56b1
              try clear c57
              try clear c57b0
              try clear c57b1
              try clear c59
              try clear c60
              try clear c61
              try clear c63
              try clear c66
              try clear c66b0
              try clear c66b1
              try clear c68
              try clear c69
              try clear c71
              try clear c77
              try clear c78
              try clear c80
              try clear c84
              try clear c84b0
              try clear c84b1
              try clear c86
              try clear c87
              try clear c89
              try clear c92
              try clear c93
              try clear c95
              try clear hcz13_0
              try clear hcz13_1
              try clear hcz13_2
              try clear hcz15_0
              try clear hcz15_1
              try clear hcz15_2
              try clear hcz18_0
              try clear hcz18_1
              try clear hcz18_2
              try clear hcz27_0
              try clear hcz27_1
              try clear hcz27_2
              try clear hcz29_0
              try clear hcz29_1
              try clear hcz29_2
              try clear hcz32_0
              try clear hcz32_1
              try clear hcz32_2
              try clear hcz40_0
              try clear hcz40_1
              try clear hcz40_2
              try clear hcz42_0
              try clear hcz42_1
              try clear hcz42_2
              try clear hcz45_0
              try clear hcz45_1
              try clear hcz45_2
              try clear hcz50_0
              try clear hcz50_1
              try clear hcz50_2
              try clear hcz52_0
              try clear hcz52_1
              try clear hcz52_2
              try clear hcz54_0
              try clear hcz54_1
              try clear hcz54_2
              try clear hcz62_0
              try clear hcz62_1
              try clear hcz62_2
              try clear hcz64_0
              try clear hcz64_1
              try clear hcz64_2
              try clear hcz70_0
              try clear hcz70_1
              try clear hcz70_2
              try clear hcz72_0
              try clear hcz72_1
              try clear hcz72_2
              try clear hcz74_0
              try clear hcz74_1
              try clear hcz74_2
              try clear hcz75_0
              try clear hcz75_1
              try clear hcz75_2
              try clear hcz79_0
              try clear hcz79_1
              try clear hcz79_2
              try clear hcz81_0
              try clear hcz81_1
              try clear hcz81_2
              try clear hcz83_0
              try clear hcz83_1
              try clear hcz83_2
              try clear hcz88_0
              try clear hcz88_1
              try clear hcz88_2
              try clear hcz90_0
              try clear hcz90_1
              try clear hcz90_2
              try clear hcz94_0
              try clear hcz94_1
              try clear hcz94_2
              try clear hcz96_0
              try clear hcz96_1
              try clear hcz96_2
              try clear hfz13_0
              try clear hfz13_1
              try clear hfz13_2
              try clear hfz15_0
              try clear hfz15_1
              try clear hfz15_2
              try clear hfz18_0
              try clear hfz18_1
              try clear hfz18_2
              try clear hfz27_0
              try clear hfz27_1
              try clear hfz27_2
              try clear hfz29_0
              try clear hfz29_1
              try clear hfz29_2
              try clear hfz32_0
              try clear hfz32_1
              try clear hfz32_2
              try clear hfz40_0
              try clear hfz40_1
              try clear hfz40_2
              try clear hfz42_0
              try clear hfz42_1
              try clear hfz42_2
              try clear hfz45_0
              try clear hfz45_1
              try clear hfz45_2
              try clear hfz50_0
              try clear hfz50_1
              try clear hfz50_2
              try clear hfz52_0
              try clear hfz52_1
              try clear hfz52_2
              try clear hfz54_0
              try clear hfz54_1
              try clear hfz54_2
              try clear hfz62_0
              try clear hfz62_1
              try clear hfz62_2
              try clear hfz64_0
              try clear hfz64_1
              try clear hfz64_2
              try clear hfz70_0
              try clear hfz70_1
              try clear hfz70_2
              try clear hfz72_0
              try clear hfz72_1
              try clear hfz72_2
              try clear hfz74_0
              try clear hfz74_1
              try clear hfz74_2
              try clear hfz75_0
              try clear hfz75_1
              try clear hfz75_2
              try clear hfz79_0
              try clear hfz79_1
              try clear hfz79_2
              try clear hfz81_0
              try clear hfz81_1
              try clear hfz81_2
              try clear hfz83_0
              try clear hfz83_1
              try clear hfz83_2
              try clear hfz88_0
              try clear hfz88_1
              try clear hfz88_2
              try clear hfz90_0
              try clear hfz90_1
              try clear hfz90_2
              try clear hfz94_0
              try clear hfz94_1
              try clear hfz94_2
              try clear hfz96_0
              try clear hfz96_1
              try clear hfz96_2
              try clear p2
              obtain ⟨kq, x46_54, rfl, HA, HJ54, BK515, BK516, BK517, HB⟩ := hcut
              cases kq with
              | zero => exact absurd HA.out (by simp [gussetref24_Binary.j1])
              | succ kj54 =>
                have H := HA.out
                clear HA
                simp only [gussetref24_Binary.j1] at H
                by_cases c97 : x46_54 = true
                · subst c97
                  have H1 : ((gussetref23_Text.f kj54 a2_0 a2_1 a2_2).bind fun t535 => ((gussetref23_Text.f kj54 a3_0 a3_1 a3_2).bind fun t536 => (if t535.size + t536.size ≤ 9223372036854775807 then ((gussetref24_text.f (t535 ++ t536)).bind fun bt537 => (some (bt537.1, bt537.2.1, bt537.2.2.1, bt537.2.2.2))) else (none)))) = some (r1, r2, r3, r4) := by rw [if_pos rfl] at H; exact H
                  clear H
                  have H := H1
                  clear H1
                  replace H := Option.bind_eq_some_iff.mp H
                  obtain ⟨t535, A980, H⟩ := H
                  replace H : ((gussetref23_Text.f kj54 a3_0 a3_1 a3_2).bind fun t536 => (if t535.size + t536.size ≤ 9223372036854775807 then ((gussetref24_text.f (t535 ++ t536)).bind fun bt537 => (some (bt537.1, bt537.2.1, bt537.2.2.1, bt537.2.2.2))) else (none))) = some (r1, r2, r3, r4) := H
                  have A98 := Aside0.mk A980
                  clear A980
                  replace H := Option.bind_eq_some_iff.mp H
                  obtain ⟨t536, A990, H⟩ := H
                  replace H : (if t535.size + t536.size ≤ 9223372036854775807 then ((gussetref24_text.f (t535 ++ t536)).bind fun bt537 => (some (bt537.1, bt537.2.1, bt537.2.2.1, bt537.2.2.2))) else (none)) = some (r1, r2, r3, r4) := H
                  have A99 := Aside0.mk A990
                  clear A990
                  by_cases c100 : t535.size + t536.size ≤ 9223372036854775807
                  · rw [if_pos c100] at H
                    have c100b0 := eq_true c100
                    have c100b1 : decide (t535.size + t536.size ≤ 9223372036854775807) = true := decide_eq_true c100
                    try have c100b2 : (9223372036854775807 < t535.size + t536.size) = False := eq_false (Nat.not_lt.2 c100)
                    replace H := Option.bind_eq_some_iff.mp H
                    obtain ⟨⟨t537, t538, t539, t540⟩, A1010, H⟩ := H
                    replace H : (some (t537, t538, t539, t540)) = some (r1, r2, r3, r4) := H
                    have A101 := Aside0.mk A1010
                    clear A1010
                    simp only [Option.some.injEq, Prod.mk.injEq] at H
                    obtain ⟨rfl, rfl, rfl, rfl⟩ := H
                    try go_wp2
                    have n0_ := Aside0.mk (blk_drew BK515.out)
                    have n1_ := Aside0.mk (blk_drew BK516.out)
                    have n2_ := Aside0.mk (blk_drew BK517.out)
                    have n3_ := Aside0.mk (below_drew1 HB.out)
                    clear BK515
                    clear BK516
                    clear BK517
                    clear HB
                    have BK515 := n0_
                    have BK516 := n1_
                    have BK517 := n2_
                    have HB := n3_
                    clear n0_ n1_ n2_ n3_
                    refine start_ (n := 10) (S := fun w' => w'.cell? ⟨gb515, 0, none⟩ = some (.int .i64 a2_0) ∧ w'.cell? ⟨gb515, 1, none⟩ = some (.int .i64 a2_1) ∧ w'.cell? ⟨gb515, 2, none⟩ = some (.string a2_2) ∧ w'.cell? ⟨gb516, 0, none⟩ = some (.int .i64 a3_0) ∧ w'.cell? ⟨gb516, 1, none⟩ = some (.int .i64 a3_1) ∧ w'.cell? ⟨gb516, 2, none⟩ = some (.string a3_2)) (ds := []) #[false, false, false, false, false, false, false, false, false, false] (by kernel_rfl) rfl rfl ⟨(blk_cell BK515.out 0).trans rfl, (blk_cell BK515.out 1).trans rfl, (blk_cell BK515.out 2).trans rfl, (blk_cell BK516.out 0).trans rfl, (blk_cell BK516.out 1).trans rfl, (blk_cell BK516.out 2).trans rfl⟩ (fun hHeld => ?_); refine with_tabW gussetref24_Binary.tab8 gussetref24_Binary.bits8 (fun HT_ HW_ => ?_)
                    generalize wc.drew = w102 at BK515 BK516 BK517 HB hHeld ⊢
                    refine take_ (i := 0) (N := some 67) (v := ?_) (a' := ?_) #[true, false, false, false, false, false, false, false, false, false] rfl rfl (take_ofW HT_.out HW_.out (by kernel_rfl)) (fun _ _ _ h => h) (Or.inl ⟨by rfl, ?_⟩) hHeld ?_ ?_
                    rotate_left
                    · rintro w' ⟨s0, s1, s2, s3, s4, s5⟩
                      go_simp
                      with_reducible rfl
                    rotate_left
                    · simp only [Act.put, List.setIfInBounds_toArray, List.set_cons_zero, List.set_cons_succ, i64_w, i32_w]
                      rfl
                    refine take_ (i := 2) (N := some 69) (v := ?_) (a' := ?_) #[true, false, true, false, false, false, false, false, false, false] rfl rfl (take_ofW HT_.out HW_.out (by kernel_rfl)) (fun _ _ _ h => h) (Or.inl ⟨by rfl, ?_⟩) hHeld ?_ ?_
                    rotate_left
                    · rintro w' ⟨s0, s1, s2, s3, s4, s5⟩
                      go_simp
                      with_reducible rfl
                    rotate_left
                    · simp only [Act.put, List.setIfInBounds_toArray, List.set_cons_zero, List.set_cons_succ, i64_w, i32_w]
                      rfl
                    refine one_ (i := 1) (N := some 68) #[true, true, true, false, false, false, false, false, false, false] rfl rfl (one_of HT_.out (by kernel_rfl)) (by decide) (fun K hK => ?_)
                    refine goes_ Tryd.func53 (by kernel_rfl) rfl #[.agg #[.int .i64 a2_0, .int .i64 a2_1, .string a2_2]] (by rfl) rfl rfl (by (try simp only [List.map_toArray, List.map_cons, List.map_nil]); first | done | rfl | (simp only [List.length_drop, List.length_take]; rfl)) ?_
                    with_reducible refine (gussetref23_Text.calls kj54 a2_0 a2_1 a2_2 t535 _ A98.out).mono ?_
                    rintro e w103 ⟨rfl, hb⟩
                    refine ⟨_, rfl, ?_⟩
                    have n0_ := Aside0.mk (blk_below (g := gb515) (o := .cells #[.int .i64 a2_0, .int .i64 a2_1, .string a2_2] 23 (0, 0)) (by (with_reducible repeat (first | refine blk_drewN ?_ _ | refine blk_drew ?_ | refine blk_alloc ?_ _)); exact BK515.out) hb)
                    have n1_ := Aside0.mk (blk_below (g := gb516) (o := .cells #[.int .i64 a3_0, .int .i64 a3_1, .string a3_2] 23 (0, 0)) (by (with_reducible repeat (first | refine blk_drewN ?_ _ | refine blk_drew ?_ | refine blk_alloc ?_ _)); exact BK516.out) hb)
                    have n2_ := Aside0.mk (blk_below (g := gb517) (o := .cells #[.int .i64 0, .int .i64 0, .string (⟨#[]⟩ : ByteArray)] 23 (0, 0)) (by (with_reducible repeat (first | refine blk_drewN ?_ _ | refine blk_drew ?_ | refine blk_alloc ?_ _)); exact BK517.out) hb)
                    have n3_ := Aside0.mk (below_step (by repeat (first | (with_reducible first | exact HB.out | apply below_alloc | apply pw_below_drewN | apply below_drew1 | refine below_set ?_ GE515.out | refine below_set ?_ GE516.out | refine below_set ?_ GE517.out) | exact HB.out)) hb)
                    clear BK515
                    clear BK516
                    clear BK517
                    clear HB
                    have BK515 := n0_
                    have BK516 := n1_
                    have BK517 := n2_
                    have HB := n3_
                    clear n0_ n1_ n2_ n3_
                    (try clear hb)
                    (try clear hb2)
                    (try clear hk)
                    (try clear hi)
                    refine hK.out _ _ ⟨(blk_cell BK515.out 0).trans rfl, (blk_cell BK515.out 1).trans rfl, (blk_cell BK515.out 2).trans rfl, (blk_cell BK516.out 0).trans rfl, (blk_cell BK516.out 1).trans rfl, (blk_cell BK516.out 2).trans rfl⟩ (fun hHeld => ?_)
                    clear hK K
                    refine norm_ (a' := ?_) ?_ ?_
                    rotate_left
                    · show Act.put _ (some 68) _ = _
                      simp only [Act.put, List.setIfInBounds_toArray, List.set_cons_zero, List.set_cons_succ, i64_w, i32_w]
                      rfl
                    refine one_ (i := 3) (N := some 70) #[true, true, true, true, false, false, false, false, false, false] rfl rfl (one_of HT_.out (by kernel_rfl)) (by decide) (fun K hK => ?_)
                    refine goes_ Tryd.func53 (by kernel_rfl) rfl #[.agg #[.int .i64 a3_0, .int .i64 a3_1, .string a3_2]] (by rfl) rfl rfl (by (try simp only [List.map_toArray, List.map_cons, List.map_nil]); first | done | rfl | (simp only [List.length_drop, List.length_take]; rfl)) ?_
                    with_reducible refine (gussetref23_Text.calls kj54 a3_0 a3_1 a3_2 t536 _ A99.out).mono ?_
                    rintro e w104 ⟨rfl, hb⟩
                    refine ⟨_, rfl, ?_⟩
                    have n0_ := Aside0.mk (blk_below (g := gb515) (o := .cells #[.int .i64 a2_0, .int .i64 a2_1, .string a2_2] 23 (0, 0)) (by (with_reducible repeat (first | refine blk_drewN ?_ _ | refine blk_drew ?_ | refine blk_alloc ?_ _)); exact BK515.out) hb)
                    have n1_ := Aside0.mk (blk_below (g := gb516) (o := .cells #[.int .i64 a3_0, .int .i64 a3_1, .string a3_2] 23 (0, 0)) (by (with_reducible repeat (first | refine blk_drewN ?_ _ | refine blk_drew ?_ | refine blk_alloc ?_ _)); exact BK516.out) hb)
                    have n2_ := Aside0.mk (blk_below (g := gb517) (o := .cells #[.int .i64 0, .int .i64 0, .string (⟨#[]⟩ : ByteArray)] 23 (0, 0)) (by (with_reducible repeat (first | refine blk_drewN ?_ _ | refine blk_drew ?_ | refine blk_alloc ?_ _)); exact BK517.out) hb)
                    have n3_ := Aside0.mk (below_step (by repeat (first | (with_reducible first | exact HB.out | apply below_alloc | apply pw_below_drewN | apply below_drew1 | refine below_set ?_ GE515.out | refine below_set ?_ GE516.out | refine below_set ?_ GE517.out) | exact HB.out)) hb)
                    clear BK515
                    clear BK516
                    clear BK517
                    clear HB
                    have BK515 := n0_
                    have BK516 := n1_
                    have BK517 := n2_
                    have HB := n3_
                    clear n0_ n1_ n2_ n3_
                    (try clear hb)
                    (try clear hb2)
                    (try clear hk)
                    (try clear hi)
                    refine hK.out _ _ ⟨(blk_cell BK515.out 0).trans rfl, (blk_cell BK515.out 1).trans rfl, (blk_cell BK515.out 2).trans rfl, (blk_cell BK516.out 0).trans rfl, (blk_cell BK516.out 1).trans rfl, (blk_cell BK516.out 2).trans rfl⟩ (fun hHeld => ?_)
                    clear hK K
                    refine norm_ (a' := ?_) ?_ ?_
                    rotate_left
                    · show Act.put _ (some 70) _ = _
                      simp only [Act.put, List.setIfInBounds_toArray, List.set_cons_zero, List.set_cons_succ, i64_w, i32_w]
                      rfl
                    refine pure_ (i := 4) (N := some 71) (v := ?_) (a' := ?_) #[true, true, true, true, true, false, false, false, false, false] rfl rfl (any_of HT_.out (by kernel_rfl)) (fun _ _ _ h => h) (Or.inl ⟨by rfl, ?_⟩) ?_ ?_
                    rotate_left
                    · intro w'
                      go_simp
                      with_reducible rfl
                    rotate_left
                    · simp only [Act.put, List.setIfInBounds_toArray, List.set_cons_zero, List.set_cons_succ, i64_w, i32_w]
                      rfl
                    refine one_ (i := 5) (N := some 72) #[true, true, true, true, true, true, false, false, false, false] rfl rfl (one_of HT_.out (by kernel_rfl)) (by decide) (fun K hK => ?_)
                    refine goes_ Tryd.func52 (by kernel_rfl) rfl #[.string (t535 ++ t536)] (by rfl) rfl rfl (by (try simp only [List.map_toArray, List.map_cons, List.map_nil]); first | done | rfl | (simp only [List.length_drop, List.length_take]; rfl)) ?_
                    with_reducible refine (gussetref24_text.calls (t535 ++ t536) t537 t538 t539 t540 _ A101.out).mono ?_
                    rintro e w105 ⟨rfl, hb⟩
                    refine ⟨_, rfl, ?_⟩
                    have n0_ := Aside0.mk (blk_below (g := gb515) (o := .cells #[.int .i64 a2_0, .int .i64 a2_1, .string a2_2] 23 (0, 0)) (by (with_reducible repeat (first | refine blk_drewN ?_ _ | refine blk_drew ?_ | refine blk_alloc ?_ _)); exact BK515.out) hb)
                    have n1_ := Aside0.mk (blk_below (g := gb516) (o := .cells #[.int .i64 a3_0, .int .i64 a3_1, .string a3_2] 23 (0, 0)) (by (with_reducible repeat (first | refine blk_drewN ?_ _ | refine blk_drew ?_ | refine blk_alloc ?_ _)); exact BK516.out) hb)
                    have n2_ := Aside0.mk (blk_below (g := gb517) (o := .cells #[.int .i64 0, .int .i64 0, .string (⟨#[]⟩ : ByteArray)] 23 (0, 0)) (by (with_reducible repeat (first | refine blk_drewN ?_ _ | refine blk_drew ?_ | refine blk_alloc ?_ _)); exact BK517.out) hb)
                    have n3_ := Aside0.mk (below_step (by repeat (first | (with_reducible first | exact HB.out | apply below_alloc | apply pw_below_drewN | apply below_drew1 | refine below_set ?_ GE515.out | refine below_set ?_ GE516.out | refine below_set ?_ GE517.out) | exact HB.out)) hb)
                    clear BK515
                    clear BK516
                    clear BK517
                    clear HB
                    have BK515 := n0_
                    have BK516 := n1_
                    have BK517 := n2_
                    have HB := n3_
                    clear n0_ n1_ n2_ n3_
                    (try clear hb)
                    (try clear hb2)
                    (try clear hk)
                    (try clear hi)
                    refine hK.out _ _ ⟨(blk_cell BK515.out 0).trans rfl, (blk_cell BK515.out 1).trans rfl, (blk_cell BK515.out 2).trans rfl, (blk_cell BK516.out 0).trans rfl, (blk_cell BK516.out 1).trans rfl, (blk_cell BK516.out 2).trans rfl⟩ (fun hHeld => ?_)
                    clear hK K
                    refine norm_ (a' := ?_) ?_ ?_
                    rotate_left
                    · show Act.put _ (some 72) _ = _
                      simp only [Act.put, List.setIfInBounds_toArray, List.set_cons_zero, List.set_cons_succ, i64_w, i32_w]
                      rfl
                    refine pure_ (i := 6) (N := some 73) (v := ?_) (a' := ?_) #[true, true, true, true, true, true, true, false, false, false] rfl rfl (any_of HT_.out (by kernel_rfl)) (fun _ _ _ h => h) (Or.inl ⟨by rfl, ?_⟩) ?_ ?_
                    rotate_left
                    · intro w'
                      go_simp
                      with_reducible rfl
                    rotate_left
                    · simp only [Act.put, List.setIfInBounds_toArray, List.set_cons_zero, List.set_cons_succ, i64_w, i32_w]
                      rfl
                    refine pure_ (i := 7) (N := some 74) (v := ?_) (a' := ?_) #[true, true, true, true, true, true, true, true, false, false] rfl rfl (any_of HT_.out (by kernel_rfl)) (fun _ _ _ h => h) (Or.inl ⟨by rfl, ?_⟩) ?_ ?_
                    rotate_left
                    · intro w'
                      go_simp
                      with_reducible rfl
                    rotate_left
                    · simp only [Act.put, List.setIfInBounds_toArray, List.set_cons_zero, List.set_cons_succ, i64_w, i32_w]
                      rfl
                    refine one_ (i := 8) (N := none) #[true, true, true, true, true, true, true, true, true, false] rfl rfl (one_of HT_.out (by kernel_rfl)) (by decide) (fun K hK => ?_)
                    have hs106 : w105.cell? ⟨gb517, 0, none⟩ = some (.int .i64 0) := (blk_cell BK517.out 0).trans rfl
                    have hfs106 := blk_frozen BK517.out 0
                    have hns106_0 := NB515_517.out
                    have hns106_1 := NB516_517.out
                    have hms106_0 := NB517_515.out
                    have hms106_1 := NB517_516.out
                    have hs107 : w105.cell? ⟨gb517, 1, none⟩ = some (.int .i64 0) := (blk_cell BK517.out 1).trans rfl
                    have hfs107 := blk_frozen BK517.out 1
                    have hns107_0 := NB515_517.out
                    have hns107_1 := NB516_517.out
                    have hms107_0 := NB517_515.out
                    have hms107_1 := NB517_516.out
                    have hs108 : w105.cell? ⟨gb517, 2, none⟩ = some (.string (⟨#[]⟩ : ByteArray)) := (blk_cell BK517.out 2).trans rfl
                    have hfs108 := blk_frozen BK517.out 2
                    have hns108_0 := NB515_517.out
                    have hns108_1 := NB516_517.out
                    have hms108_0 := NB517_515.out
                    have hms108_1 := NB517_516.out
                    refine skip_ (w1 := ?_) (by rfl) rfl ?_ ?_
                    rotate_left
                    · go_simp
                      rfl
                    refine hK.out _ _ ⟨((cell_far (p := ⟨gb517, _, none⟩) NB515_517.out _).trans (((cell_far (p := ⟨gb517, _, none⟩) NB515_517.out _).trans (((cell_far (p := ⟨gb517, _, none⟩) NB515_517.out _).trans (hHeld.1)))))), ((cell_far (p := ⟨gb517, _, none⟩) NB515_517.out _).trans (((cell_far (p := ⟨gb517, _, none⟩) NB515_517.out _).trans (((cell_far (p := ⟨gb517, _, none⟩) NB515_517.out _).trans (hHeld.2.1)))))), ((cell_far (p := ⟨gb517, _, none⟩) NB515_517.out _).trans (((cell_far (p := ⟨gb517, _, none⟩) NB515_517.out _).trans (((cell_far (p := ⟨gb517, _, none⟩) NB515_517.out _).trans (hHeld.2.2.1)))))), ((cell_far (p := ⟨gb517, _, none⟩) NB516_517.out _).trans (((cell_far (p := ⟨gb517, _, none⟩) NB516_517.out _).trans (((cell_far (p := ⟨gb517, _, none⟩) NB516_517.out _).trans (hHeld.2.2.2.1)))))), ((cell_far (p := ⟨gb517, _, none⟩) NB516_517.out _).trans (((cell_far (p := ⟨gb517, _, none⟩) NB516_517.out _).trans (((cell_far (p := ⟨gb517, _, none⟩) NB516_517.out _).trans (hHeld.2.2.2.2.1)))))), ((cell_far (p := ⟨gb517, _, none⟩) NB516_517.out _).trans (((cell_far (p := ⟨gb517, _, none⟩) NB516_517.out _).trans (((cell_far (p := ⟨gb517, _, none⟩) NB516_517.out _).trans (hHeld.2.2.2.2.2))))))⟩ (fun hHeld => ?_)
                    clear hK K
                    refine pure_ (i := 9) (N := some 9) (v := ?_) (a' := ?_) #[true, true, true, true, true, true, true, true, true, true] rfl rfl (any_of HT_.out (by kernel_rfl)) (fun _ _ _ h => h) (Or.inl ⟨by rfl, ?_⟩) ?_ ?_
                    rotate_left
                    · intro w'
                      go_simp
                      with_reducible rfl
                    rotate_left
                    · simp only [Act.put, List.setIfInBounds_toArray, List.set_cons_zero, List.set_cons_succ, i64_w, i32_w]
                      rfl
                    refine done_ (done_of HT_.out (by kernel_rfl)) ?_
                    try go_wp2
                    refine bodyPost_ret (results_ct rfl _ _ gb517 23 #[.int .i64 t537, .int .i64 t538, .string t539] (0, 0) _ rfl (by (with_reducible repeat (first | refine blk_drewN ?_ _ | refine blk_drew ?_ | refine blk_alloc ?_ _)); refine blk_put (cs := #[.int .i64 t537, .int .i64 t538, .string (⟨#[]⟩ : ByteArray)]) ?_ 2 _ rfl; (with_reducible repeat (first | refine blk_drewN ?_ _ | refine blk_drew ?_ | refine blk_alloc ?_ _)); refine blk_put (cs := #[.int .i64 t537, .int .i64 0, .string (⟨#[]⟩ : ByteArray)]) ?_ 1 _ rfl; (with_reducible repeat (first | refine blk_drewN ?_ _ | refine blk_drew ?_ | refine blk_alloc ?_ _)); refine blk_put (cs := #[.int .i64 0, .int .i64 0, .string (⟨#[]⟩ : ByteArray)]) ?_ 0 _ rfl; (with_reducible repeat (first | refine blk_drewN ?_ _ | refine blk_drew ?_ | refine blk_alloc ?_ _)); exact BK517.out) Tryd.underlying23 rfl (by kernel_rfl)) rfl ?_
                    exact ⟨by first | rfl | (simp [errW_none, errW_some] <;> rfl) | (simp [*, errW_none, errW_some] <;> rfl), by repeat (first | (with_reducible first | exact HB.out | apply below_alloc | apply pw_below_drewN | apply below_drew1 | refine below_set ?_ GE515.out | refine below_set ?_ GE516.out | refine below_set ?_ GE517.out) | exact HB.out)⟩
                  · rw [if_neg c100] at H
                    exact absurd H (by simp)
                · replace c97 := Bool.eq_false_iff.mpr c97
                  subst c97
                  have H1 : (if a2_0 = 4 then (gussetref24_Binary.j2 kj54 a1 (a3_0 == 4) a2_0 a2_1 a2_2 a3_0 a3_1 a3_2) else (gussetref24_Binary.j2 kj54 a1 false a2_0 a2_1 a2_2 a3_0 a3_1 a3_2)) = some (r1, r2, r3, r4) := by rw [if_neg (show ¬ (false = true) by decide)] at H; exact H
                  clear H
                  have H := H1
                  clear H1
                  have HC109 := Aside0.mk H
                  clear H
                  go_upto_region 9 with (fail)
                  go_cut [75] (fun v75 wc => ∃ (kq : Nat) (x75_108 : Bool), v75 = .bool x75_108 ∧ Aside0 (gussetref24_Binary.j2 kq a1 x75_108 a2_0 a2_1 a2_2 a3_0 a3_1 a3_2 = some (r1, r2, r3, r4)) ∧ Aside0 (kq ≤ kj54) ∧ Aside0 (wc.heap[gb515]? = some (.cells #[.int .i64 a2_0, .int .i64 a2_1, .string a2_2] 23 (0, 0))) ∧ Aside0 (wc.heap[gb516]? = some (.cells #[.int .i64 a3_0, .int .i64 a3_1, .string a3_2] 23 (0, 0))) ∧ Aside0 (wc.heap[gb517]? = some (.cells #[.int .i64 0, .int .i64 0, .string (⟨#[]⟩ : ByteArray)] 23 (0, 0))) ∧ Aside0 (Below w.heap.size w wc))
                  case first =>
                    have H := HC109.out
                    clear HC109
                    by_cases c110 : a2_0 = 4
                    · rw [if_pos c110] at H
                      have c110b0 : (a2_0 == 4) = true := beq_iff_eq.mpr c110
                      have c110b1 : (a2_0 != 4) = false := bne_eq_false_iff_eq.mpr c110
                      clear c110
                      (first | rw [c110b0] | (simp only [i64_w, i32_w]; rw [c110b0]) | skip)
                      have H' := Aside0.mk H
                      clear H
                      have hnb111 := NB515_516.out
                      have hnc111 := NB516_515.out
                      have hnb112 := NB515_517.out
                      have hnc112 := NB517_515.out
                      have hcz113_0 : wc.cell? ⟨gb515, 0, none⟩ = some (.int .i64 a2_0) := (blk_cell BK515.out 0).trans rfl
                      have hcz113_1 : wc.cell? ⟨gb515, 1, none⟩ = some (.int .i64 a2_1) := (blk_cell BK515.out 1).trans rfl
                      have hcz113_2 : wc.cell? ⟨gb515, 2, none⟩ = some (.string a2_2) := (blk_cell BK515.out 2).trans rfl
                      have hfz113_0 := blk_frozen BK515.out 0
                      have hfz113_1 := blk_frozen BK515.out 1
                      have hfz113_2 := blk_frozen BK515.out 2
                      have hnb114 := NB516_517.out
                      have hnc114 := NB517_516.out
                      have hcz115_0 : wc.cell? ⟨gb516, 0, none⟩ = some (.int .i64 a3_0) := (blk_cell BK516.out 0).trans rfl
                      have hcz115_1 : wc.cell? ⟨gb516, 1, none⟩ = some (.int .i64 a3_1) := (blk_cell BK516.out 1).trans rfl
                      have hcz115_2 : wc.cell? ⟨gb516, 2, none⟩ = some (.string a3_2) := (blk_cell BK516.out 2).trans rfl
                      have hfz115_0 := blk_frozen BK516.out 0
                      have hfz115_1 := blk_frozen BK516.out 1
                      have hfz115_2 := blk_frozen BK516.out 2
                      go_wp2
                      go_meet
                      case rel => exact ⟨_, ((a3_0 == 4)), (by first | rfl | (simp; done) | (simp [*]; done)), H', ⟨by have := HJ32.out; have := HJ54.out; first | omega | exact Nat.le_refl _⟩, ⟨by (with_reducible repeat (first | refine blk_drewN ?_ _ | refine blk_drew ?_ | refine blk_alloc ?_ _)); exact BK515.out⟩, ⟨by (with_reducible repeat (first | refine blk_drewN ?_ _ | refine blk_drew ?_ | refine blk_alloc ?_ _)); exact BK516.out⟩, ⟨by (with_reducible repeat (first | refine blk_drewN ?_ _ | refine blk_drew ?_ | refine blk_alloc ?_ _)); exact BK517.out⟩, ⟨by repeat (first | (with_reducible first | exact HB.out | apply below_alloc | apply pw_below_drewN | apply below_drew1 | refine below_set ?_ GE515.out | refine below_set ?_ GE516.out | refine below_set ?_ GE517.out) | exact HB.out)⟩⟩
                    · rw [if_neg c110] at H
                      have c110b0 : (a2_0 == 4) = false := beq_eq_false_iff_ne.mpr c110
                      have c110b1 : (a2_0 != 4) = true := bne_iff_ne.mpr c110
                      (first | rw [c110b0] | (simp only [i64_w, i32_w]; rw [c110b0]) | skip)
                      have H' := Aside0.mk H
                      clear H
                      have hnb116 := NB515_516.out
                      have hnc116 := NB516_515.out
                      have hnb117 := NB515_517.out
                      have hnc117 := NB517_515.out
                      have hcz118_0 : wc.cell? ⟨gb515, 0, none⟩ = some (.int .i64 a2_0) := (blk_cell BK515.out 0).trans rfl
                      have hcz118_1 : wc.cell? ⟨gb515, 1, none⟩ = some (.int .i64 a2_1) := (blk_cell BK515.out 1).trans rfl
                      have hcz118_2 : wc.cell? ⟨gb515, 2, none⟩ = some (.string a2_2) := (blk_cell BK515.out 2).trans rfl
                      have hfz118_0 := blk_frozen BK515.out 0
                      have hfz118_1 := blk_frozen BK515.out 1
                      have hfz118_2 := blk_frozen BK515.out 2
                      go_wp2
                      go_meet
                      case rel => exact ⟨_, (false), (by first | rfl | (simp; done) | (simp [*]; done)), H', ⟨by have := HJ32.out; have := HJ54.out; first | omega | exact Nat.le_refl _⟩, ⟨by (with_reducible repeat (first | refine blk_drewN ?_ _ | refine blk_drew ?_ | refine blk_alloc ?_ _)); exact BK515.out⟩, ⟨by (with_reducible repeat (first | refine blk_drewN ?_ _ | refine blk_drew ?_ | refine blk_alloc ?_ _)); exact BK516.out⟩, ⟨by (with_reducible repeat (first | refine blk_drewN ?_ _ | refine blk_drew ?_ | refine blk_alloc ?_ _)); exact BK517.out⟩, ⟨by repeat (first | (with_reducible first | exact HB.out | apply below_alloc | apply pw_below_drewN | apply below_drew1 | refine below_set ?_ GE515.out | refine below_set ?_ GE516.out | refine below_set ?_ GE517.out) | exact HB.out)⟩⟩
                  case rest =>
                    clear HC109
                    try clear c1
                    try clear c2
                    try clear p2
                    try clear c3
                    try clear c4
                    try clear c5
                    try clear c5b0
                    try clear c5b1
                    try clear c6
                    try clear c7
                    try clear c8
                    try clear c9
                    try clear c10
                    try clear c11
                    try clear c12
                    try clear c14
                    try clear c16
                    try clear c19
                    try clear c19b0
                    try clear c19b1
                    try clear c25
                    try clear c26
                    try clear c28
                    try clear c33
                    try clear c37
                    try clear c37b0
                    try clear c37b1
                    try clear c38
                    try clear c39
                    try clear c41
                    try clear c43
                    try clear c44
                    try clear c46
                    try clear c48
                    try clear c49
                    try clear c50
                    try clear c51
                    try clear c52
                    try clear c53
                    try clear c56
                    try clear c56b0
                    try clear c56b1
                    try clear c57
                    try clear c57b0
                    try clear c57b1
                    try clear c59
                    try clear c60
                    try clear c61
                    try clear c63
                    try clear c66
                    try clear c66b0
                    try clear c66b1
                    try clear c68
                    try clear c69
                    try clear c71
                    try clear c77
                    try clear c78
                    try clear c80
                    try clear c84
                    try clear c84b0
                    try clear c84b1
                    try clear c86
                    try clear c87
                    try clear c89
                    try clear c92
                    try clear c93
                    try clear c95
                    try clear c97
                    try clear c100
                    try clear c100b0
                    try clear c100b1
                    try clear c100b2
                    try clear c110
                    try clear c110b0
                    try clear c110b1
                    try clear c111
                    try clear c112
                    try clear c114
                    try clear c116
                    try clear c117
                    try clear hcz113_0
                    try clear hcz113_1
                    try clear hcz113_2
                    try clear hcz115_0
                    try clear hcz115_1
                    try clear hcz115_2
                    try clear hcz118_0
                    try clear hcz118_1
                    try clear hcz118_2
                    try clear hcz13_0
                    try clear hcz13_1
                    try clear hcz13_2
                    try clear hcz15_0
                    try clear hcz15_1
                    try clear hcz15_2
                    try clear hcz18_0
                    try clear hcz18_1
                    try clear hcz18_2
                    try clear hcz27_0
                    try clear hcz27_1
                    try clear hcz27_2
                    try clear hcz29_0
                    try clear hcz29_1
                    try clear hcz29_2
                    try clear hcz32_0
                    try clear hcz32_1
                    try clear hcz32_2
                    try clear hcz40_0
                    try clear hcz40_1
                    try clear hcz40_2
                    try clear hcz42_0
                    try clear hcz42_1
                    try clear hcz42_2
                    try clear hcz45_0
                    try clear hcz45_1
                    try clear hcz45_2
                    try clear hcz50_0
                    try clear hcz50_1
                    try clear hcz50_2
                    try clear hcz52_0
                    try clear hcz52_1
                    try clear hcz52_2
                    try clear hcz54_0
                    try clear hcz54_1
                    try clear hcz54_2
                    try clear hcz62_0
                    try clear hcz62_1
                    try clear hcz62_2
                    try clear hcz64_0
                    try clear hcz64_1
                    try clear hcz64_2
                    try clear hcz70_0
                    try clear hcz70_1
                    try clear hcz70_2
                    try clear hcz72_0
                    try clear hcz72_1
                    try clear hcz72_2
                    try clear hcz74_0
                    try clear hcz74_1
                    try clear hcz74_2
                    try clear hcz75_0
                    try clear hcz75_1
                    try clear hcz75_2
                    try clear hcz79_0
                    try clear hcz79_1
                    try clear hcz79_2
                    try clear hcz81_0
                    try clear hcz81_1
                    try clear hcz81_2
                    try clear hcz83_0
                    try clear hcz83_1
                    try clear hcz83_2
                    try clear hcz88_0
                    try clear hcz88_1
                    try clear hcz88_2
                    try clear hcz90_0
                    try clear hcz90_1
                    try clear hcz90_2
                    try clear hcz94_0
                    try clear hcz94_1
                    try clear hcz94_2
                    try clear hcz96_0
                    try clear hcz96_1
                    try clear hcz96_2
                    try clear hfz113_0
                    try clear hfz113_1
                    try clear hfz113_2
                    try clear hfz115_0
                    try clear hfz115_1
                    try clear hfz115_2
                    try clear hfz118_0
                    try clear hfz118_1
                    try clear hfz118_2
                    try clear hfz13_0
                    try clear hfz13_1
                    try clear hfz13_2
                    try clear hfz15_0
                    try clear hfz15_1
                    try clear hfz15_2
                    try clear hfz18_0
                    try clear hfz18_1
                    try clear hfz18_2
                    try clear hfz27_0
                    try clear hfz27_1
                    try clear hfz27_2
                    try clear hfz29_0
                    try clear hfz29_1
                    try clear hfz29_2
                    try clear hfz32_0
                    try clear hfz32_1
                    try clear hfz32_2
                    try clear hfz40_0
                    try clear hfz40_1
                    try clear hfz40_2
                    try clear hfz42_0
                    try clear hfz42_1
                    try clear hfz42_2
                    try clear hfz45_0
                    try clear hfz45_1
                    try clear hfz45_2
                    try clear hfz50_0
                    try clear hfz50_1
                    try clear hfz50_2
                    try clear hfz52_0
                    try clear hfz52_1
                    try clear hfz52_2
                    try clear hfz54_0
                    try clear hfz54_1
                    try clear hfz54_2
                    try clear hfz62_0
                    try clear hfz62_1
                    try clear hfz62_2
                    try clear hfz64_0
                    try clear hfz64_1
                    try clear hfz64_2
                    try clear hfz70_0
                    try clear hfz70_1
                    try clear hfz70_2
                    try clear hfz72_0
                    try clear hfz72_1
                    try clear hfz72_2
                    try clear hfz74_0
                    try clear hfz74_1
                    try clear hfz74_2
                    try clear hfz75_0
                    try clear hfz75_1
                    try clear hfz75_2
                    try clear hfz79_0
                    try clear hfz79_1
                    try clear hfz79_2
                    try clear hfz81_0
                    try clear hfz81_1
                    try clear hfz81_2
                    try clear hfz83_0
                    try clear hfz83_1
                    try clear hfz83_2
                    try clear hfz88_0
                    try clear hfz88_1
                    try clear hfz88_2
                    try clear hfz90_0
                    try clear hfz90_1
                    try clear hfz90_2
                    try clear hfz94_0
                    try clear hfz94_1
                    try clear hfz94_2
                    try clear hfz96_0
                    try clear hfz96_1
                    try clear hfz96_2
                    try clear p2
                    obtain ⟨kq, x75_108, rfl, HA, HJ108, BK515, BK516, BK517, HB⟩ := hcut
                    cases kq with
                    | zero => exact absurd HA.out (by simp [gussetref24_Binary.j2])
                    | succ kj108 =>
                      have H := HA.out
                      clear HA
                      simp only [gussetref24_Binary.j2] at H
                      by_cases c119 : x75_108 = true
                      · subst c119
                        have H1 : (if a1.toList = ([60] : List UInt8) then ((gussetref24_truth.f (Op.bytesLess a2_2.toList a3_2.toList)).bind fun bt541 => (some (bt541.1, bt541.2.1, bt541.2.2.1, bt541.2.2.2))) else (if a1.toList = ([60, 61] : List UInt8) then ((gussetref24_truth.f (!(Op.bytesLess a3_2.toList a2_2.toList))).bind fun bt545 => (some (bt545.1, bt545.2.1, bt545.2.2.1, bt545.2.2.2))) else (if a1.toList = ([62] : List UInt8) then ((gussetref24_truth.f (Op.bytesLess a3_2.toList a2_2.toList)).bind fun bt549 => (some (bt549.1, bt549.2.1, bt549.2.2.1, bt549.2.2.2))) else (if a1.toList = ([62, 61] : List UInt8) then ((gussetref24_truth.f (!(Op.bytesLess a2_2.toList a3_2.toList))).bind fun bt553 => (some (bt553.1, bt553.2.1, bt553.2.2.1, bt553.2.2.2))) else ((gussetref24_wrong.f).bind fun bt557 => (some (bt557.1, bt557.2.1, bt557.2.2.1, bt557.2.2.2))))))) = some (r1, r2, r3, r4) := by rw [if_pos rfl] at H; exact H
                        clear H
                        have H := H1
                        clear H1
                        by_cases c120 : a1.toList = ([60] : List UInt8)
                        · rw [if_pos c120] at H
                          have c120b0 : (a1.toList == ([60] : List UInt8)) = true := beq_iff_eq.mpr c120
                          have c120b1 : (a1.toList != ([60] : List UInt8)) = false := bne_eq_false_iff_eq.mpr c120
                          clear c120
                          replace H := Option.bind_eq_some_iff.mp H
                          obtain ⟨⟨t541, t542, t543, t544⟩, A1210, H⟩ := H
                          replace H : (some (t541, t542, t543, t544)) = some (r1, r2, r3, r4) := H
                          have A121 := Aside0.mk A1210
                          clear A1210
                          simp only [Option.some.injEq, Prod.mk.injEq] at H
                          obtain ⟨rfl, rfl, rfl, rfl⟩ := H
                          have hnb122 := NB515_516.out
                          have hnc122 := NB516_515.out
                          have hnb123 := NB515_517.out
                          have hnc123 := NB517_515.out
                          have hcz124_0 : wc.cell? ⟨gb515, 0, none⟩ = some (.int .i64 a2_0) := (blk_cell BK515.out 0).trans rfl
                          have hcz124_1 : wc.cell? ⟨gb515, 1, none⟩ = some (.int .i64 a2_1) := (blk_cell BK515.out 1).trans rfl
                          have hcz124_2 : wc.cell? ⟨gb515, 2, none⟩ = some (.string a2_2) := (blk_cell BK515.out 2).trans rfl
                          have hfz124_0 := blk_frozen BK515.out 0
                          have hfz124_1 := blk_frozen BK515.out 1
                          have hfz124_2 := blk_frozen BK515.out 2
                          have hnb125 := NB516_517.out
                          have hnc125 := NB517_516.out
                          have hcz126_0 : wc.cell? ⟨gb516, 0, none⟩ = some (.int .i64 a3_0) := (blk_cell BK516.out 0).trans rfl
                          have hcz126_1 : wc.cell? ⟨gb516, 1, none⟩ = some (.int .i64 a3_1) := (blk_cell BK516.out 1).trans rfl
                          have hcz126_2 : wc.cell? ⟨gb516, 2, none⟩ = some (.string a3_2) := (blk_cell BK516.out 2).trans rfl
                          have hfz126_0 := blk_frozen BK516.out 0
                          have hfz126_1 := blk_frozen BK516.out 1
                          have hfz126_2 := blk_frozen BK516.out 2
                          go_wp2_with (first | ((with_reducible refine gate_callee (f := 33) rfl ?_); refine goesL_ (some 92) rfl rfl Tryd.func33 (by kernel_rfl) rfl #[.bool (Op.bytesLess a2_2.toList a3_2.toList)] rfl (by (try simp only [List.map_toArray, List.map_cons, List.map_nil]); first | done | rfl | (simp only [List.length_drop, List.length_take]; rfl)) ?_; (with_reducible refine (gussetref24_truth.calls (Op.bytesLess a2_2.toList a3_2.toList) t541 t542 t543 t544 _ A121.out).mono ?_); rintro e w127 ⟨rfl, hb⟩; refine ⟨_, rfl, ?_⟩; have n0_ := Aside0.mk (blk_below (g := gb515) (o := .cells #[.int .i64 a2_0, .int .i64 a2_1, .string a2_2] 23 (0, 0)) (by (with_reducible repeat (first | refine blk_drewN ?_ _ | refine blk_drew ?_ | refine blk_alloc ?_ _)); exact BK515.out) hb); have n1_ := Aside0.mk (blk_below (g := gb516) (o := .cells #[.int .i64 a3_0, .int .i64 a3_1, .string a3_2] 23 (0, 0)) (by (with_reducible repeat (first | refine blk_drewN ?_ _ | refine blk_drew ?_ | refine blk_alloc ?_ _)); exact BK516.out) hb); have n2_ := Aside0.mk (blk_below (g := gb517) (o := .cells #[.int .i64 0, .int .i64 0, .string (⟨#[]⟩ : ByteArray)] 23 (0, 0)) (by (with_reducible repeat (first | refine blk_drewN ?_ _ | refine blk_drew ?_ | refine blk_alloc ?_ _)); exact BK517.out) hb); have n3_ := Aside0.mk (below_step (by repeat (first | (with_reducible first | exact HB.out | apply below_alloc | apply pw_below_drewN | apply below_drew1 | refine below_set ?_ GE515.out | refine below_set ?_ GE516.out | refine below_set ?_ GE517.out) | exact HB.out)) hb); clear BK515; clear BK516; clear BK517; clear HB; have BK515 := n0_; have BK516 := n1_; have BK517 := n2_; have HB := n3_; clear n0_ n1_ n2_ n3_; (try clear hb); (try clear hb2); (try clear hk); (try clear hi); have hcz128_0 : w127.cell? ⟨gb517, 0, none⟩ = some (.int .i64 0) := (blk_cell BK517.out 0).trans rfl; have hcz128_1 : w127.cell? ⟨gb517, 1, none⟩ = some (.int .i64 0) := (blk_cell BK517.out 1).trans rfl; have hcz128_2 : w127.cell? ⟨gb517, 2, none⟩ = some (.string (⟨#[]⟩ : ByteArray)) := (blk_cell BK517.out 2).trans rfl; have hfz128_0 := blk_frozen BK517.out 0; have hfz128_1 := blk_frozen BK517.out 1; have hfz128_2 := blk_frozen BK517.out 2))
                          refine bodyPost_ret (results_ct rfl _ _ gb517 23 #[.int .i64 t541, .int .i64 t542, .string t543] (0, 0) _ rfl (by (with_reducible repeat (first | refine blk_drewN ?_ _ | refine blk_drew ?_ | refine blk_alloc ?_ _)); refine blk_put (cs := #[.int .i64 t541, .int .i64 t542, .string (⟨#[]⟩ : ByteArray)]) ?_ 2 _ rfl; (with_reducible repeat (first | refine blk_drewN ?_ _ | refine blk_drew ?_ | refine blk_alloc ?_ _)); refine blk_put (cs := #[.int .i64 t541, .int .i64 0, .string (⟨#[]⟩ : ByteArray)]) ?_ 1 _ rfl; (with_reducible repeat (first | refine blk_drewN ?_ _ | refine blk_drew ?_ | refine blk_alloc ?_ _)); refine blk_put (cs := #[.int .i64 0, .int .i64 0, .string (⟨#[]⟩ : ByteArray)]) ?_ 0 _ rfl; (with_reducible repeat (first | refine blk_drewN ?_ _ | refine blk_drew ?_ | refine blk_alloc ?_ _)); exact BK517.out) Tryd.underlying23 rfl (by kernel_rfl)) rfl ?_
                          exact ⟨by first | rfl | (simp [errW_none, errW_some] <;> rfl) | (simp [*, errW_none, errW_some] <;> rfl), by repeat (first | (with_reducible first | exact HB.out | apply below_alloc | apply pw_below_drewN | apply below_drew1 | refine below_set ?_ GE515.out | refine below_set ?_ GE516.out | refine below_set ?_ GE517.out) | exact HB.out)⟩
                        · rw [if_neg c120] at H
                          have c120b0 : (a1.toList == ([60] : List UInt8)) = false := beq_eq_false_iff_ne.mpr c120
                          have c120b1 : (a1.toList != ([60] : List UInt8)) = true := bne_iff_ne.mpr c120
                          by_cases c129 : a1.toList = ([60, 61] : List UInt8)
                          · rw [if_pos c129] at H
                            have c129b0 : (a1.toList == ([60, 61] : List UInt8)) = true := beq_iff_eq.mpr c129
                            have c129b1 : (a1.toList != ([60, 61] : List UInt8)) = false := bne_eq_false_iff_eq.mpr c129
                            clear c129
                            replace H := Option.bind_eq_some_iff.mp H
                            obtain ⟨⟨t545, t546, t547, t548⟩, A1300, H⟩ := H
                            replace H : (some (t545, t546, t547, t548)) = some (r1, r2, r3, r4) := H
                            have A130 := Aside0.mk A1300
                            clear A1300
                            simp only [Option.some.injEq, Prod.mk.injEq] at H
                            obtain ⟨rfl, rfl, rfl, rfl⟩ := H
                            have hnb131 := NB515_516.out
                            have hnc131 := NB516_515.out
                            have hnb132 := NB515_517.out
                            have hnc132 := NB517_515.out
                            have hcz133_0 : wc.cell? ⟨gb515, 0, none⟩ = some (.int .i64 a2_0) := (blk_cell BK515.out 0).trans rfl
                            have hcz133_1 : wc.cell? ⟨gb515, 1, none⟩ = some (.int .i64 a2_1) := (blk_cell BK515.out 1).trans rfl
                            have hcz133_2 : wc.cell? ⟨gb515, 2, none⟩ = some (.string a2_2) := (blk_cell BK515.out 2).trans rfl
                            have hfz133_0 := blk_frozen BK515.out 0
                            have hfz133_1 := blk_frozen BK515.out 1
                            have hfz133_2 := blk_frozen BK515.out 2
                            have hnb134 := NB516_517.out
                            have hnc134 := NB517_516.out
                            have hcz135_0 : wc.cell? ⟨gb516, 0, none⟩ = some (.int .i64 a3_0) := (blk_cell BK516.out 0).trans rfl
                            have hcz135_1 : wc.cell? ⟨gb516, 1, none⟩ = some (.int .i64 a3_1) := (blk_cell BK516.out 1).trans rfl
                            have hcz135_2 : wc.cell? ⟨gb516, 2, none⟩ = some (.string a3_2) := (blk_cell BK516.out 2).trans rfl
                            have hfz135_0 := blk_frozen BK516.out 0
                            have hfz135_1 := blk_frozen BK516.out 1
                            have hfz135_2 := blk_frozen BK516.out 2
                            go_wp2_with (first | ((with_reducible refine gate_callee (f := 33) rfl ?_); refine goesL_ (some 102) rfl rfl Tryd.func33 (by kernel_rfl) rfl #[.bool (!(Op.bytesLess a3_2.toList a2_2.toList))] rfl (by (try simp only [List.map_toArray, List.map_cons, List.map_nil]); first | done | rfl | (simp only [List.length_drop, List.length_take]; rfl)) ?_; (with_reducible refine (gussetref24_truth.calls (!(Op.bytesLess a3_2.toList a2_2.toList)) t545 t546 t547 t548 _ A130.out).mono ?_); rintro e w136 ⟨rfl, hb⟩; refine ⟨_, rfl, ?_⟩; have n0_ := Aside0.mk (blk_below (g := gb515) (o := .cells #[.int .i64 a2_0, .int .i64 a2_1, .string a2_2] 23 (0, 0)) (by (with_reducible repeat (first | refine blk_drewN ?_ _ | refine blk_drew ?_ | refine blk_alloc ?_ _)); exact BK515.out) hb); have n1_ := Aside0.mk (blk_below (g := gb516) (o := .cells #[.int .i64 a3_0, .int .i64 a3_1, .string a3_2] 23 (0, 0)) (by (with_reducible repeat (first | refine blk_drewN ?_ _ | refine blk_drew ?_ | refine blk_alloc ?_ _)); exact BK516.out) hb); have n2_ := Aside0.mk (blk_below (g := gb517) (o := .cells #[.int .i64 0, .int .i64 0, .string (⟨#[]⟩ : ByteArray)] 23 (0, 0)) (by (with_reducible repeat (first | refine blk_drewN ?_ _ | refine blk_drew ?_ | refine blk_alloc ?_ _)); exact BK517.out) hb); have n3_ := Aside0.mk (below_step (by repeat (first | (with_reducible first | exact HB.out | apply below_alloc | apply pw_below_drewN | apply below_drew1 | refine below_set ?_ GE515.out | refine below_set ?_ GE516.out | refine below_set ?_ GE517.out) | exact HB.out)) hb); clear BK515; clear BK516; clear BK517; clear HB; have BK515 := n0_; have BK516 := n1_; have BK517 := n2_; have HB := n3_; clear n0_ n1_ n2_ n3_; (try clear hb); (try clear hb2); (try clear hk); (try clear hi); have hcz137_0 : w136.cell? ⟨gb517, 0, none⟩ = some (.int .i64 0) := (blk_cell BK517.out 0).trans rfl; have hcz137_1 : w136.cell? ⟨gb517, 1, none⟩ = some (.int .i64 0) := (blk_cell BK517.out 1).trans rfl; have hcz137_2 : w136.cell? ⟨gb517, 2, none⟩ = some (.string (⟨#[]⟩ : ByteArray)) := (blk_cell BK517.out 2).trans rfl; have hfz137_0 := blk_frozen BK517.out 0; have hfz137_1 := blk_frozen BK517.out 1; have hfz137_2 := blk_frozen BK517.out 2))
                            refine bodyPost_ret (results_ct rfl _ _ gb517 23 #[.int .i64 t545, .int .i64 t546, .string t547] (0, 0) _ rfl (by (with_reducible repeat (first | refine blk_drewN ?_ _ | refine blk_drew ?_ | refine blk_alloc ?_ _)); refine blk_put (cs := #[.int .i64 t545, .int .i64 t546, .string (⟨#[]⟩ : ByteArray)]) ?_ 2 _ rfl; (with_reducible repeat (first | refine blk_drewN ?_ _ | refine blk_drew ?_ | refine blk_alloc ?_ _)); refine blk_put (cs := #[.int .i64 t545, .int .i64 0, .string (⟨#[]⟩ : ByteArray)]) ?_ 1 _ rfl; (with_reducible repeat (first | refine blk_drewN ?_ _ | refine blk_drew ?_ | refine blk_alloc ?_ _)); refine blk_put (cs := #[.int .i64 0, .int .i64 0, .string (⟨#[]⟩ : ByteArray)]) ?_ 0 _ rfl; (with_reducible repeat (first | refine blk_drewN ?_ _ | refine blk_drew ?_ | refine blk_alloc ?_ _)); exact BK517.out) Tryd.underlying23 rfl (by kernel_rfl)) rfl ?_
                            exact ⟨by first | rfl | (simp [errW_none, errW_some] <;> rfl) | (simp [*, errW_none, errW_some] <;> rfl), by repeat (first | (with_reducible first | exact HB.out | apply below_alloc | apply pw_below_drewN | apply below_drew1 | refine below_set ?_ GE515.out | refine below_set ?_ GE516.out | refine below_set ?_ GE517.out) | exact HB.out)⟩
                          · rw [if_neg c129] at H
                            have c129b0 : (a1.toList == ([60, 61] : List UInt8)) = false := beq_eq_false_iff_ne.mpr c129
                            have c129b1 : (a1.toList != ([60, 61] : List UInt8)) = true := bne_iff_ne.mpr c129
                            by_cases c138 : a1.toList = ([62] : List UInt8)
                            · rw [if_pos c138] at H
                              have c138b0 : (a1.toList == ([62] : List UInt8)) = true := beq_iff_eq.mpr c138
                              have c138b1 : (a1.toList != ([62] : List UInt8)) = false := bne_eq_false_iff_eq.mpr c138
                              clear c138
                              replace H := Option.bind_eq_some_iff.mp H
                              obtain ⟨⟨t549, t550, t551, t552⟩, A1390, H⟩ := H
                              replace H : (some (t549, t550, t551, t552)) = some (r1, r2, r3, r4) := H
                              have A139 := Aside0.mk A1390
                              clear A1390
                              simp only [Option.some.injEq, Prod.mk.injEq] at H
                              obtain ⟨rfl, rfl, rfl, rfl⟩ := H
                              have hnb140 := NB515_516.out
                              have hnc140 := NB516_515.out
                              have hnb141 := NB515_517.out
                              have hnc141 := NB517_515.out
                              have hcz142_0 : wc.cell? ⟨gb515, 0, none⟩ = some (.int .i64 a2_0) := (blk_cell BK515.out 0).trans rfl
                              have hcz142_1 : wc.cell? ⟨gb515, 1, none⟩ = some (.int .i64 a2_1) := (blk_cell BK515.out 1).trans rfl
                              have hcz142_2 : wc.cell? ⟨gb515, 2, none⟩ = some (.string a2_2) := (blk_cell BK515.out 2).trans rfl
                              have hfz142_0 := blk_frozen BK515.out 0
                              have hfz142_1 := blk_frozen BK515.out 1
                              have hfz142_2 := blk_frozen BK515.out 2
                              have hnb143 := NB516_517.out
                              have hnc143 := NB517_516.out
                              have hcz144_0 : wc.cell? ⟨gb516, 0, none⟩ = some (.int .i64 a3_0) := (blk_cell BK516.out 0).trans rfl
                              have hcz144_1 : wc.cell? ⟨gb516, 1, none⟩ = some (.int .i64 a3_1) := (blk_cell BK516.out 1).trans rfl
                              have hcz144_2 : wc.cell? ⟨gb516, 2, none⟩ = some (.string a3_2) := (blk_cell BK516.out 2).trans rfl
                              have hfz144_0 := blk_frozen BK516.out 0
                              have hfz144_1 := blk_frozen BK516.out 1
                              have hfz144_2 := blk_frozen BK516.out 2
                              go_wp2_with (first | ((with_reducible refine gate_callee (f := 33) rfl ?_); refine goesL_ (some 112) rfl rfl Tryd.func33 (by kernel_rfl) rfl #[.bool (Op.bytesLess a3_2.toList a2_2.toList)] rfl (by (try simp only [List.map_toArray, List.map_cons, List.map_nil]); first | done | rfl | (simp only [List.length_drop, List.length_take]; rfl)) ?_; (with_reducible refine (gussetref24_truth.calls (Op.bytesLess a3_2.toList a2_2.toList) t549 t550 t551 t552 _ A139.out).mono ?_); rintro e w145 ⟨rfl, hb⟩; refine ⟨_, rfl, ?_⟩; have n0_ := Aside0.mk (blk_below (g := gb515) (o := .cells #[.int .i64 a2_0, .int .i64 a2_1, .string a2_2] 23 (0, 0)) (by (with_reducible repeat (first | refine blk_drewN ?_ _ | refine blk_drew ?_ | refine blk_alloc ?_ _)); exact BK515.out) hb); have n1_ := Aside0.mk (blk_below (g := gb516) (o := .cells #[.int .i64 a3_0, .int .i64 a3_1, .string a3_2] 23 (0, 0)) (by (with_reducible repeat (first | refine blk_drewN ?_ _ | refine blk_drew ?_ | refine blk_alloc ?_ _)); exact BK516.out) hb); have n2_ := Aside0.mk (blk_below (g := gb517) (o := .cells #[.int .i64 0, .int .i64 0, .string (⟨#[]⟩ : ByteArray)] 23 (0, 0)) (by (with_reducible repeat (first | refine blk_drewN ?_ _ | refine blk_drew ?_ | refine blk_alloc ?_ _)); exact BK517.out) hb); have n3_ := Aside0.mk (below_step (by repeat (first | (with_reducible first | exact HB.out | apply below_alloc | apply pw_below_drewN | apply below_drew1 | refine below_set ?_ GE515.out | refine below_set ?_ GE516.out | refine below_set ?_ GE517.out) | exact HB.out)) hb); clear BK515; clear BK516; clear BK517; clear HB; have BK515 := n0_; have BK516 := n1_; have BK517 := n2_; have HB := n3_; clear n0_ n1_ n2_ n3_; (try clear hb); (try clear hb2); (try clear hk); (try clear hi); have hcz146_0 : w145.cell? ⟨gb517, 0, none⟩ = some (.int .i64 0) := (blk_cell BK517.out 0).trans rfl; have hcz146_1 : w145.cell? ⟨gb517, 1, none⟩ = some (.int .i64 0) := (blk_cell BK517.out 1).trans rfl; have hcz146_2 : w145.cell? ⟨gb517, 2, none⟩ = some (.string (⟨#[]⟩ : ByteArray)) := (blk_cell BK517.out 2).trans rfl; have hfz146_0 := blk_frozen BK517.out 0; have hfz146_1 := blk_frozen BK517.out 1; have hfz146_2 := blk_frozen BK517.out 2))
                              refine bodyPost_ret (results_ct rfl _ _ gb517 23 #[.int .i64 t549, .int .i64 t550, .string t551] (0, 0) _ rfl (by (with_reducible repeat (first | refine blk_drewN ?_ _ | refine blk_drew ?_ | refine blk_alloc ?_ _)); refine blk_put (cs := #[.int .i64 t549, .int .i64 t550, .string (⟨#[]⟩ : ByteArray)]) ?_ 2 _ rfl; (with_reducible repeat (first | refine blk_drewN ?_ _ | refine blk_drew ?_ | refine blk_alloc ?_ _)); refine blk_put (cs := #[.int .i64 t549, .int .i64 0, .string (⟨#[]⟩ : ByteArray)]) ?_ 1 _ rfl; (with_reducible repeat (first | refine blk_drewN ?_ _ | refine blk_drew ?_ | refine blk_alloc ?_ _)); refine blk_put (cs := #[.int .i64 0, .int .i64 0, .string (⟨#[]⟩ : ByteArray)]) ?_ 0 _ rfl; (with_reducible repeat (first | refine blk_drewN ?_ _ | refine blk_drew ?_ | refine blk_alloc ?_ _)); exact BK517.out) Tryd.underlying23 rfl (by kernel_rfl)) rfl ?_
                              exact ⟨by first | rfl | (simp [errW_none, errW_some] <;> rfl) | (simp [*, errW_none, errW_some] <;> rfl), by repeat (first | (with_reducible first | exact HB.out | apply below_alloc | apply pw_below_drewN | apply below_drew1 | refine below_set ?_ GE515.out | refine below_set ?_ GE516.out | refine below_set ?_ GE517.out) | exact HB.out)⟩
                            · rw [if_neg c138] at H
                              have c138b0 : (a1.toList == ([62] : List UInt8)) = false := beq_eq_false_iff_ne.mpr c138
                              have c138b1 : (a1.toList != ([62] : List UInt8)) = true := bne_iff_ne.mpr c138
                              by_cases c147 : a1.toList = ([62, 61] : List UInt8)
                              · rw [if_pos c147] at H
                                have c147b0 : (a1.toList == ([62, 61] : List UInt8)) = true := beq_iff_eq.mpr c147
                                have c147b1 : (a1.toList != ([62, 61] : List UInt8)) = false := bne_eq_false_iff_eq.mpr c147
                                clear c147
                                replace H := Option.bind_eq_some_iff.mp H
                                obtain ⟨⟨t553, t554, t555, t556⟩, A1480, H⟩ := H
                                replace H : (some (t553, t554, t555, t556)) = some (r1, r2, r3, r4) := H
                                have A148 := Aside0.mk A1480
                                clear A1480
                                simp only [Option.some.injEq, Prod.mk.injEq] at H
                                obtain ⟨rfl, rfl, rfl, rfl⟩ := H
                                have hnb149 := NB515_516.out
                                have hnc149 := NB516_515.out
                                have hnb150 := NB515_517.out
                                have hnc150 := NB517_515.out
                                have hcz151_0 : wc.cell? ⟨gb515, 0, none⟩ = some (.int .i64 a2_0) := (blk_cell BK515.out 0).trans rfl
                                have hcz151_1 : wc.cell? ⟨gb515, 1, none⟩ = some (.int .i64 a2_1) := (blk_cell BK515.out 1).trans rfl
                                have hcz151_2 : wc.cell? ⟨gb515, 2, none⟩ = some (.string a2_2) := (blk_cell BK515.out 2).trans rfl
                                have hfz151_0 := blk_frozen BK515.out 0
                                have hfz151_1 := blk_frozen BK515.out 1
                                have hfz151_2 := blk_frozen BK515.out 2
                                have hnb152 := NB516_517.out
                                have hnc152 := NB517_516.out
                                have hcz153_0 : wc.cell? ⟨gb516, 0, none⟩ = some (.int .i64 a3_0) := (blk_cell BK516.out 0).trans rfl
                                have hcz153_1 : wc.cell? ⟨gb516, 1, none⟩ = some (.int .i64 a3_1) := (blk_cell BK516.out 1).trans rfl
                                have hcz153_2 : wc.cell? ⟨gb516, 2, none⟩ = some (.string a3_2) := (blk_cell BK516.out 2).trans rfl
                                have hfz153_0 := blk_frozen BK516.out 0
                                have hfz153_1 := blk_frozen BK516.out 1
                                have hfz153_2 := blk_frozen BK516.out 2
                                go_wp2_with (first | ((with_reducible refine gate_callee (f := 33) rfl ?_); refine goesL_ (some 122) rfl rfl Tryd.func33 (by kernel_rfl) rfl #[.bool (!(Op.bytesLess a2_2.toList a3_2.toList))] rfl (by (try simp only [List.map_toArray, List.map_cons, List.map_nil]); first | done | rfl | (simp only [List.length_drop, List.length_take]; rfl)) ?_; (with_reducible refine (gussetref24_truth.calls (!(Op.bytesLess a2_2.toList a3_2.toList)) t553 t554 t555 t556 _ A148.out).mono ?_); rintro e w154 ⟨rfl, hb⟩; refine ⟨_, rfl, ?_⟩; have n0_ := Aside0.mk (blk_below (g := gb515) (o := .cells #[.int .i64 a2_0, .int .i64 a2_1, .string a2_2] 23 (0, 0)) (by (with_reducible repeat (first | refine blk_drewN ?_ _ | refine blk_drew ?_ | refine blk_alloc ?_ _)); exact BK515.out) hb); have n1_ := Aside0.mk (blk_below (g := gb516) (o := .cells #[.int .i64 a3_0, .int .i64 a3_1, .string a3_2] 23 (0, 0)) (by (with_reducible repeat (first | refine blk_drewN ?_ _ | refine blk_drew ?_ | refine blk_alloc ?_ _)); exact BK516.out) hb); have n2_ := Aside0.mk (blk_below (g := gb517) (o := .cells #[.int .i64 0, .int .i64 0, .string (⟨#[]⟩ : ByteArray)] 23 (0, 0)) (by (with_reducible repeat (first | refine blk_drewN ?_ _ | refine blk_drew ?_ | refine blk_alloc ?_ _)); exact BK517.out) hb); have n3_ := Aside0.mk (below_step (by repeat (first | (with_reducible first | exact HB.out | apply below_alloc | apply pw_below_drewN | apply below_drew1 | refine below_set ?_ GE515.out | refine below_set ?_ GE516.out | refine below_set ?_ GE517.out) | exact HB.out)) hb); clear BK515; clear BK516; clear BK517; clear HB; have BK515 := n0_; have BK516 := n1_; have BK517 := n2_; have HB := n3_; clear n0_ n1_ n2_ n3_; (try clear hb); (try clear hb2); (try clear hk); (try clear hi); have hcz155_0 : w154.cell? ⟨gb517, 0, none⟩ = some (.int .i64 0) := (blk_cell BK517.out 0).trans rfl; have hcz155_1 : w154.cell? ⟨gb517, 1, none⟩ = some (.int .i64 0) := (blk_cell BK517.out 1).trans rfl; have hcz155_2 : w154.cell? ⟨gb517, 2, none⟩ = some (.string (⟨#[]⟩ : ByteArray)) := (blk_cell BK517.out 2).trans rfl; have hfz155_0 := blk_frozen BK517.out 0; have hfz155_1 := blk_frozen BK517.out 1; have hfz155_2 := blk_frozen BK517.out 2))
                                refine bodyPost_ret (results_ct rfl _ _ gb517 23 #[.int .i64 t553, .int .i64 t554, .string t555] (0, 0) _ rfl (by (with_reducible repeat (first | refine blk_drewN ?_ _ | refine blk_drew ?_ | refine blk_alloc ?_ _)); refine blk_put (cs := #[.int .i64 t553, .int .i64 t554, .string (⟨#[]⟩ : ByteArray)]) ?_ 2 _ rfl; (with_reducible repeat (first | refine blk_drewN ?_ _ | refine blk_drew ?_ | refine blk_alloc ?_ _)); refine blk_put (cs := #[.int .i64 t553, .int .i64 0, .string (⟨#[]⟩ : ByteArray)]) ?_ 1 _ rfl; (with_reducible repeat (first | refine blk_drewN ?_ _ | refine blk_drew ?_ | refine blk_alloc ?_ _)); refine blk_put (cs := #[.int .i64 0, .int .i64 0, .string (⟨#[]⟩ : ByteArray)]) ?_ 0 _ rfl; (with_reducible repeat (first | refine blk_drewN ?_ _ | refine blk_drew ?_ | refine blk_alloc ?_ _)); exact BK517.out) Tryd.underlying23 rfl (by kernel_rfl)) rfl ?_
                                exact ⟨by first | rfl | (simp [errW_none, errW_some] <;> rfl) | (simp [*, errW_none, errW_some] <;> rfl), by repeat (first | (with_reducible first | exact HB.out | apply below_alloc | apply pw_below_drewN | apply below_drew1 | refine below_set ?_ GE515.out | refine below_set ?_ GE516.out | refine below_set ?_ GE517.out) | exact HB.out)⟩
                              · rw [if_neg c147] at H
                                have c147b0 : (a1.toList == ([62, 61] : List UInt8)) = false := beq_eq_false_iff_ne.mpr c147
                                have c147b1 : (a1.toList != ([62, 61] : List UInt8)) = true := bne_iff_ne.mpr c147
                                replace H := Option.bind_eq_some_iff.mp H
                                obtain ⟨⟨t557, t558, t559, t560⟩, A1560, H⟩ := H
                                replace H : (some (t557, t558, t559, t560)) = some (r1, r2, r3, r4) := H
                                have A156 := Aside0.mk A1560
                                clear A1560
                                simp only [Option.some.injEq, Prod.mk.injEq] at H
                                obtain ⟨rfl, rfl, rfl, rfl⟩ := H
                                go_wp2_with (first | ((with_reducible refine gate_callee (f := 36) rfl ?_); refine goesL_ (some 125) rfl rfl Tryd.func36 (by kernel_rfl) rfl #[] rfl (by (try simp only [List.map_toArray, List.map_cons, List.map_nil]); first | done | rfl | (simp only [List.length_drop, List.length_take]; rfl)) ?_; (with_reducible refine (gussetref24_wrong.calls  t557 t558 t559 t560 _ A156.out).mono ?_); rintro e w157 ⟨rfl, hb⟩; refine ⟨_, rfl, ?_⟩; have n0_ := Aside0.mk (blk_below (g := gb515) (o := .cells #[.int .i64 a2_0, .int .i64 a2_1, .string a2_2] 23 (0, 0)) (by (with_reducible repeat (first | refine blk_drewN ?_ _ | refine blk_drew ?_ | refine blk_alloc ?_ _)); exact BK515.out) hb); have n1_ := Aside0.mk (blk_below (g := gb516) (o := .cells #[.int .i64 a3_0, .int .i64 a3_1, .string a3_2] 23 (0, 0)) (by (with_reducible repeat (first | refine blk_drewN ?_ _ | refine blk_drew ?_ | refine blk_alloc ?_ _)); exact BK516.out) hb); have n2_ := Aside0.mk (blk_below (g := gb517) (o := .cells #[.int .i64 0, .int .i64 0, .string (⟨#[]⟩ : ByteArray)] 23 (0, 0)) (by (with_reducible repeat (first | refine blk_drewN ?_ _ | refine blk_drew ?_ | refine blk_alloc ?_ _)); exact BK517.out) hb); have n3_ := Aside0.mk (below_step (by repeat (first | (with_reducible first | exact HB.out | apply below_alloc | apply pw_below_drewN | apply below_drew1 | refine below_set ?_ GE515.out | refine below_set ?_ GE516.out | refine below_set ?_ GE517.out) | exact HB.out)) hb); clear BK515; clear BK516; clear BK517; clear HB; have BK515 := n0_; have BK516 := n1_; have BK517 := n2_; have HB := n3_; clear n0_ n1_ n2_ n3_; (try clear hb); (try clear hb2); (try clear hk); (try clear hi); have hnb158 := NB517_515.out; have hnc158 := NB515_517.out; have hnb159 := NB517_516.out; have hnc159 := NB516_517.out; have hcz160_0 : w157.cell? ⟨gb517, 0, none⟩ = some (.int .i64 0) := (blk_cell BK517.out 0).trans rfl; have hcz160_1 : w157.cell? ⟨gb517, 1, none⟩ = some (.int .i64 0) := (blk_cell BK517.out 1).trans rfl; have hcz160_2 : w157.cell? ⟨gb517, 2, none⟩ = some (.string (⟨#[]⟩ : ByteArray)) := (blk_cell BK517.out 2).trans rfl; have hfz160_0 := blk_frozen BK517.out 0; have hfz160_1 := blk_frozen BK517.out 1; have hfz160_2 := blk_frozen BK517.out 2))
                                refine bodyPost_ret (results_ct rfl _ _ gb517 23 #[.int .i64 t557, .int .i64 t558, .string t559] (0, 0) _ rfl (by (with_reducible repeat (first | refine blk_drewN ?_ _ | refine blk_drew ?_ | refine blk_alloc ?_ _)); refine blk_put (cs := #[.int .i64 t557, .int .i64 t558, .string (⟨#[]⟩ : ByteArray)]) ?_ 2 _ rfl; (with_reducible repeat (first | refine blk_drewN ?_ _ | refine blk_drew ?_ | refine blk_alloc ?_ _)); refine blk_put (cs := #[.int .i64 t557, .int .i64 0, .string (⟨#[]⟩ : ByteArray)]) ?_ 1 _ rfl; (with_reducible repeat (first | refine blk_drewN ?_ _ | refine blk_drew ?_ | refine blk_alloc ?_ _)); refine blk_put (cs := #[.int .i64 0, .int .i64 0, .string (⟨#[]⟩ : ByteArray)]) ?_ 0 _ rfl; (with_reducible repeat (first | refine blk_drewN ?_ _ | refine blk_drew ?_ | refine blk_alloc ?_ _)); exact BK517.out) Tryd.underlying23 rfl (by kernel_rfl)) rfl ?_
                                exact ⟨by first | rfl | (simp [errW_none, errW_some] <;> rfl) | (simp [*, errW_none, errW_some] <;> rfl), by repeat (first | (with_reducible first | exact HB.out | apply below_alloc | apply pw_below_drewN | apply below_drew1 | refine below_set ?_ GE515.out | refine below_set ?_ GE516.out | refine below_set ?_ GE517.out) | exact HB.out)⟩
                      · replace c119 := Bool.eq_false_iff.mpr c119
                        subst c119
                        have H1 : ((gussetref24_wrong.f).bind fun bt561 => (some (bt561.1, bt561.2.1, bt561.2.2.1, bt561.2.2.2))) = some (r1, r2, r3, r4) := by rw [if_neg (show ¬ (false = true) by decide)] at H; exact H
                        clear H
                        have H := H1
                        clear H1
                        replace H := Option.bind_eq_some_iff.mp H
                        obtain ⟨⟨t561, t562, t563, t564⟩, A1610, H⟩ := H
                        replace H : (some (t561, t562, t563, t564)) = some (r1, r2, r3, r4) := H
                        have A161 := Aside0.mk A1610
                        clear A1610
                        simp only [Option.some.injEq, Prod.mk.injEq] at H
                        obtain ⟨rfl, rfl, rfl, rfl⟩ := H
                        go_wp2_with (first | ((with_reducible refine gate_callee (f := 36) rfl ?_); refine goesL_ (some 125) rfl rfl Tryd.func36 (by kernel_rfl) rfl #[] rfl (by (try simp only [List.map_toArray, List.map_cons, List.map_nil]); first | done | rfl | (simp only [List.length_drop, List.length_take]; rfl)) ?_; (with_reducible refine (gussetref24_wrong.calls  t561 t562 t563 t564 _ A161.out).mono ?_); rintro e w162 ⟨rfl, hb⟩; refine ⟨_, rfl, ?_⟩; have n0_ := Aside0.mk (blk_below (g := gb515) (o := .cells #[.int .i64 a2_0, .int .i64 a2_1, .string a2_2] 23 (0, 0)) (by (with_reducible repeat (first | refine blk_drewN ?_ _ | refine blk_drew ?_ | refine blk_alloc ?_ _)); exact BK515.out) hb); have n1_ := Aside0.mk (blk_below (g := gb516) (o := .cells #[.int .i64 a3_0, .int .i64 a3_1, .string a3_2] 23 (0, 0)) (by (with_reducible repeat (first | refine blk_drewN ?_ _ | refine blk_drew ?_ | refine blk_alloc ?_ _)); exact BK516.out) hb); have n2_ := Aside0.mk (blk_below (g := gb517) (o := .cells #[.int .i64 0, .int .i64 0, .string (⟨#[]⟩ : ByteArray)] 23 (0, 0)) (by (with_reducible repeat (first | refine blk_drewN ?_ _ | refine blk_drew ?_ | refine blk_alloc ?_ _)); exact BK517.out) hb); have n3_ := Aside0.mk (below_step (by repeat (first | (with_reducible first | exact HB.out | apply below_alloc | apply pw_below_drewN | apply below_drew1 | refine below_set ?_ GE515.out | refine below_set ?_ GE516.out | refine below_set ?_ GE517.out) | exact HB.out)) hb); clear BK515; clear BK516; clear BK517; clear HB; have BK515 := n0_; have BK516 := n1_; have BK517 := n2_; have HB := n3_; clear n0_ n1_ n2_ n3_; (try clear hb); (try clear hb2); (try clear hk); (try clear hi); have hnb163 := NB517_515.out; have hnc163 := NB515_517.out; have hnb164 := NB517_516.out; have hnc164 := NB516_517.out; have hcz165_0 : w162.cell? ⟨gb517, 0, none⟩ = some (.int .i64 0) := (blk_cell BK517.out 0).trans rfl; have hcz165_1 : w162.cell? ⟨gb517, 1, none⟩ = some (.int .i64 0) := (blk_cell BK517.out 1).trans rfl; have hcz165_2 : w162.cell? ⟨gb517, 2, none⟩ = some (.string (⟨#[]⟩ : ByteArray)) := (blk_cell BK517.out 2).trans rfl; have hfz165_0 := blk_frozen BK517.out 0; have hfz165_1 := blk_frozen BK517.out 1; have hfz165_2 := blk_frozen BK517.out 2))
                        refine bodyPost_ret (results_ct rfl _ _ gb517 23 #[.int .i64 t561, .int .i64 t562, .string t563] (0, 0) _ rfl (by (with_reducible repeat (first | refine blk_drewN ?_ _ | refine blk_drew ?_ | refine blk_alloc ?_ _)); refine blk_put (cs := #[.int .i64 t561, .int .i64 t562, .string (⟨#[]⟩ : ByteArray)]) ?_ 2 _ rfl; (with_reducible repeat (first | refine blk_drewN ?_ _ | refine blk_drew ?_ | refine blk_alloc ?_ _)); refine blk_put (cs := #[.int .i64 t561, .int .i64 0, .string (⟨#[]⟩ : ByteArray)]) ?_ 1 _ rfl; (with_reducible repeat (first | refine blk_drewN ?_ _ | refine blk_drew ?_ | refine blk_alloc ?_ _)); refine blk_put (cs := #[.int .i64 0, .int .i64 0, .string (⟨#[]⟩ : ByteArray)]) ?_ 0 _ rfl; (with_reducible repeat (first | refine blk_drewN ?_ _ | refine blk_drew ?_ | refine blk_alloc ?_ _)); exact BK517.out) Tryd.underlying23 rfl (by kernel_rfl)) rfl ?_
                        exact ⟨by first | rfl | (simp [errW_none, errW_some] <;> rfl) | (simp [*, errW_none, errW_some] <;> rfl), by repeat (first | (with_reducible first | exact HB.out | apply below_alloc | apply pw_below_drewN | apply below_drew1 | refine below_set ?_ GE515.out | refine below_set ?_ GE516.out | refine below_set ?_ GE517.out) | exact HB.out)⟩
end Go.Proofs.YtdheakalfleleaaDoor.POper
