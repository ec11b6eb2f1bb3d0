/- Contracts: lex_Lex, runes_Quote, lex_text, strings_Join. -/
import Derived.Test.YtbnpgobjbokboaaDoorPLexx0
import Derived.Test.YtbnpgobjbokboaaDoorPLexx1
import Derived.Test.YtbnpgobjbokboaaDoorPLexx2
import Derived.Test.YtbnpgobjbokboaaDoorPLexx4
import Derived.BigCall
import Derived.BigQuiet
import Derived.Deep.QuietTactic
import Derived.Test.YtbnpgobjbokboaaDoorHex
import Derived.Test.YtbnpgobjbokboaaDoorShelf
import Derived.WalkKit
namespace Go.Proofs.YtbnpgobjbokboaaDoor.PLex
open Go.RowKit Go.Proofs.YtbnpgobjbokboaaDoorW.PrintWords Go.Proofs.YtbnpgobjbokboaaDoorW.PrintLast Go.Proofs.YtbnpgobjbokboaaDoorW.PrintMore
attribute [local go_sem] max2_int min2_int max_two min_two max_three min_three max_four min_four   -- for this text's walks alone
set_option linter.unusedVariables false
set_option linter.unusedSimpArgs false

/-! ### lex_Lex: function 10 -/
def lex_Lex.l0 : Nat → ByteArray → Bool → List (S36) → Int → Option ((List (S36)) × Int × Int)
 | 0, _, _, _, _ => none
 | k + 1, x0, x1, x7, x8 => (lex_skip.f x0 x8).bind fun bt194 => (if bt194.2 = true then (if bt194.1 = (x0.size : Int) then (some (x7, 0, 0)) else (if 0 ≤ bt194.1 then (if bt194.1 ≤ (x0.size : Int) then ((lex_token.f k (x0.extract (bt194.1 : Int).toNat x0.size) x1).bind fun bt196 => (if bt196.2.2.2.2.2 = 0 then (if x7.length < 3518437208883 then (lex_Lex.l0 k x0 x1 (x7 ++ [(⟨bt196.1, bt196.2.1, bt196.2.2.1, bt194.1⟩ : S36)]) (wrap64 (bt194.1 + bt196.2.2.2.2.1))) else (none)) else (some (([] : List (S36)), bt194.1, bt196.2.2.2.2.2)))) else (none)) else (none))) else (some (([] : List (S36)), bt194.1, 40)))
def lex_Lex.f (k : Nat) (a0 : ByteArray) (a1 : Bool) : Option ((List (S36)) × Int × Int) := lex_Lex.l0 k a0 a1 ([] : List (S36)) 0
theorem lex_Lex.mono_l : ∀ k, (∀ y0 y1 y2 y3, LeO (lex_Lex.l0 k y0 y1 y2 y3) (lex_Lex.l0 (k + 1) y0 y1 y2 y3))
 | 0 => fun _ _ _ _ r h => by simp [lex_Lex.l0] at h
 | k + 1 => by
  have ih0 := lex_Lex.mono_l k
  ·
   intro y0 y1 y2 y3
   unfold lex_Lex.l0
   repeat' first
   | (with_reducible exact ih0 _ _ _ _)
   | (with_reducible exact lex_token.mono _ _ _)
   | (with_reducible exact LeO.refl _)
   | (with_reducible exact LeO.none _)
   | (with_reducible refine LeO.ite ?_ ?_)
   | (with_reducible refine LeO.bind ?_ (fun _ => ?_))
   | exact ih0 _ _ _ _
   | exact lex_token.mono _ _ _
   | exact LeO.none _
   | refine LeO.ite ?_ ?_
   | refine LeO.bind ?_ (fun _ => ?_)
theorem lex_Lex.mono : ∀ a0 a1 k, LeO (lex_Lex.f k a0 a1) (lex_Lex.f (k + 1) a0 a1) := by
 intro a0 a1 k
 have ih0 := lex_Lex.mono_l k
 unfold lex_Lex.f
 repeat' first
   | (with_reducible exact ih0 _ _ _ _)
   | (with_reducible exact lex_token.mono _ _ _)
   | (with_reducible exact LeO.refl _)
   | (with_reducible exact LeO.none _)
   | (with_reducible refine LeO.ite ?_ ?_)
   | (with_reducible refine LeO.bind ?_ (fun _ => ?_))
   | exact ih0 _ _ _ _
   | exact lex_token.mono _ _ _
   | exact LeO.none _
   | refine LeO.ite ?_ ?_
   | refine LeO.bind ?_ (fun _ => ?_)
set_option maxHeartbeats 8000000 in
set_option maxRecDepth 100000 in
theorem lex_Lex.calls (k : Nat) (a0 : ByteArray) (a1 : Bool) (r1 : List (S36)) (r2 : Int) (r3 : Int) (w : World) [GW w] (h : lex_Lex.f k a0 a1 = some (r1, r2, r3)) :
  Calls Tryd.prog 10 #[.string a0, .bool a1] w fun e w' => ∃ v0_ : Value, e = .returned (.tuple #[v0_, .int .i64 r2, .int .i64 r3]) ∧ Kd.R k36 36 w' w.heap.size (fun _ => True) v0_ r1 ∧ Below w.heap.size w w' := by
 have hu36 := Tryd.underlying36
 have HB := Aside0.mk (Below.refl w.heap.size w)
 have H : (lex_Lex.l0 k a0 a1 ([] : List (S36)) 0) = some (r1, r2, r3) := h
 clear h
 have H' := Aside0.mk H
 clear H
 go_enter Tryd.func10, Tryd.ntmps10
 go_wp2
 go_loopg [7, 8] k (fun kq v7 v8 w' => ∃ (x7_1 : List (S36)) (x8_1 : Int), v8 = .int .i64 x8_1 ∧ Aside0 (lex_Lex.l0 kq a0 a1 x7_1 x8_1 = some (r1, r2, r3)) ∧ Aside0 (kq ≤ k) ∧ Aside0 (Kd.R k36 36 w' w.heap.size (fun _ => True) v7 x7_1) ∧ Aside0 (Below w.heap.size w w'))
 case atStart => exact ⟨(([] : List (S36))), (0), (by first | rfl | (simp; done) | (simp [*]; done)), H', ⟨Nat.le_refl _⟩, ⟨by first | exact Kd.R_nil _ _ _ _ _ | exact Kd.N_nil _ _ _ _ _ | exact Kd.V_nil _ _ _ _ _ | exact Kd.Q_nil _ _ _ _ _ | exact Kd.S_nil _ _ _ _ _⟩, ⟨by repeat (first | (with_reducible first | exact HB.out | apply below_alloc | apply pw_below_drewN | apply below_drew1) | exact HB.out)⟩⟩
 case round =>
  clear H'
  try clear c1
  try clear p2
  obtain ⟨x7_1, x8_1, rfl, HA, HK1, HO_7, HB⟩ := hrel; haveI := GW.of HB.out
  cases gk with
  | zero => exact absurd HA.out (by simp [lex_Lex.l0])
  | succ k1 =>
   have H := HA.out
   clear HA
   simp only [lex_Lex.l0] at H
   replace H := Option.bind_eq_some_iff.mp H
   obtain ⟨⟨t194, t195⟩, A30, H⟩ := H
   replace H : (if t195 = true then (if t194 = (a0.size : Int) then (some (x7_1, 0, 0)) else (if 0 ≤ t194 then (if t194 ≤ (a0.size : Int) then ((lex_token.f k1 (a0.extract (t194 : Int).toNat a0.size) a1).bind fun bt196 => (if bt196.2.2.2.2.2 = 0 then (if x7_1.length < 3518437208883 then (lex_Lex.l0 k1 a0 a1 (x7_1 ++ [(⟨bt196.1, bt196.2.1, bt196.2.2.1, t194⟩ : S36)]) (wrap64 (t194 + bt196.2.2.2.2.1))) else (none)) else (some (([] : List (S36)), t194, bt196.2.2.2.2.2)))) else (none)) else (none))) else (some (([] : List (S36)), t194, 40))) = some (r1, r2, r3) := H
   have A3 := Aside0.mk A30
   clear A30
   by_cases c4 : t195 = true
   ·
    subst c4
    have H1 : (if t194 = (a0.size : Int) then (some (x7_1, 0, 0)) else (if 0 ≤ t194 then (if t194 ≤ (a0.size : Int) then ((lex_token.f k1 (a0.extract (t194 : Int).toNat a0.size) a1).bind fun bt196 => (if bt196.2.2.2.2.2 = 0 then (if x7_1.length < 3518437208883 then (lex_Lex.l0 k1 a0 a1 (x7_1 ++ [(⟨bt196.1, bt196.2.1, bt196.2.2.1, t194⟩ : S36)]) (wrap64 (t194 + bt196.2.2.2.2.1))) else (none)) else (some (([] : List (S36)), t194, bt196.2.2.2.2.2)))) else (none)) else (none))) = some (r1, r2, r3) := by rw [if_pos rfl] at H; exact H
    clear H
    have H := H1
    clear H1
    by_cases c5 : t194 = (a0.size : Int)
    ·
     rw [if_pos c5] at H
     have c5b0 : (t194 == (a0.size : Int)) = true := beq_iff_eq.mpr c5
     have c5b1 : (t194 != (a0.size : Int)) = false := bne_eq_false_iff_eq.mpr c5
     clear c5
     simp only [Option.some.injEq, Prod.mk.injEq] at H
     obtain ⟨rfl, rfl, rfl⟩ := H
     go_wp2_with (first | ((with_reducible refine gate_callee (f := 19) rfl ?_); refine goesL_ (some 17) rfl rfl Tryd.func19 (by kernel_rfl) rfl #[.string a0, .int .i64 x8_1] rfl (by (try simp only [List.map_toArray, List.map_cons, List.map_nil]); first | done | rfl | (simp only [List.length_drop, List.length_take]; rfl)) ?_; (with_reducible refine (lex_skip.calls a0 x8_1 t194 true _ A3.out).mono ?_); rintro e w6 ⟨rfl, hb⟩; refine ⟨_, rfl, ?_⟩; have n0_ := Aside0.mk (Kd.R_below (by (with_reducible repeat (first | apply Kd.R_alloc | apply Kd.R_drewN | apply Kd.R_drew)); exact HO_7.out) hb); have n1_ := Aside0.mk (below_step (by repeat (first | (with_reducible first | exact HB.out | apply below_alloc | apply pw_below_drewN | apply below_drew1) | exact HB.out)) hb); clear HO_7; clear HB; have HO_7 := n0_; have HB := n1_; haveI := GW.of HB.out; clear n0_ n1_; (try clear hb); (try clear hb2); (try clear hk); (try clear hi)))
     go_ret3
     exact ⟨_, by first | rfl | (simp [errW_none, errW_some] <;> rfl) | (simp [*, errW_none, errW_some] <;> rfl), by (with_reducible repeat (first | apply Kd.R_alloc | apply Kd.R_drewN | apply Kd.R_drew)); exact HO_7.out, by repeat (first | (with_reducible first | exact HB.out | apply below_alloc | apply pw_below_drewN | apply below_drew1) | exact HB.out)⟩
    ·
     rw [if_neg c5] at H
     have c5b0 : (t194 == (a0.size : Int)) = false := beq_eq_false_iff_ne.mpr c5
     have c5b1 : (t194 != (a0.size : Int)) = true := bne_iff_ne.mpr c5
     by_cases c7 : 0 ≤ t194
     ·
      rw [if_pos c7] at H
      have c7b0 := eq_true c7
      have c7b1 : decide (0 ≤ t194) = true := decide_eq_true c7
      clear c7
      by_cases c8 : t194 ≤ (a0.size : Int)
      ·
       rw [if_pos c8] at H
       have c8b0 := eq_true c8
       have c8b1 : decide (t194 ≤ (a0.size : Int)) = true := decide_eq_true c8
       clear c8
       replace H := Option.bind_eq_some_iff.mp H
       obtain ⟨⟨t196, t197, t198, t199, t200, t201⟩, A90, H⟩ := H
       replace H : (if t201 = 0 then (if x7_1.length < 3518437208883 then (lex_Lex.l0 k1 a0 a1 (x7_1 ++ [(⟨t196, t197, t198, t194⟩ : S36)]) (wrap64 (t194 + t200))) else (none)) else (some (([] : List (S36)), t194, t201))) = some (r1, r2, r3) := H
       have A9 := Aside0.mk A90
       clear A90
       by_cases c10 : t201 = 0
       ·
        rw [if_pos c10] at H
        have c10b0 : (t201 == 0) = true := beq_iff_eq.mpr c10
        have c10b1 : (t201 != 0) = false := bne_eq_false_iff_eq.mpr c10
        clear c10
        by_cases c11 : x7_1.length < 3518437208883
        ·
         rw [if_pos c11] at H
         have LMc11 := Aside0.mk c11
         clear c11
         obtain ⟨y203, hy203⟩ : ∃ y_ : List (S36), y_ = (x7_1 ++ [(⟨t196, t197, t198, t194⟩ : S36)]) := ⟨_, rfl⟩
         replace H : (lex_Lex.l0 k1 a0 a1 y203 (wrap64 (t194 + t200))) = some (r1, r2, r3) := by first | (rw [hy203]; with_reducible exact H) | (have H2_ := (Option.bind_some _ _).symm.trans H; rw [hy203]; with_reducible exact H2_) | (have H2_ := (Option.bind_some _ _).symm.trans H; with_reducible exact H2_) | with_reducible exact H | (rw [hy203]; exact H) | exact H
         have Ny203 := Aside0.mk hy203
         clear hy203
         have H' := Aside0.mk H
         clear H
         go_wp2_with (first | ((with_reducible refine gate_callee (f := 19) rfl ?_); refine goesL_ (some 17) rfl rfl Tryd.func19 (by kernel_rfl) rfl #[.string a0, .int .i64 x8_1] rfl (by (try simp only [List.map_toArray, List.map_cons, List.map_nil]); first | done | rfl | (simp only [List.length_drop, List.length_take]; rfl)) ?_; (with_reducible refine (lex_skip.calls a0 x8_1 t194 true _ A3.out).mono ?_); rintro e w12 ⟨rfl, hb⟩; refine ⟨_, rfl, ?_⟩; have n0_ := Aside0.mk (Kd.R_below (by (with_reducible repeat (first | apply Kd.R_alloc | apply Kd.R_drewN | apply Kd.R_drew)); exact HO_7.out) hb); have n1_ := Aside0.mk (below_step (by repeat (first | (with_reducible first | exact HB.out | apply below_alloc | apply pw_below_drewN | apply below_drew1) | exact HB.out)) hb); clear HO_7; clear HB; have HO_7 := n0_; have HB := n1_; haveI := GW.of HB.out; clear n0_ n1_; (try clear hb); (try clear hb2); (try clear hk); (try clear hi)) | ((with_reducible refine gate_callee (f := 20) rfl ?_); refine goesL_ (some 33) rfl rfl Tryd.func20 (by kernel_rfl) rfl #[.string (a0.extract (t194 : Int).toNat a0.size), .bool a1] rfl (by (try simp only [List.map_toArray, List.map_cons, List.map_nil]); first | done | rfl | (simp only [List.length_drop, List.length_take]; rfl)) ?_; (with_reducible refine (lex_token.calls k1 (a0.extract (t194 : Int).toNat a0.size) a1 t196 t197 t198 t199 t200 t201 _ A9.out).mono ?_); rintro e w13 ⟨rfl, hb⟩; refine ⟨_, rfl, ?_⟩; have n0_ := Aside0.mk (Kd.R_below (by (with_reducible repeat (first | apply Kd.R_alloc | apply Kd.R_drewN | apply Kd.R_drew)); exact HO_7.out) hb); have n1_ := Aside0.mk (below_step (by repeat (first | (with_reducible first | exact HB.out | apply below_alloc | apply pw_below_drewN | apply below_drew1) | exact HB.out)) hb); clear HO_7; clear HB; have HO_7 := n0_; have HB := n1_; haveI := GW.of HB.out; clear n0_ n1_; (try clear hb); (try clear hb2); (try clear hk); (try clear hi)) | ((with_reducible refine gate_dst (N := 11) rfl ?_); refine box_event ?hg (N := 11) ?hd (cs := #[.int .i64 0, .string (⟨#[]⟩ : ByteArray), .int .i64 0, .int .i64 0]) (t := 36) ?hr ?_; (case hd => rfl); (case hg => rfl); (case hr => first | (go_simp; done) | (go_simp; rfl)); intro gb202 hg w14 hbox hb; have n0_ := Aside0.mk (Kd.R_below (Kd.R_elderB (by (with_reducible repeat (first | apply Kd.R_alloc | apply Kd.R_drewN | apply Kd.R_drew)); exact HO_7.out) gb202 (Nat.le_of_eq hg.symm)) hb); have n1_ := Aside0.mk (below_step (by repeat (first | (with_reducible first | exact HB.out | apply below_alloc | apply pw_below_drewN | apply below_drew1) | exact HB.out)) hb); have n2_ := Aside0.mk (hbox); have n3_ := Aside0.mk ((by rw [hg]; exact (below_size (by repeat (first | (with_reducible first | exact HB.out | apply below_alloc | apply pw_below_drewN | apply below_drew1) | exact HB.out))) : w.heap.size ≤ gb202)); have n4_ := Aside0.mk ((by rw [hg]; exact (below_size (by repeat (first | (with_reducible first | exact HB.out | apply below_alloc | apply pw_below_drewN | apply below_drew1) | exact HB.out))) : w.heap.size ≤ gb202)); clear HO_7; clear HB; have HO_7 := n0_; have HB := n1_; haveI := GW.of HB.out; have BK202 := n2_; have GW202 := n3_; have GE202 := n4_; clear n0_ n1_ n2_ n3_ n4_; clear hb hbox hg; have hcz15_0 : w14.cell? ⟨gb202, 0, none⟩ = some (.int .i64 0) := (blk_cell BK202.out 0).trans rfl; have hcz15_1 : w14.cell? ⟨gb202, 1, none⟩ = some (.string (⟨#[]⟩ : ByteArray)) := (blk_cell BK202.out 1).trans rfl; have hcz15_2 : w14.cell? ⟨gb202, 2, none⟩ = some (.int .i64 0) := (blk_cell BK202.out 2).trans rfl; have hcz15_3 : w14.cell? ⟨gb202, 3, none⟩ = some (.int .i64 0) := (blk_cell BK202.out 3).trans rfl; have hfz15_0 := blk_frozen BK202.out 0; have hfz15_1 := blk_frozen BK202.out 1; have hfz15_2 := blk_frozen BK202.out 2; have hfz15_3 := blk_frozen BK202.out 3) | ((with_reducible refine gate_dst (N := 44) rfl ?_); refine wpList_load_row rfl 36 (.tmp 11) rfl gb202 rfl 36 #[.int .i64 t196, .string t197, .int .i64 t198, .int .i64 t194] (0, 0) _ (by (with_reducible repeat (first | refine blk_drewN ?_ _ | refine blk_drew ?_ | refine blk_alloc ?_ _)); refine blk_put (cs := #[.int .i64 t196, .string t197, .int .i64 t198, .int .i64 t199]) ?_ 3 _ rfl; (with_reducible repeat (first | refine blk_drewN ?_ _ | refine blk_drew ?_ | refine blk_alloc ?_ _)); refine blk_put (cs := #[.int .i64 t196, .string t197, .int .i64 t198, .int .i64 0]) ?_ 3 _ rfl; (with_reducible repeat (first | refine blk_drewN ?_ _ | refine blk_drew ?_ | refine blk_alloc ?_ _)); refine blk_put (cs := #[.int .i64 t196, .string t197, .int .i64 0, .int .i64 0]) ?_ 2 _ rfl; (with_reducible repeat (first | refine blk_drewN ?_ _ | refine blk_drew ?_ | refine blk_alloc ?_ _)); refine blk_put (cs := #[.int .i64 t196, .string (⟨#[]⟩ : ByteArray), .int .i64 0, .int .i64 0]) ?_ 1 _ rfl; (with_reducible repeat (first | refine blk_drewN ?_ _ | refine blk_drew ?_ | refine blk_alloc ?_ _)); refine blk_put (cs := #[.int .i64 0, .string (⟨#[]⟩ : ByteArray), .int .i64 0, .int .i64 0]) ?_ 0 _ rfl; (with_reducible repeat (first | refine blk_drewN ?_ _ | refine blk_drew ?_ | refine blk_alloc ?_ _)); exact BK202.out) Tryd.underlying36 rfl (by kernel_rfl) ?_) | ((with_reducible refine gate_builtin (b := .append) (xs := #[.tmp 43, .tmp 45]) rfl ?_); at_builtin; refine Kd.R_append k36 (w0 := w) w.heap.size rfl (.tmp 43) (.tmp 45) 22 36 (.agg #[(.int .i64 0), (.string ⟨#[]⟩), (.int .i64 0), (.int .i64 0)]) 40 rfl Tryd.underlying22 info36 rfl (by decide) (by omega) u7 x7_1 (⟨t196, t197, t198, t194⟩ : S36) [.int .i64 t196, .string t197, .int .i64 t198, .int .i64 t194] (fun k_ => k_ ≠ gb202) (fun _ => False) rfl (by first | (go_simp; done) | (go_simp; rfl)) ?aP (fun _ hk => hk.elim) ?aF ?aO ?aB ?aS ?aL ?_; (case aP => exact k36_mkM _ _ _ (⟨t196, t197, t198, t194⟩ : S36)); (case aB => exact (by repeat (first | (with_reducible first | exact HB.out | apply below_alloc | apply pw_below_drewN | apply below_drew1 | refine below_set ?_ GE202.out) | exact HB.out))); (case aF => exact (fun k_ hk => Kd.freshB (g := gb202) (o := .cells #[.int .i64 t196, .string t197, .int .i64 t198, .int .i64 t194] 36 (0, 0)) (by (with_reducible repeat (first | refine blk_drewN ?_ _ | refine blk_drew ?_ | refine blk_alloc ?_ _)); refine blk_put (cs := #[.int .i64 t196, .string t197, .int .i64 t198, .int .i64 t199]) ?_ 3 _ rfl; (with_reducible repeat (first | refine blk_drewN ?_ _ | refine blk_drew ?_ | refine blk_alloc ?_ _)); refine blk_put (cs := #[.int .i64 t196, .string t197, .int .i64 t198, .int .i64 0]) ?_ 3 _ rfl; (with_reducible repeat (first | refine blk_drewN ?_ _ | refine blk_drew ?_ | refine blk_alloc ?_ _)); refine blk_put (cs := #[.int .i64 t196, .string t197, .int .i64 0, .int .i64 0]) ?_ 2 _ rfl; (with_reducible repeat (first | refine blk_drewN ?_ _ | refine blk_drew ?_ | refine blk_alloc ?_ _)); refine blk_put (cs := #[.int .i64 t196, .string (⟨#[]⟩ : ByteArray), .int .i64 0, .int .i64 0]) ?_ 1 _ rfl; (with_reducible repeat (first | refine blk_drewN ?_ _ | refine blk_drew ?_ | refine blk_alloc ?_ _)); refine blk_put (cs := #[.int .i64 0, .string (⟨#[]⟩ : ByteArray), .int .i64 0, .int .i64 0]) ?_ 0 _ rfl; (with_reducible repeat (first | refine blk_drewN ?_ _ | refine blk_drew ?_ | refine blk_alloc ?_ _)); exact BK202.out) k_ hk)); (case aO => exact (by (with_reducible repeat (first | apply Kd.R_alloc | apply Kd.R_drewN | apply Kd.R_drew)); exact Kd.R_mono (Kd.R_far (p := ⟨gb202, 3, none⟩) (Kd.R_far (p := ⟨gb202, 3, none⟩) (Kd.R_far (p := ⟨gb202, 2, none⟩) (Kd.R_far (p := ⟨gb202, 1, none⟩) (Kd.R_far (p := ⟨gb202, 0, none⟩) (Kd.R_mono HO_7.out (fun k_ hk => (⟨hk, hk.2⟩ : _ ∧ k_ ≠ gb202))) (fun _ hk => hk.2) (.int .i64 t196)) (fun _ hk => hk.2) (.string t197)) (fun _ hk => hk.2) (.int .i64 t198)) (fun _ hk => hk.2) (.int .i64 t199)) (fun _ hk => hk.2) (.int .i64 t194)) (fun _ hk => hk.1.2))); (case aS => exact (below_size (by repeat (first | (with_reducible first | exact HB.out | apply below_alloc | apply pw_below_drewN | apply below_drew1 | refine below_set ?_ GE202.out) | exact HB.out)))); (case aL => have := LMc11.out; omega); intro v204 w16 ho hb hg hat; rw [← Ny203.out] at ho; have n0_ := Aside0.mk (blk_grown (g := gb202) (o := .cells #[.int .i64 t196, .string t197, .int .i64 t198, .int .i64 t194] 36 (0, 0)) (by (with_reducible repeat (first | refine blk_drewN ?_ _ | refine blk_drew ?_ | refine blk_alloc ?_ _)); refine blk_put (cs := #[.int .i64 t196, .string t197, .int .i64 t198, .int .i64 t199]) ?_ 3 _ rfl; (with_reducible repeat (first | refine blk_drewN ?_ _ | refine blk_drew ?_ | refine blk_alloc ?_ _)); refine blk_put (cs := #[.int .i64 t196, .string t197, .int .i64 t198, .int .i64 0]) ?_ 3 _ rfl; (with_reducible repeat (first | refine blk_drewN ?_ _ | refine blk_drew ?_ | refine blk_alloc ?_ _)); refine blk_put (cs := #[.int .i64 t196, .string t197, .int .i64 0, .int .i64 0]) ?_ 2 _ rfl; (with_reducible repeat (first | refine blk_drewN ?_ _ | refine blk_drew ?_ | refine blk_alloc ?_ _)); refine blk_put (cs := #[.int .i64 t196, .string (⟨#[]⟩ : ByteArray), .int .i64 0, .int .i64 0]) ?_ 1 _ rfl; (with_reducible repeat (first | refine blk_drewN ?_ _ | refine blk_drew ?_ | refine blk_alloc ?_ _)); refine blk_put (cs := #[.int .i64 0, .string (⟨#[]⟩ : ByteArray), .int .i64 0, .int .i64 0]) ?_ 0 _ rfl; (with_reducible repeat (first | refine blk_drewN ?_ _ | refine blk_drew ?_ | refine blk_alloc ?_ _)); exact BK202.out) hg (Kd.R_away HO_7.out (fun _ hk => hk.2))); have n1_ := Aside0.mk (hb); have n2_ := Aside0.mk (ho); clear BK202; clear HB; clear HO_7; have BK202 := n0_; have HB := n1_; haveI := GW.of HB.out; have HO205 := n2_; clear n0_ n1_ n2_; clear ho hb hg hat))
         go_roundg k1
         case measure => have := HK1.out; omega
         case rel => exact ⟨(y203), (wrap64 (t194 + t200)), (by first | rfl | (simp; done) | (simp [*]; done)), H', ⟨by have := HK1.out; omega⟩, ⟨by (with_reducible repeat (first | apply Kd.R_alloc | apply Kd.R_drewN | apply Kd.R_drew)); exact Kd.R_mono HO205.out (fun _ hk => trivial)⟩, ⟨by repeat (first | (with_reducible first | exact HB.out | apply below_alloc | apply pw_below_drewN | apply below_drew1 | refine below_set ?_ GE202.out) | exact HB.out)⟩⟩
        ·
         rw [if_neg c11] at H
         exact absurd H (by simp)
       ·
        rw [if_neg c10] at H
        have c10b0 : (t201 == 0) = false := beq_eq_false_iff_ne.mpr c10
        have c10b1 : (t201 != 0) = true := bne_iff_ne.mpr c10
        simp only [Option.some.injEq, Prod.mk.injEq] at H
        obtain ⟨rfl, rfl, rfl⟩ := H
        go_wp2_with (first | ((with_reducible refine gate_callee (f := 19) rfl ?_); refine goesL_ (some 17) rfl rfl Tryd.func19 (by kernel_rfl) rfl #[.string a0, .int .i64 x8_1] rfl (by (try simp only [List.map_toArray, List.map_cons, List.map_nil]); first | done | rfl | (simp only [List.length_drop, List.length_take]; rfl)) ?_; (with_reducible refine (lex_skip.calls a0 x8_1 t194 true _ A3.out).mono ?_); rintro e w17 ⟨rfl, hb⟩; refine ⟨_, rfl, ?_⟩; have n0_ := Aside0.mk (Kd.R_below (by (with_reducible repeat (first | apply Kd.R_alloc | apply Kd.R_drewN | apply Kd.R_drew)); exact HO_7.out) hb); have n1_ := Aside0.mk (below_step (by repeat (first | (with_reducible first | exact HB.out | apply below_alloc | apply pw_below_drewN | apply below_drew1) | exact HB.out)) hb); clear HO_7; clear HB; have HO_7 := n0_; have HB := n1_; haveI := GW.of HB.out; clear n0_ n1_; (try clear hb); (try clear hb2); (try clear hk); (try clear hi)) | ((with_reducible refine gate_callee (f := 20) rfl ?_); refine goesL_ (some 33) rfl rfl Tryd.func20 (by kernel_rfl) rfl #[.string (a0.extract (t194 : Int).toNat a0.size), .bool a1] rfl (by (try simp only [List.map_toArray, List.map_cons, List.map_nil]); first | done | rfl | (simp only [List.length_drop, List.length_take]; rfl)) ?_; (with_reducible refine (lex_token.calls k1 (a0.extract (t194 : Int).toNat a0.size) a1 t196 t197 t198 t199 t200 t201 _ A9.out).mono ?_); rintro e w18 ⟨rfl, hb⟩; refine ⟨_, rfl, ?_⟩; have n0_ := Aside0.mk (Kd.R_below (by (with_reducible repeat (first | apply Kd.R_alloc | apply Kd.R_drewN | apply Kd.R_drew)); exact HO_7.out) hb); have n1_ := Aside0.mk (below_step (by repeat (first | (with_reducible first | exact HB.out | apply below_alloc | apply pw_below_drewN | apply below_drew1) | exact HB.out)) hb); clear HO_7; clear HB; have HO_7 := n0_; have HB := n1_; haveI := GW.of HB.out; clear n0_ n1_; (try clear hb); (try clear hb2); (try clear hk); (try clear hi)) | ((with_reducible refine gate_dst (N := 11) rfl ?_); refine box_event ?hg (N := 11) ?hd (cs := #[.int .i64 0, .string (⟨#[]⟩ : ByteArray), .int .i64 0, .int .i64 0]) (t := 36) ?hr ?_; (case hd => rfl); (case hg => rfl); (case hr => first | (go_simp; done) | (go_simp; rfl)); intro gb202 hg w19 hbox hb; have n0_ := Aside0.mk (Kd.R_below (Kd.R_elderB (by (with_reducible repeat (first | apply Kd.R_alloc | apply Kd.R_drewN | apply Kd.R_drew)); exact HO_7.out) gb202 (Nat.le_of_eq hg.symm)) hb); have n1_ := Aside0.mk (below_step (by repeat (first | (with_reducible first | exact HB.out | apply below_alloc | apply pw_below_drewN | apply below_drew1) | exact HB.out)) hb); have n2_ := Aside0.mk (hbox); have n3_ := Aside0.mk ((by rw [hg]; exact (below_size (by repeat (first | (with_reducible first | exact HB.out | apply below_alloc | apply pw_below_drewN | apply below_drew1) | exact HB.out))) : w.heap.size ≤ gb202)); have n4_ := Aside0.mk ((by rw [hg]; exact (below_size (by repeat (first | (with_reducible first | exact HB.out | apply below_alloc | apply pw_below_drewN | apply below_drew1) | exact HB.out))) : w.heap.size ≤ gb202)); clear HO_7; clear HB; have HO_7 := n0_; have HB := n1_; haveI := GW.of HB.out; have BK202 := n2_; have GW202 := n3_; have GE202 := n4_; clear n0_ n1_ n2_ n3_ n4_; clear hb hbox hg; have hcz20_0 : w19.cell? ⟨gb202, 0, none⟩ = some (.int .i64 0) := (blk_cell BK202.out 0).trans rfl; have hcz20_1 : w19.cell? ⟨gb202, 1, none⟩ = some (.string (⟨#[]⟩ : ByteArray)) := (blk_cell BK202.out 1).trans rfl; have hcz20_2 : w19.cell? ⟨gb202, 2, none⟩ = some (.int .i64 0) := (blk_cell BK202.out 2).trans rfl; have hcz20_3 : w19.cell? ⟨gb202, 3, none⟩ = some (.int .i64 0) := (blk_cell BK202.out 3).trans rfl; have hfz20_0 := blk_frozen BK202.out 0; have hfz20_1 := blk_frozen BK202.out 1; have hfz20_2 := blk_frozen BK202.out 2; have hfz20_3 := blk_frozen BK202.out 3))
        go_ret3
        exact ⟨_, by first | rfl | (simp [errW_none, errW_some] <;> rfl) | (simp [*, errW_none, errW_some] <;> rfl), by first | exact Kd.R_nil _ _ _ _ _ | exact Kd.N_nil _ _ _ _ _ | exact Kd.V_nil _ _ _ _ _ | exact Kd.Q_nil _ _ _ _ _ | exact Kd.S_nil _ _ _ _ _, by repeat (first | (with_reducible first | exact HB.out | apply below_alloc | apply pw_below_drewN | apply below_drew1 | refine below_set ?_ GE202.out) | exact HB.out)⟩
      ·
       rw [if_neg c8] at H
       exact absurd H (by simp)
     ·
      rw [if_neg c7] at H
      exact absurd H (by simp)
   ·
    replace c4 := Bool.eq_false_iff.mpr c4
    subst c4
    have H1 : (some (([] : List (S36)), t194, 40)) = some (r1, r2, r3) := by rw [if_neg (show ¬ (false = true) by decide)] at H; exact H
    clear H
    have H := H1
    clear H1
    simp only [Option.some.injEq, Prod.mk.injEq] at H
    obtain ⟨rfl, rfl, rfl⟩ := H
    go_wp2_with (first | ((with_reducible refine gate_callee (f := 19) rfl ?_); refine goesL_ (some 17) rfl rfl Tryd.func19 (by kernel_rfl) rfl #[.string a0, .int .i64 x8_1] rfl (by (try simp only [List.map_toArray, List.map_cons, List.map_nil]); first | done | rfl | (simp only [List.length_drop, List.length_take]; rfl)) ?_; (with_reducible refine (lex_skip.calls a0 x8_1 t194 false _ A3.out).mono ?_); rintro e w21 ⟨rfl, hb⟩; refine ⟨_, rfl, ?_⟩; have n0_ := Aside0.mk (Kd.R_below (by (with_reducible repeat (first | apply Kd.R_alloc | apply Kd.R_drewN | apply Kd.R_drew)); exact HO_7.out) hb); have n1_ := Aside0.mk (below_step (by repeat (first | (with_reducible first | exact HB.out | apply below_alloc | apply pw_below_drewN | apply below_drew1) | exact HB.out)) hb); clear HO_7; clear HB; have HO_7 := n0_; have HB := n1_; haveI := GW.of HB.out; clear n0_ n1_; (try clear hb); (try clear hb2); (try clear hk); (try clear hi)))
    go_ret3
    exact ⟨_, by first | rfl | (simp [errW_none, errW_some] <;> rfl) | (simp [*, errW_none, errW_some] <;> rfl), by first | exact Kd.R_nil _ _ _ _ _ | exact Kd.N_nil _ _ _ _ _ | exact Kd.V_nil _ _ _ _ _ | exact Kd.Q_nil _ _ _ _ _ | exact Kd.S_nil _ _ _ _ _, by repeat (first | (with_reducible first | exact HB.out | apply below_alloc | apply pw_below_drewN | apply below_drew1) | exact HB.out)⟩

/-! ### runes_Quote -/
theorem rq_width_pos (s : ByteArray) (pos : Nat) (h : pos < s.size) : 1 ≤ (Utf8.decode s pos).2 := by
  by_cases ha : (s[pos]'h).toNat < 128
  · rw [decode_ascii s pos h ha]
    exact Nat.le_refl _
  · exact (decode_high s pos h (by omega)).2
theorem rq_size_pos {s : ByteArray} {i n : Nat} (h : ¬ s.size ≤ i) : i < s.size := by omega
/-- A builder stays one behind whatever leaves the old blocks as they stood. -/
theorem rq_below {T e : TypeId} {B b : Nat} {bs : List Value} {W W' : World} (h : Lib.IsBuilderF T e B b bs W) (hb : Below W.heap.size W W') : Lib.IsBuilderF T e B b bs W' := by
  have one : ∀ p, Lib.BuilderAtF T e B b p bs W → Lib.BuilderAtF T e B b p bs W' := by
    intro p x
    have hlt := x.lt
    obtain ⟨x1, v, x2, x3, x4⟩ := x
    exact ⟨x1, v, (hb.block b hlt).trans x2, x3.kept (row := none) ⟨hb.os, hb.tape, hb.output, hb.size, fun k hk _ => hb.block k hk⟩ (Classical.em _), x4⟩
  rcases h with h | h
  · exact .inl (one _ h)
  · exact .inr (one _ h)
/-- Do the three bytes of U+FFFD stand at place i? -/
def runes_Quote.bad (s : ByteArray) (i : Nat) : Bool := !(((s.extract i s.size).extract 0 3).toList == [239, 191, 189])
theorem runes_Quote.bad_is (s : ByteArray) (i : Nat) : strings_HasPrefix.f (s.extract i s.size) (⟨#[239, 191, 189]⟩ : ByteArray) = some (!runes_Quote.bad s i) := by
  rw [lex_skip.prefix_is, Lib.toList_data ⟨#[239, 191, 189]⟩]
  unfold runes_Quote.bad
  rw [Bool.not_not]
  rfl
/-- What a text's rune at place i is put as. -/
def runes_Quote.one (s : ByteArray) (i : Nat) : List UInt8 :=
  if (Utf8.decode s i).1 = 65533 ∧ runes_Quote.bad s i = true then 92 :: 117 :: 123 :: (hexU (bt s i).toNat ++ [125])
  else if (Utf8.decode s i).1 = 34 ∨ (Utf8.decode s i).1 = 92 then 92 :: Lib.encodeRune (Utf8.decode s i).1
  else if (Utf8.decode s i).1 = 10 then [92, 110]
  else if (Utf8.decode s i).1 = 9 then [92, 116]
  else if (Utf8.decode s i).1 < 32 ∨ (Utf8.decode s i).1 = 127 then 92 :: 117 :: 123 :: (hexU (Utf8.decode s i).1 ++ [125])
  else Lib.encodeRune (Utf8.decode s i).1
def runes_Quote.go (s : ByteArray) : Nat → Nat → List UInt8
  | 0, _ => []
  | k + 1, i => if i < s.size then runes_Quote.one s i ++ runes_Quote.go s k (i + (Utf8.decode s i).2) else []
def runes_Quote.f (a0 : ByteArray) : Option (ByteArray) := if a0.size ≤ 1099511627776 then some ⟨(34 :: (runes_Quote.go a0 a0.size 0 ++ [34])).toArray⟩ else none
theorem runes_Quote.go_end (s : ByteArray) (k i : Nat) (h : ¬ i < s.size) : runes_Quote.go s k i = [] := by
  cases k with
  | zero => rfl
  | succ k => rw [runes_Quote.go, if_neg h]
theorem hexU_le (u : Nat) : (hexU u).length ≤ 2 := by unfold hexU; split <;> simp
theorem rq_piece (u : Nat) : Lib.strCells (((⟨#[92, 117, 123]⟩ : ByteArray) ++ (⟨(hexU u).toArray⟩ : ByteArray)) ++ (⟨#[125]⟩ : ByteArray)) = Lib.byteCells (92 :: 117 :: 123 :: (hexU u ++ [125])) := by
  simp [Lib.strCells, Lib.byteCells, ByteArray.data_append]
theorem rq_piece_size (u : Nat) : (((⟨#[92, 117, 123]⟩ : ByteArray) ++ (⟨(hexU u).toArray⟩ : ByteArray)) ++ (⟨#[125]⟩ : ByteArray)).size ≤ 6 := by
  have := hexU_le u
  rw [Lib.size_eq]
  simp [ByteArray.data_append]
  omega
theorem rq_enc_le (r : Int) : (Lib.encodeRune r).length ≤ 4 := by
  have := (Lib.runeCells_le r).2
  rwa [Lib.runeCells_length] at this
theorem rq_width_le (s : ByteArray) (pos : Nat) : (Utf8.decode s pos).2 ≤ 4 := by
  unfold Utf8.decode
  simp only
  repeat' split
  all_goals first | omega | simp
theorem rq_done {a0 : ByteArray} {pos f : Nat} {acc out : List UInt8} (hp : pos < a0.size) (ho : runes_Quote.one a0 pos = out) (h : acc ++ runes_Quote.go a0 (f + 1) pos = 34 :: runes_Quote.go a0 a0.size 0) : (acc ++ out) ++ runes_Quote.go a0 f (pos + (Utf8.decode a0 pos).2) = 34 :: runes_Quote.go a0 a0.size 0 := by
  rw [← h, runes_Quote.go, if_pos hp, ho, List.append_assoc]
set_option maxHeartbeats 8000000 in
set_option maxRecDepth 100000 in
theorem runes_Quote.calls (a0 : ByteArray) (r : ByteArray) (w : World) [GW w] (h : runes_Quote.f a0 = some r) :
    Calls Tryd.prog 41 #[.string a0] w fun e w' => e = .returned (.string r) ∧ Below w.heap.size w w' := by
  unfold runes_Quote.f at h
  split at h
  · rename_i hs
    obtain rfl := Option.some.inj h
    have HB0 : Aside0 (Below w.heap.size w (w.alloc (.cells #[.pointer none, .slice none 0 0] 68))) := ⟨(Below.refl _ _).alloc (Nat.le_refl _) _⟩
    have HI0 : Aside0 (Lib.IsBuilderF 68 5 w.heap.size w.heap.size [] (w.alloc (.cells #[.pointer none, .slice none 0 0] 68))) := ⟨Lib.IsBuilderF.of (Lib.fresh_isBuilder 68 5 w)⟩
    go_enter Tryd.func41, Tryd.ntmps41
    go_wp2_with (go_at_call 59; refine (Tryd.Builder_WriteByte_k w.heap.size w.heap.size [] 34 _ HI0.out (by simp) (by simp)).mono ?_; rintro e W0 ⟨rfl, h1, b1, k1⟩)
    have HB1 := Aside0.mk (HB0.out.trans b1)
    have HI1 := Aside0.mk (show Lib.IsBuilderF 68 5 w.heap.size w.heap.size (Lib.byteCells [34]) W0 from Or.inr h1)
    have HZ1 : Aside0 (w.heap.size + 1 ≤ W0.heap.size) := ⟨by have := b1.size; simp at this; omega⟩
    clear h1 b1 k1 HB0 HI0
    go_wp2
    go_loopw [] (fun wr => ∃ (pos fuel : Nat) (acc : List UInt8), Aside0 (Lib.IsBuilderF 68 5 w.heap.size w.heap.size (Lib.byteCells acc) wr) ∧ Aside0 (wr.heap[W0.heap.size]? = some (.stringIter a0 pos)) ∧ Aside0 (Below w.heap.size w wr) ∧ Aside0 (acc ++ runes_Quote.go a0 fuel pos = 34 :: runes_Quote.go a0 a0.size 0) ∧ Aside0 (a0.size ≤ pos + fuel ∧ pos ≤ a0.size + 4 ∧ acc.length ≤ 1 + 8 * pos)) (fun wr => a0.size - wr.iterPos W0.heap.size)
    case atStart =>
      refine ⟨0, a0.size, [34], ⟨HI1.out.alloc _⟩, ⟨World.iter_heap W0 a0 0⟩, ⟨HB1.out.alloc (by have := HZ1.out; omega) _⟩, ⟨rfl⟩, ⟨by omega, by omega, by simp⟩⟩
    case round =>
      obtain ⟨pos, fuel, acc, HI, HIT, HB, HA, HF⟩ := hrel
      have hit := HIT.out
      have hsz : W0.heap.size < wr.heap.size := (Array.getElem?_eq_some_iff.1 hit).1
      have hz1 := HZ1.out
      by_cases hp : pos < a0.size
      · have hnx : ∀ ty, (Instr.next (.pointer (some ⟨W0.heap.size, 0, none⟩)) true ty).run Tryd.prog wr = _ := fun ty => Lib.run_next_any_at wr W0.heap.size a0 pos ty hit hp
        have hwd := rq_width_pos a0 pos hp
        have hd1 := decode_le a0 pos
        have HI2 := Aside0.mk (HI.out.iterAt hit (pos + (Utf8.decode a0 pos).2))
        have HT2 := Aside0.mk (Lib.iterAt_heap wr W0.heap.size a0 pos (pos + (Utf8.decode a0 pos).2) hit)
        have HB2 := Aside0.mk (Lib.below_iterAt HB.out (k := W0.heap.size) (by omega) a0 (pos + (Utf8.decode a0 pos).2))
        have HZ2 : Aside0 (w.heap.size ≤ (wr.iterAt W0.heap.size a0 (pos + (Utf8.decode a0 pos).2)).heap.size) := ⟨by rw [Lib.iterAt_size]; omega⟩
        haveI := GW.of HB2.out
        obtain ⟨f, rfl⟩ : ∃ f, fuel = f + 1 := ⟨fuel - 1, by have := HF.out; omega⟩
        have HF : Aside0 (a0.size ≤ pos + (f + 1) ∧ acc.length ≤ 1 + 8 * pos ∧ pos < a0.size ∧ a0.size ≤ 1099511627776 ∧ 1 ≤ (Utf8.decode a0 pos).2 ∧ (Utf8.decode a0 pos).2 ≤ 4) := ⟨HF.out.1, HF.out.2.2, hp, hs, hwd, rq_width_le a0 pos⟩
        clear HI HB hit
        by_cases c1 : (Utf8.decode a0 pos).1 = 65533
        · have p1 : decide ((pos : Int) ≤ (a0.size : Int)) = true := decide_eq_true (by omega)
          have hp' : (pos : Int) < (a0.size : Int) := by omega
          by_cases c2 : runes_Quote.bad a0 pos = true
          · have HX := Aside0.mk ((bt_at a0 (pos : Int) : ∀ h : pos < a0.size, ((a0[pos]'h).toNat : Int) = bt a0 (pos : Int)) hp)
            have HU2 : Aside0 ((a0[pos]'hp).toNat < 256) := ⟨(a0[pos]'hp).toNat_lt⟩
            have hwr : wrap64 ((a0[pos]'hp).toNat : Int) = ((a0[pos]'hp).toNat : Int) := by have := HU2.out; unfold wrap64; omega
            go_wp2_with (go_at_call 26; refine (strings_HasPrefix.calls (a0.extract pos a0.size) (⟨#[239, 191, 189]⟩ : ByteArray) false _ (by rw [runes_Quote.bad_is, c2]; rfl)).mono ?_; rintro e W3 ⟨rfl, hd⟩; have hb3 := hd.below; have HI3 := Aside0.mk (rq_below HI2.out hb3); have HT3 := Aside0.mk ((hb3.block _ (Array.getElem?_eq_some_iff.1 HT2.out).1).trans HT2.out); have HB3 := Aside0.mk (below_step HB2.out hb3); have HZ3 := Aside0.mk (Nat.le_trans HZ2.out hb3.size); haveI := GW.of HB3.out; clear hb3 hd)
            have HO : Aside0 (runes_Quote.one a0 pos = 92 :: 117 :: 123 :: (hexU ((a0[pos]'hp).toNat) ++ [125])) := ⟨by rw [runes_Quote.one, if_pos ⟨c1, c2⟩, ← HX.out, Int.toNat_natCast]; rfl⟩
            have g1 : (9223372036854775807 < 3 + (hexU ((a0[pos]'hp).toNat)).length) = False := eq_false (by have := hexU_le ((a0[pos]'hp).toNat); omega)
            have g2 : (9223372036854775807 < 3 + (hexU ((a0[pos]'hp).toNat)).length + 1) = False := eq_false (by have := hexU_le ((a0[pos]'hp).toNat); omega)
            have s1 := rq_piece_size ((a0[pos]'hp).toNat)
            have SZ1 := Aside0.mk s1
            clear s1
            go_wp2_with (go_at_call 60; (refine (FormatInt16 (h := ?gw) ((a0[pos]'hp).toNat) HU2.out _).mono ?_; (case gw => infer_instance); rintro e W4 ⟨rfl, hb4⟩; have HI4 := Aside0.mk (rq_below HI3.out hb4); have HT4 := Aside0.mk ((hb4.block _ (Array.getElem?_eq_some_iff.1 HT3.out).1).trans HT3.out); have HB4 := Aside0.mk (below_step HB3.out hb4); have HZ4 := Aside0.mk (Nat.le_trans HZ3.out hb4.size); clear hb4))
            go_wp2_with (go_at_call 43; (refine (Tryd.Builder_WriteString_k w.heap.size w.heap.size _ (((⟨#[92, 117, 123]⟩ : ByteArray) ++ (⟨(hexU ((a0[pos]'hp).toNat)).toArray⟩ : ByteArray)) ++ (⟨#[125]⟩ : ByteArray)) _ HI4.out (by rw [Lib.byteCells_length]; have := HF.out; have h_ := SZ1.out; omega) HZ4.out).mono ?_; rintro e W5 ⟨rfl, h1, b1, k1⟩))
            have HI9 := Aside0.mk (show Lib.IsBuilderF 68 5 w.heap.size w.heap.size (Lib.byteCells (acc ++ (92 :: 117 :: 123 :: (hexU ((a0[pos]'hp).toNat) ++ [125])))) W5 from by rw [Lib.byteCells_append, ← rq_piece]; exact Or.inr h1)
            have HT9 := Aside0.mk (k1.iter HT4.out (by omega))
            have HB9 := Aside0.mk (HB4.out.trans b1)
            have HL3 : Aside0 (((92 :: 117 :: 123 :: (hexU ((a0[pos]'hp).toNat) ++ [125])) : List UInt8).length ≤ 8) := ⟨by have := hexU_le ((a0[pos]'hp).toNat); simp; omega⟩
            clear h1 b1 k1
            go_wp2
            go_roundw
            case rel => exact ⟨_, f, _, HI9, HT9, HB9, ⟨rq_done hp HO.out HA.out⟩, ⟨by have := HF.out; have := HL3.out; refine ⟨by omega, by omega, ?_⟩; rw [List.length_append]; omega⟩⟩
            case measure =>
              simp only [World.iterPos, HT9.out, HIT.out]
              omega
          · have c2b : runes_Quote.bad a0 pos = false := by simpa using c2
            go_wp2_with (go_at_call 26; refine (strings_HasPrefix.calls (a0.extract pos a0.size) (⟨#[239, 191, 189]⟩ : ByteArray) true _ (by rw [runes_Quote.bad_is, c2b]; rfl)).mono ?_; rintro e W3 ⟨rfl, hd⟩; have hb3 := hd.below; have HI3 := Aside0.mk (rq_below HI2.out hb3); have HT3 := Aside0.mk ((hb3.block _ (Array.getElem?_eq_some_iff.1 HT2.out).1).trans HT2.out); have HB3 := Aside0.mk (below_step HB2.out hb3); have HZ3 := Aside0.mk (Nat.le_trans HZ2.out hb3.size); haveI := GW.of HB3.out; clear hb3 hd)
            have HO : Aside0 (runes_Quote.one a0 pos = Lib.encodeRune 65533) := ⟨by rw [runes_Quote.one, if_neg (fun h => c2 h.2), if_neg (by omega), if_neg (by omega), if_neg (by omega), if_neg (by omega), c1]; rfl⟩
            go_wp2_with (go_at_call 61; (refine (Tryd.Builder_WriteRune_k w.heap.size w.heap.size _ _ (by omega) (by omega) _ HI3.out (by rw [Lib.byteCells_length]; have := HF.out; omega) HZ3.out).mono ?_; rintro e W5 ⟨rfl, h1, b1, k1⟩))
            have HI9 := Aside0.mk (show Lib.IsBuilderF 68 5 w.heap.size w.heap.size (Lib.byteCells (acc ++ (Lib.encodeRune 65533))) W5 from by rw [Lib.byteCells_append, Lib.byteCells_encodeRune]; exact Or.inr h1)
            have HT9 := Aside0.mk (k1.iter HT3.out (by omega))
            have HB9 := Aside0.mk (HB3.out.trans b1)
            have HL3 : Aside0 (((Lib.encodeRune 65533) : List UInt8).length ≤ 8) := ⟨Nat.le_trans (rq_enc_le _) (by omega)⟩
            clear h1 b1 k1
            go_wp2
            go_roundw
            case rel => exact ⟨_, f, _, HI9, HT9, HB9, ⟨rq_done hp HO.out HA.out⟩, ⟨by have := HF.out; have := HL3.out; refine ⟨by omega, by omega, ?_⟩; rw [List.length_append]; omega⟩⟩
            case measure =>
              simp only [World.iterPos, HT9.out, HIT.out]
              omega
        · by_cases c2 : (Utf8.decode a0 pos).1 = 34 ∨ (Utf8.decode a0 pos).1 = 92
          · have HO : Aside0 (runes_Quote.one a0 pos = 92 :: Lib.encodeRune (Utf8.decode a0 pos).1) := ⟨by rw [runes_Quote.one, if_neg (fun h => c1 h.1), if_pos c2]⟩
            have e65533 : (((Utf8.decode a0 pos).1 : Int) == 65533) = false := beq_eq_false_iff_ne.2 (by omega)
            have e1 : (((Utf8.decode a0 pos).1 : Int) == 34) = true ∨ (((Utf8.decode a0 pos).1 : Int) == 34) = false ∧ (((Utf8.decode a0 pos).1 : Int) == 92) = true := by
              simp only [beq_iff_eq, beq_eq_false_iff_ne]
              omega
            have HD := Aside0.mk hd1
            clear hd1
            obtain ⟨r, hr⟩ : ∃ r : Nat, (Utf8.decode a0 pos).1 = r := ⟨_, rfl⟩
            rw [hr] at e65533 e1
            have HR := Aside0.mk hr
            rw [hr] at hnx
            clear c1 c2 hr
            rcases e1 with e1 | ⟨e1, e2⟩
            all_goals
              go_wp2_with (first | (go_at_call 59; refine (Tryd.Builder_WriteByte_k w.heap.size w.heap.size _ 92 _ HI2.out (by rw [Lib.byteCells_length]; have := HF.out; omega) HZ2.out).mono ?_; rintro e W4 ⟨rfl, h1, b1, k1⟩; have HI4 := Aside0.mk (show Lib.IsBuilderF 68 5 w.heap.size w.heap.size (Lib.byteCells (acc ++ [92])) W4 from by rw [Lib.byteCells_append]; exact Or.inr h1); have HT4 := Aside0.mk (k1.iter HT2.out (by omega)); have HB4 := Aside0.mk (HB2.out.trans b1); have HZ4 := Aside0.mk (Nat.le_trans HZ2.out b1.size); clear h1 b1 k1))
              refine (Tryd.Builder_WriteRune_k w.heap.size w.heap.size _ _ (by omega) (by have := HD.out; have := HR.out; omega) _ HI4.out (by rw [Lib.byteCells_length, List.length_append]; have := HF.out; simp only [List.length_cons, List.length_nil]; omega) HZ4.out).mono ?_
              rintro e W5 ⟨rfl, h1, b1, k1⟩
              have HI9 := Aside0.mk (show Lib.IsBuilderF 68 5 w.heap.size w.heap.size (Lib.byteCells (acc ++ (92 :: Lib.encodeRune (r : Int)))) W5 from by rw [show acc ++ (92 :: Lib.encodeRune (r : Int)) = (acc ++ [92]) ++ Lib.encodeRune (r : Int) by simp, Lib.byteCells_append, Lib.byteCells_encodeRune]; exact Or.inr h1)
              have HT9 := Aside0.mk (k1.iter HT4.out (by omega))
              have HB9 := Aside0.mk (HB4.out.trans b1)
              have HL3 : Aside0 ((92 :: Lib.encodeRune (r : Int) : List UInt8).length ≤ 8) := ⟨by have := rq_enc_le (r : Int); simp only [List.length_cons]; omega⟩
              have HO2 : Aside0 (runes_Quote.one a0 pos = 92 :: Lib.encodeRune (r : Int)) := ⟨by rw [HO.out, HR.out]⟩
              clear h1 b1 k1
              go_wp2
              go_roundw
              case rel => exact ⟨_, f, _, HI9, HT9, HB9, ⟨rq_done hp HO2.out HA.out⟩, ⟨by have := HF.out; have := HL3.out; refine ⟨by omega, by omega, ?_⟩; rw [List.length_append]; omega⟩⟩
              case measure =>
                simp only [World.iterPos, HT9.out, HIT.out]
                omega
          · have e34 : (((Utf8.decode a0 pos).1 : Int) == 34) = false := beq_eq_false_iff_ne.2 (by omega)
            have e92 : (((Utf8.decode a0 pos).1 : Int) == 92) = false := beq_eq_false_iff_ne.2 (by omega)
            have e65533 : (((Utf8.decode a0 pos).1 : Int) == 65533) = false := beq_eq_false_iff_ne.2 (by omega)
            by_cases c3 : (Utf8.decode a0 pos).1 = 10
            · have HO : Aside0 (runes_Quote.one a0 pos = [92, 110]) := ⟨by rw [runes_Quote.one, if_neg (fun h => c1 h.1), if_neg c2, if_pos c3]⟩
              go_wp2_with (go_at_call 43; (refine (Tryd.Builder_WriteString_k w.heap.size w.heap.size _ (⟨#[92, 110]⟩ : ByteArray) _ HI2.out (by rw [Lib.byteCells_length]; have := HF.out; have h_ : (⟨#[92, 110]⟩ : ByteArray).size = 2 := rfl; omega) HZ2.out).mono ?_; rintro e W5 ⟨rfl, h1, b1, k1⟩))
              have HI9 := Aside0.mk (show Lib.IsBuilderF 68 5 w.heap.size w.heap.size (Lib.byteCells (acc ++ [92, 110])) W5 from by rw [Lib.byteCells_append]; exact Or.inr h1)
              have HT9 := Aside0.mk (k1.iter HT2.out (by omega))
              have HB9 := Aside0.mk (HB2.out.trans b1)
              have HL3 : Aside0 (([92, 110] : List UInt8).length ≤ 8) := ⟨by simp⟩
              clear h1 b1 k1
              go_wp2
              go_roundw
              case rel => exact ⟨_, f, _, HI9, HT9, HB9, ⟨rq_done hp HO.out HA.out⟩, ⟨by have := HF.out; have := HL3.out; refine ⟨by omega, by omega, ?_⟩; rw [List.length_append]; omega⟩⟩
              case measure =>
                simp only [World.iterPos, HT9.out, HIT.out]
                omega
            · have e10 : (((Utf8.decode a0 pos).1 : Int) == 10) = false := beq_eq_false_iff_ne.2 (by omega)
              by_cases c4 : (Utf8.decode a0 pos).1 = 9
              · have HO : Aside0 (runes_Quote.one a0 pos = [92, 116]) := ⟨by rw [runes_Quote.one, if_neg (fun h => c1 h.1), if_neg c2, if_neg c3, if_pos c4]⟩
                go_wp2_with (go_at_call 43; (refine (Tryd.Builder_WriteString_k w.heap.size w.heap.size _ (⟨#[92, 116]⟩ : ByteArray) _ HI2.out (by rw [Lib.byteCells_length]; have := HF.out; have h_ : (⟨#[92, 116]⟩ : ByteArray).size = 2 := rfl; omega) HZ2.out).mono ?_; rintro e W5 ⟨rfl, h1, b1, k1⟩))
                have HI9 := Aside0.mk (show Lib.IsBuilderF 68 5 w.heap.size w.heap.size (Lib.byteCells (acc ++ [92, 116])) W5 from by rw [Lib.byteCells_append]; exact Or.inr h1)
                have HT9 := Aside0.mk (k1.iter HT2.out (by omega))
                have HB9 := Aside0.mk (HB2.out.trans b1)
                have HL3 : Aside0 (([92, 116] : List UInt8).length ≤ 8) := ⟨by simp⟩
                clear h1 b1 k1
                go_wp2
                go_roundw
                case rel => exact ⟨_, f, _, HI9, HT9, HB9, ⟨rq_done hp HO.out HA.out⟩, ⟨by have := HF.out; have := HL3.out; refine ⟨by omega, by omega, ?_⟩; rw [List.length_append]; omega⟩⟩
                case measure =>
                  simp only [World.iterPos, HT9.out, HIT.out]
                  omega
              · have e9 : (((Utf8.decode a0 pos).1 : Int) == 9) = false := beq_eq_false_iff_ne.2 (by omega)
                by_cases c5 : (Utf8.decode a0 pos).1 < 32 ∨ (Utf8.decode a0 pos).1 = 127
                · by_cases c5a : (Utf8.decode a0 pos).1 < 32
                  · have d32 : decide (((Utf8.decode a0 pos).1 : Int) < 32) = true := decide_eq_true (by omega)
                    have HO : Aside0 (runes_Quote.one a0 pos = 92 :: 117 :: 123 :: (hexU ((Utf8.decode a0 pos).1) ++ [125])) := ⟨by rw [runes_Quote.one, if_neg (fun h => c1 h.1), if_neg c2, if_neg c3, if_neg c4, if_pos c5]⟩
                    have g1 : (9223372036854775807 < 3 + (hexU ((Utf8.decode a0 pos).1)).length) = False := eq_false (by have := hexU_le ((Utf8.decode a0 pos).1); omega)
                    have g2 : (9223372036854775807 < 3 + (hexU ((Utf8.decode a0 pos).1)).length + 1) = False := eq_false (by have := hexU_le ((Utf8.decode a0 pos).1); omega)
                    have s1 := rq_piece_size ((Utf8.decode a0 pos).1)
                    have SZ1 := Aside0.mk s1
                    clear s1
                    go_wp2_with (go_at_call 60; (refine (FormatInt16 (h := ?gw) ((Utf8.decode a0 pos).1) (by omega) _).mono ?_; (case gw => infer_instance); rintro e W4 ⟨rfl, hb4⟩; have HI4 := Aside0.mk (rq_below HI2.out hb4); have HT4 := Aside0.mk ((hb4.block _ (Array.getElem?_eq_some_iff.1 HT2.out).1).trans HT2.out); have HB4 := Aside0.mk (below_step HB2.out hb4); have HZ4 := Aside0.mk (Nat.le_trans HZ2.out hb4.size); clear hb4))
                    go_wp2_with (go_at_call 43; (refine (Tryd.Builder_WriteString_k w.heap.size w.heap.size _ (((⟨#[92, 117, 123]⟩ : ByteArray) ++ (⟨(hexU ((Utf8.decode a0 pos).1)).toArray⟩ : ByteArray)) ++ (⟨#[125]⟩ : ByteArray)) _ HI4.out (by rw [Lib.byteCells_length]; have := HF.out; have h_ := SZ1.out; omega) HZ4.out).mono ?_; rintro e W5 ⟨rfl, h1, b1, k1⟩))
                    have HI9 := Aside0.mk (show Lib.IsBuilderF 68 5 w.heap.size w.heap.size (Lib.byteCells (acc ++ (92 :: 117 :: 123 :: (hexU ((Utf8.decode a0 pos).1) ++ [125])))) W5 from by rw [Lib.byteCells_append, ← rq_piece]; exact Or.inr h1)
                    have HT9 := Aside0.mk (k1.iter HT4.out (by omega))
                    have HB9 := Aside0.mk (HB4.out.trans b1)
                    have HL3 : Aside0 (((92 :: 117 :: 123 :: (hexU ((Utf8.decode a0 pos).1) ++ [125])) : List UInt8).length ≤ 8) := ⟨by have := hexU_le ((Utf8.decode a0 pos).1); simp; omega⟩
                    clear h1 b1 k1
                    go_wp2
                    go_roundw
                    case rel => exact ⟨_, f, _, HI9, HT9, HB9, ⟨rq_done hp HO.out HA.out⟩, ⟨by have := HF.out; have := HL3.out; refine ⟨by omega, by omega, ?_⟩; rw [List.length_append]; omega⟩⟩
                    case measure =>
                      simp only [World.iterPos, HT9.out, HIT.out]
                      omega
                  · have c5b : (Utf8.decode a0 pos).1 = 127 := by omega
                    have HO : Aside0 (runes_Quote.one a0 pos = 92 :: 117 :: 123 :: (hexU (127) ++ [125])) := ⟨by rw [runes_Quote.one, if_neg (fun h => c1 h.1), if_neg c2, if_neg c3, if_neg c4, if_pos c5, c5b]⟩
                    have g1 : (9223372036854775807 < 3 + (hexU (127)).length) = False := eq_false (by have := hexU_le (127); omega)
                    have g2 : (9223372036854775807 < 3 + (hexU (127)).length + 1) = False := eq_false (by have := hexU_le (127); omega)
                    have s1 := rq_piece_size (127)
                    have SZ1 := Aside0.mk s1
                    clear s1
                    go_wp2_with (go_at_call 60; (refine (FormatInt16 (h := ?gw) (127) (by omega) _).mono ?_; (case gw => infer_instance); rintro e W4 ⟨rfl, hb4⟩; have HI4 := Aside0.mk (rq_below HI2.out hb4); have HT4 := Aside0.mk ((hb4.block _ (Array.getElem?_eq_some_iff.1 HT2.out).1).trans HT2.out); have HB4 := Aside0.mk (below_step HB2.out hb4); have HZ4 := Aside0.mk (Nat.le_trans HZ2.out hb4.size); clear hb4))
                    go_wp2_with (go_at_call 43; (refine (Tryd.Builder_WriteString_k w.heap.size w.heap.size _ (((⟨#[92, 117, 123]⟩ : ByteArray) ++ (⟨(hexU (127)).toArray⟩ : ByteArray)) ++ (⟨#[125]⟩ : ByteArray)) _ HI4.out (by rw [Lib.byteCells_length]; have := HF.out; have h_ := SZ1.out; omega) HZ4.out).mono ?_; rintro e W5 ⟨rfl, h1, b1, k1⟩))
                    have HI9 := Aside0.mk (show Lib.IsBuilderF 68 5 w.heap.size w.heap.size (Lib.byteCells (acc ++ (92 :: 117 :: 123 :: (hexU (127) ++ [125])))) W5 from by rw [Lib.byteCells_append, ← rq_piece]; exact Or.inr h1)
                    have HT9 := Aside0.mk (k1.iter HT4.out (by omega))
                    have HB9 := Aside0.mk (HB4.out.trans b1)
                    have HL3 : Aside0 (((92 :: 117 :: 123 :: (hexU (127) ++ [125])) : List UInt8).length ≤ 8) := ⟨by have := hexU_le (127); simp; omega⟩
                    clear h1 b1 k1
                    go_wp2
                    go_roundw
                    case rel => exact ⟨_, f, _, HI9, HT9, HB9, ⟨rq_done hp HO.out HA.out⟩, ⟨by have := HF.out; have := HL3.out; refine ⟨by omega, by omega, ?_⟩; rw [List.length_append]; omega⟩⟩
                    case measure =>
                      simp only [World.iterPos, HT9.out, HIT.out]
                      omega
                · obtain ⟨c5a, c5b⟩ : ¬ (Utf8.decode a0 pos).1 < 32 ∧ ¬ (Utf8.decode a0 pos).1 = 127 := by omega
                  have d32 : decide (((Utf8.decode a0 pos).1 : Int) < 32) = false := decide_eq_false (by omega)
                  have e127 : (((Utf8.decode a0 pos).1 : Int) == 127) = false := beq_eq_false_iff_ne.2 (by omega)
                  have HO : Aside0 (runes_Quote.one a0 pos = Lib.encodeRune (Utf8.decode a0 pos).1) := ⟨by rw [runes_Quote.one, if_neg (fun h => c1 h.1), if_neg c2, if_neg c3, if_neg c4, if_neg c5]⟩
                  go_wp2_with (go_at_call 61; (refine (Tryd.Builder_WriteRune_k w.heap.size w.heap.size _ _ (by omega) (by omega) _ HI2.out (by rw [Lib.byteCells_length]; have := HF.out; omega) HZ2.out).mono ?_; rintro e W5 ⟨rfl, h1, b1, k1⟩))
                  have HI9 := Aside0.mk (show Lib.IsBuilderF 68 5 w.heap.size w.heap.size (Lib.byteCells (acc ++ (Lib.encodeRune (Utf8.decode a0 pos).1))) W5 from by rw [Lib.byteCells_append, Lib.byteCells_encodeRune]; exact Or.inr h1)
                  have HT9 := Aside0.mk (k1.iter HT2.out (by omega))
                  have HB9 := Aside0.mk (HB2.out.trans b1)
                  have HL3 : Aside0 (((Lib.encodeRune (Utf8.decode a0 pos).1) : List UInt8).length ≤ 8) := ⟨Nat.le_trans (rq_enc_le _) (by omega)⟩
                  clear h1 b1 k1
                  go_wp2
                  go_roundw
                  case rel => exact ⟨_, f, _, HI9, HT9, HB9, ⟨rq_done hp HO.out HA.out⟩, ⟨by have := HF.out; have := HL3.out; refine ⟨by omega, by omega, ?_⟩; rw [List.length_append]; omega⟩⟩
                  case measure =>
                    simp only [World.iterPos, HT9.out, HIT.out]
                    omega
      · have hnx : ∀ ty, (Instr.next (.pointer (some ⟨W0.heap.size, 0, none⟩)) true ty).run Tryd.prog wr = _ := fun ty => Lib.run_next_end_at wr W0.heap.size a0 pos ty hit hp
        have HF : Aside0 (pos ≤ a0.size + 4 ∧ acc.length ≤ 1 + 8 * pos ∧ a0.size ≤ 1099511627776) := ⟨HF.out.2.1, HF.out.2.2, hs⟩
        have hacc := HA.out
        rw [runes_Quote.go_end a0 fuel pos hp, List.append_nil] at hacc
        have HA2 := Aside0.mk hacc
        have HZ2 := Aside0.mk (HB.out.size)
        clear hacc HA
        go_wp2_with (first | (go_at_call 59; refine (Tryd.Builder_WriteByte_k w.heap.size w.heap.size _ 34 _ HI.out (by rw [Lib.byteCells_length]; have := HF.out; omega) HZ2.out).mono ?_; rintro e W4 ⟨rfl, h1, b1, k1⟩; have HI4 := Aside0.mk (show Lib.IsBuilderF 68 5 w.heap.size w.heap.size (Lib.byteCells (acc ++ [34])) W4 from by rw [Lib.byteCells_append]; exact Or.inr h1); have HB4 := Aside0.mk (HB.out.trans b1); have HZ4 := Aside0.mk (Nat.le_trans HZ2.out b1.size); clear h1 b1 k1) | (go_at_call 44; refine (Tryd.Builder_String_any_k w.heap.size w.heap.size (acc ++ [34]) _ HI4.out HZ4.out).mono ?_; rintro e W5 ⟨rfl, h1, b1, k1⟩; have HB5 := Aside0.mk (HB4.out.trans b1); clear h1 b1 k1))
        go_wp2
        go_ret
        rw [← List.cons_append, ← HA2.out]
        exact ⟨rfl, HB5.out⟩
  · cases h
/-! ### lex_text -/
/-- A token's text, before it is read. -/
def lex_text.s (kd : Int) (tx : ByteArray) (n : Int) : Option ByteArray := if kd = 3 then strconv_Itoa_40.f n else if kd = 4 then runes_Quote.f tx else some tx
def lex_text.f (k : Nat) (a0_0 : Int) (a0_1 : ByteArray) (a0_2 : Int) (a0_3 : Int) : Option (ByteArray × Bool) :=
  (lex_text.s a0_0 a0_1 a0_2).bind fun s => (lex_Lex.f k s true).bind fun b =>
    if b.2.2 = 0 then (if b.1.length = 1 then (if ((rd_T36 b.1 0).f0 == a0_0 && ((rd_T36 b.1 0).f1.toList == a0_1.toList && (rd_T36 b.1 0).f2 == a0_2)) = true then some (s, (rd_T36 b.1 0).f3 == 0) else some (s, false)) else some (⟨#[]⟩, false)) else some (⟨#[]⟩, false)
theorem lex_text.mono : ∀ a0 a1 a2 a3 k, LeO (lex_text.f k a0 a1 a2 a3) (lex_text.f (k + 1) a0 a1 a2 a3) := by
  intro a0 a1 a2 a3 k
  unfold lex_text.f
  refine LeO.bind (LeO.refl _) (fun s => ?_)
  exact LeO.bind (lex_Lex.mono _ _ _) (fun _ => LeO.refl _)
attribute [local go_sem high] eqA36
set_option maxHeartbeats 8000000 in
set_option maxRecDepth 100000 in
theorem lex_text.calls (k : Nat) (a0_0 : Int) (a0_1 : ByteArray) (a0_2 : Int) (a0_3 : Int) (r1 : ByteArray) (r2 : Bool) (w : World) [GW w] (h : lex_text.f k a0_0 a0_1 a0_2 a0_3 = some (r1, r2)) :
    Calls Tryd.prog 23 #[.agg #[.int .i64 a0_0, .string a0_1, .int .i64 a0_2, .int .i64 a0_3]] w fun e w' => e = .returned (.tuple #[.string r1, .bool r2]) ∧ Below w.heap.size w w' := by
  have hu36 := Tryd.underlying36
  unfold lex_text.f at h
  obtain ⟨s, hs, h2⟩ := Option.bind_eq_some_iff.mp h
  clear h
  obtain ⟨⟨L, r5, r6⟩, hL, h⟩ := Option.bind_eq_some_iff.mp h2
  clear h2
  have HL := Aside0.mk hL
  have hb : ((a0_0 == 3) = true ∧ Aside0 (strconv_Itoa_40.f a0_2 = some s)) ∨ ((a0_0 == 3) = false ∧ (a0_0 == 4) = true ∧ Aside0 (runes_Quote.f a0_1 = some s)) ∨ ((a0_0 == 3) = false ∧ (a0_0 == 4) = false ∧ a0_1 = s) := by
    unfold lex_text.s at hs
    simp only [beq_iff_eq, beq_eq_false_iff_ne]
    split at hs
    · rename_i h3
      exact Or.inl ⟨h3, ⟨hs⟩⟩
    · rename_i h3
      split at hs
      · rename_i h4
        exact Or.inr (Or.inl ⟨h3, h4, ⟨hs⟩⟩)
      · rename_i h4
        exact Or.inr (Or.inr ⟨h3, h4, Option.some.inj hs⟩)
  have HB : Aside0 (Below w.heap.size w (w.alloc (.cells #[.int .i64 a0_0, .string a0_1, .int .i64 a0_2, .int .i64 a0_3] 36 (0, 0)))) := ⟨(Below.refl _ _).alloc (Nat.le_refl _) _⟩
  have HK : Aside0 ((w.alloc (.cells #[.int .i64 a0_0, .string a0_1, .int .i64 a0_2, .int .i64 a0_3] 36 (0, 0))).heap[w.heap.size]? = some (.cells #[.int .i64 a0_0, .string a0_1, .int .i64 a0_2, .int .i64 a0_3] 36 (0, 0))) := ⟨blk_new w _⟩
  clear hs hL
  have hc : (r6 == 0) = false ∧ r1 = ⟨#[]⟩ ∧ r2 = false ∨ (r6 == 0) = true ∧ ((L.length : Int) == 1) = false ∧ r1 = ⟨#[]⟩ ∧ r2 = false ∨
      (r6 == 0) = true ∧ L.length = 1 ∧ r1 = s ∧ ((((rd_T36 L 0).f0 == a0_0 && ((rd_T36 L 0).f1.toList == a0_1.toList && (rd_T36 L 0).f2 == a0_2)) = true ∧ r2 = ((rd_T36 L 0).f3 == 0)) ∨ (((rd_T36 L 0).f0 == a0_0 && ((rd_T36 L 0).f1.toList == a0_1.toList && (rd_T36 L 0).f2 == a0_2)) = false ∧ r2 = false)) := by
    simp only at h
    split at h
    · rename_i h6
      have h6 : (r6 == 0) = true := beq_iff_eq.2 h6
      split at h
      · rename_i h1
        split at h
        · rename_i hE
          obtain ⟨rfl, rfl⟩ := Prod.mk.inj (Option.some.inj h)
          exact Or.inr (Or.inr ⟨h6, h1, rfl, Or.inl ⟨hE, rfl⟩⟩)
        · rename_i hE
          obtain ⟨rfl, rfl⟩ := Prod.mk.inj (Option.some.inj h)
          exact Or.inr (Or.inr ⟨h6, h1, rfl, Or.inr ⟨by simpa using hE, rfl⟩⟩)
      · rename_i h1
        obtain ⟨rfl, rfl⟩ := Prod.mk.inj (Option.some.inj h)
        exact Or.inr (Or.inl ⟨h6, by rw [beq_eq_false_iff_ne]; omega, rfl, rfl⟩)
    · rename_i h6
      obtain ⟨rfl, rfl⟩ := Prod.mk.inj (Option.some.inj h)
      exact Or.inl ⟨beq_eq_false_iff_ne.2 h6, rfl, rfl⟩
  clear h
  rcases hc with ⟨e6, rfl, rfl⟩ | ⟨e6, e1, rfl, rfl⟩ | ⟨e6, hl1, rfl, hE⟩
  · have e6b : (r6 != 0) = true := by simp [bne, e6]
    rcases hb with ⟨e3, HS⟩ | ⟨e3, e4, HS⟩ | ⟨e3, e4, rfl⟩
    all_goals
      go_enter Tryd.func23, Tryd.ntmps23
      go_wp2_with (first | (go_at_call 40; refine (strconv_Itoa_40.calls a0_2 s _ HS.out).mono ?_; rintro e W1 ⟨rfl, hb1⟩; have HB := Aside0.mk (below_step HB.out hb1); haveI := GW.of HB.out; clear hb1) | (go_at_call 41; refine (runes_Quote.calls a0_1 s _ HS.out).mono ?_; rintro e W1 ⟨rfl, hb1⟩; have HB := Aside0.mk (below_step HB.out hb1); haveI := GW.of HB.out; clear hb1) | (go_at_call 10; refine (lex_Lex.calls k _ true L r5 r6 _ HL.out).mono ?_; rintro e W2 ⟨v0, rfl, hR, hb2⟩; obtain ⟨A, c, rfl⟩ := Kd.R_slice hR; have HB := Aside0.mk (below_step HB.out hb2); clear hb2 hR))
      go_ret2
      exact ⟨rfl, HB.out⟩
  · have e6b : (r6 != 0) = false := by simp [bne, e6]
    have e1b : ((L.length : Int) != 1) = true := by simp [bne, e1]
    rcases hb with ⟨e3, HS⟩ | ⟨e3, e4, HS⟩ | ⟨e3, e4, rfl⟩
    all_goals
      go_enter Tryd.func23, Tryd.ntmps23
      go_wp2_with (first | (go_at_call 40; refine (strconv_Itoa_40.calls a0_2 s _ HS.out).mono ?_; rintro e W1 ⟨rfl, hb1⟩; have HB := Aside0.mk (below_step HB.out hb1); haveI := GW.of HB.out; clear hb1) | (go_at_call 41; refine (runes_Quote.calls a0_1 s _ HS.out).mono ?_; rintro e W1 ⟨rfl, hb1⟩; have HB := Aside0.mk (below_step HB.out hb1); haveI := GW.of HB.out; clear hb1) | (go_at_call 10; refine (lex_Lex.calls k _ true L r5 r6 _ HL.out).mono ?_; rintro e W2 ⟨v0, rfl, hR, hb2⟩; obtain ⟨A, c, rfl⟩ := Kd.R_slice hR; have HB := Aside0.mk (below_step HB.out hb2); clear hb2 hR))
      go_ret2
      exact ⟨rfl, HB.out⟩
  · have e6b : (r6 != 0) = false := by simp [bne, e6]
    obtain ⟨x, rfl⟩ : ∃ x, L = [x] := List.length_eq_one_iff.1 hl1
    obtain ⟨x0, x1, x2, x3⟩ := x
    have hrd : rd_T36 [⟨x0, x1, x2, x3⟩] 0 = ⟨x0, x1, x2, x3⟩ := rfl
    rw [hrd] at hE
    simp only at hE
    clear hl1 hrd
    rcases hE with ⟨hE, rfl⟩ | ⟨hE, rfl⟩
    all_goals
      rcases hb with ⟨e3, HS⟩ | ⟨e3, e4, HS⟩ | ⟨e3, e4, rfl⟩
      all_goals
        go_enter Tryd.func23, Tryd.ntmps23
        go_wp2_with (first | (go_at_call 40; refine (strconv_Itoa_40.calls a0_2 r1 _ HS.out).mono ?_; rintro e W1 ⟨rfl, hb1⟩; have HB := Aside0.mk (below_step HB.out hb1); have HK := Aside0.mk (blk_below HK.out hb1); haveI := GW.of HB.out; clear hb1) | (go_at_call 41; refine (runes_Quote.calls a0_1 r1 _ HS.out).mono ?_; rintro e W1 ⟨rfl, hb1⟩; have HB := Aside0.mk (below_step HB.out hb1); have HK := Aside0.mk (blk_below HK.out hb1); haveI := GW.of HB.out; clear hb1) | (go_at_call 10; refine (lex_Lex.calls k _ true [⟨x0, x1, x2, x3⟩] r5 r6 _ HL.out).mono ?_; rintro e W2 ⟨v0, rfl, hR, hb2⟩; have hR' := Kd.R_newB hR HK.out; obtain ⟨g, cap, rfl, hg, _, _⟩ := Kd.R_form hR' Nat.zero_lt_one; obtain ⟨ad, he, hx0, hx1, hx2, hx3⟩ := at_T36 (Kd.R_reads' hR').2.2 0 (Int.le_refl _) Int.zero_lt_one; cases he; replace hx3 : W2.cell? ⟨g, 3, none⟩ = some (.int .i64 x3) := hx3; clear hx0 hx1 hx2; have HB := Aside0.mk (below_step HB.out hb2); have HK := Aside0.mk (blk_below HK.out hb2); have HR := Aside0.mk hR'; have hk3 : W2.cell? ⟨w.heap.size, 3, none⟩ = some (.int .i64 a0_3) := (blk_cell HK.out 3).trans rfl; have hf3 := blk_frozen HK.out 3; clear hb2 hR hR' hg))
        have HK3 := Aside0.mk (blk_put HK.out 3 (.int .i64 x3) rfl)
        have HR3 := Aside0.mk (Kd.R_far (p := ⟨w.heap.size, 3, none⟩) HR.out (fun _ hk => hk.2) (.int .i64 x3))
        have HB3 := Aside0.mk (below_set (g := w.heap.size) (j := 3) (v := .int .i64 x3) HB.out (Nat.le_refl _))
        clear hx3 hk3 hf3 HK HR HB
        generalize W2.setCell ⟨w.heap.size, 3, none⟩ (.int .i64 x3) = W3 at HK3 HR3 HB3 ⊢
        obtain ⟨ad, he, y0, y1, y2, y3⟩ := at_T36 (Kd.R_reads' HR3.out).2.2 0 (Int.le_refl _) Int.zero_lt_one
        cases he
        replace y0 : W3.cell? ⟨g, 0, none⟩ = some (.int .i64 x0) := y0
        replace y1 : W3.cell? ⟨g, 1, none⟩ = some (.string x1) := y1
        replace y2 : W3.cell? ⟨g, 2, none⟩ = some (.int .i64 x2) := y2
        replace y3 : W3.cell? ⟨g, 3, none⟩ = some (.int .i64 x3) := y3
        have z0 : W3.cell? ⟨w.heap.size, 0, none⟩ = some (.int .i64 a0_0) := (blk_cell HK3.out 0).trans rfl
        have z1 : W3.cell? ⟨w.heap.size, 1, none⟩ = some (.string a0_1) := (blk_cell HK3.out 1).trans rfl
        have z2 : W3.cell? ⟨w.heap.size, 2, none⟩ = some (.int .i64 a0_2) := (blk_cell HK3.out 2).trans rfl
        have z3 : W3.cell? ⟨w.heap.size, 3, none⟩ = some (.int .i64 x3) := (blk_cell HK3.out 3).trans rfl
        go_quiet (fail)
        go_wp2
        go_ret2
        exact ⟨rfl, pw_below_drewN HB3.out _⟩
/-! ### strings_Join -/
def strings_Join.f (l0 : List ByteArray) (a1 : ByteArray) : Option (ByteArray) := if l0.length ≤ 140737488355328 ∧ (Lib.join (l0.map (·.data.toList)) a1.data.toList).length ≤ 140737488355328 then some ⟨(Lib.join (l0.map (·.data.toList)) a1.data.toList).toArray⟩ else none
theorem strings_Join.calls (A0 : Option Addr) (c0 : Nat) (l0 : List ByteArray) (a1 : ByteArray) (r : ByteArray) (w : World) (hr0 : Kd.C Kd.string w A0 l0.length l0) (hc0 : l0.length ≤ c0) (h : strings_Join.f l0 a1 = some r) :
    Calls Tryd.prog 24 #[.slice A0 l0.length c0, .string a1] w fun e w' => e = .returned (.string r) ∧ Below w.heap.size w w' := by
  unfold strings_Join.f at h
  split at h
  · rename_i hc
    obtain ⟨h1, h2⟩ := hc
    obtain rfl := Option.some.inj h
    rcases Nat.eq_zero_or_pos l0.length with hz | hp
    · obtain rfl := List.eq_nil_of_length_eq_zero hz
      refine (Tryd.strings_Join_none A0 c0 a1 w).mono ?_
      rintro e w' ⟨rfl, rfl⟩
      refine ⟨?_, Below.refl _ _⟩
      simp [Lib.join]
    · obtain ⟨_, _, hg⟩ := hr0
      obtain ⟨ad, rfl, hcell⟩ := hg hp
      have hat : ∀ (j : Nat) x, l0[j]? = some x → w.cell? (ad.add j) = some (.string x) := fun j x hj => by
        obtain ⟨c, hl, hK, hu⟩ := hcell j x hj
        have hK' : c = [Value.string x] := hK
        subst hK'
        have := hu 0 (.string x) rfl
        simpa [show (Kd.string).sz = 1 from rfl] using this
      obtain ⟨x0, hx0⟩ : ∃ x, l0[0]? = some x := ⟨_, List.getElem?_eq_getElem hp⟩
      have h00 := hat 0 x0 hx0
      obtain ⟨bk, o, sp⟩ := ad
      have hsp : sp = none := by
        cases sp with
        | none => rfl
        | some s => simp [World.cell?, Addr.add] at h00; split at h00 <;> simp at h00
      subst hsp
      have hadd : ∀ j, (⟨bk, o, none⟩ : Addr).add j = ⟨bk, o + j, none⟩ := fun j => by unfold Addr.add; split <;> simp_all
      refine (Tryd.strings_Join bk o c0 l0 a1 w (fun j x hj => by rw [← hadd]; exact hat j x hj) (World.block_lt_of_cell? w _ h00) h1 hc0 h2).mono ?_
      rintro e w' ⟨rfl, hb⟩
      exact ⟨rfl, hb⟩
  · cases h

end Go.Proofs.YtbnpgobjbokboaaDoor.PLex
