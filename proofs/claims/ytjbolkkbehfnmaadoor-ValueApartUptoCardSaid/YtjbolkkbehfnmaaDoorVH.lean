/- Contracts of what writes a heap: Put. -/
import Derived.Test.YtjbolkkbehfnmaaDoorVG
namespace Go.Proofs.YtjbolkkbehfnmaaDoor.Val
open Go.RowKit Go.Proofs.YtjbolkkbehfnmaaDoor.PVal Go.Proofs.YtjbolkkbehfnmaaDoorW.PrintWords Go.Proofs.YtjbolkkbehfnmaaDoorW.PrintLast Go.Proofs.YtjbolkkbehfnmaaDoorW.PrintMore
set_option linter.unusedVariables false
set_option linter.unusedSimpArgs false
section
variable {w : World} {O : Nat → Prop} {p : Nat} {v : Value} {xs : List (Bool × Nat)} {Os : Nat → Nat → Prop} {D : List Th}
set_option maxHeartbeats 2000000 in
set_option maxRecDepth 100000 in
theorem put_in (h : HPw w O p v xs Os D) {x y : S32} {l : List S32} (hl : arrAt D x = some l) (i : Int) (h0 : 0 ≤ i) (hi : i < (l.length : Int)) :
    Calls Tryd.prog 16 #[.pointer (some ⟨p, 0, none⟩), .agg #[.int .i64 x.f0, .int .i64 x.f1, .string x.f2], .int .i64 i, .agg #[.int .i64 y.f0, .int .i64 y.f1, .string y.f2]] w fun e w' => e = .returned (.bool true) ∧ HP w' (Grow O w w') p (D.set x.f1.toNat (.arr (l.set i.toNat y))) ∧ Chg O w w' := by
  have h1 := (h.keep (Chg.alloc No w (.cells #[.int .i64 x.f0, .int .i64 x.f1, .string x.f2] 32)) (fun _ _ _ hn => hn)).keep (Chg.alloc No _ (.cells #[.int .i64 y.f0, .int .i64 y.f1, .string y.f2] 32)) (fun _ _ _ hn => hn)
  have H1 := Aside0.mk (array_some h1 hl)
  have HH := Aside0.mk h
  have HT := Aside0.mk (h1.th _ _ (arrAt_some hl).2.2.2)
  clear h h1
  have BX0 := Aside0.mk (new2 w (.cells #[.int .i64 x.f0, .int .i64 x.f1, .string x.f2] 32) (.cells #[.int .i64 y.f0, .int .i64 y.f1, .string y.f2] 32))
  obtain ⟨r, hr⟩ : ∃ r, xs.getD x.f1.toNat (false, 0) = r := ⟨_, rfl⟩
  rw [hr] at H1 HT
  have HR := Aside0.mk hr
  clear hr
  have e1 : decide (i < 0) = false := by simpa using h0
  have e2 : decide ((l.length : Int) < i) = false := by simp; omega
  have e3 : (i == (l.length : Int)) = false := by simp; omega
  go_enter Tryd.func16, Tryd.ntmps16
  go_wp2_with (first
    | (go_at_call 33; refine H1.out.mono ?_; rintro e w' ⟨rfl, hb⟩; obtain ⟨q1, q2, sv, hblk, hrow⟩ := HT.out.step (fun k _ hk => hb.block k hk); obtain ⟨g, cp, esv, _, _, cl, hcl⟩ := Kd.R_form hrow (by omega); subst esv; have HG := Aside0.mk hcl; clear hcl; have hc : w'.cell? ⟨r.2, 0, none⟩ = some (.slice (some ⟨g, 0, none⟩) l.length cp) := (blk_cell hblk 0).trans rfl; have HQ := Aside0.mk (And.intro q1 (And.intro q2 (And.intro hrow hblk))); clear q1 q2 hrow hblk; have bx := blk_below BX0.out hb; obtain ⟨⟨b0, b1, b2⟩, f0, f1, f2⟩ := box3 bx; clear bx; have HB := Aside0.mk hb; clear hb))
  go_still_tail 7, (by kernel_rfl)
  change wpList _ _ _ _ _ w'.drew
  obtain ⟨q1, q2, hrow, hblk⟩ := HQ.out
  obtain ⟨c, hcl, hM, hcc, hcf⟩ := Kd.R_elem hrow z32 i h0 hi
  have hseg : c.take 0 ++ [Value.int .i64 y.f0, .int .i64 y.f1, .string y.f2] ++ c.drop (0 + [Value.int .i64 y.f0, .int .i64 y.f1, .string y.f2].length) = [Value.int .i64 y.f0, .int .i64 y.f1, .string y.f2] := by
    rw [List.drop_of_length_le (by rw [hcl]; exact Nat.le_refl _)]
    simp
  refine Kd.R_store k32 (w0 := w'.drew) 0 rfl rfl 32 (.tmp 23) (.tmp 22) rfl 32 i 0 l y (.agg #[.int .i64 y.f0, .int .i64 y.f1, .string y.f2]) [.int .i64 y.f0, .int .i64 y.f1, .string y.f2] c (Os x.f1.toNat) (fun k => Os x.f1.toNat k ∧ k ≠ g) (by rfl) rfl (by rfl) rfl (by kernel_rfl) (by simp [Value.oneCell']) (Kd.R_drew hrow) h0 hi hcl hcc (Nat.le_refl _) (by rw [hseg]; exact k32_mkM _ _ _ y) (fun _ hk => hk) (Below.refl _ _) ?_
  intro w1 hrow1 _ hgrow
  go_wp2
  go_ret
  have hb1 : Below w.heap.size w w'.drew := below_drew1 (below_step (below_alloc (below_alloc (Below.refl _ _) _) _) HB.out)
  refine ⟨rfl, HH.out.finish (n := x.f1.toNat) hb1 (Chg.of_grown hgrow (fun k hk => by injection hk with hk; subst hk; exact hrow.1 g rfl)) ?_⟩
  rw [HR.out]
  have hne : r.2 ≠ g := fun e => by rw [e, HG.out] at hblk; injection hblk with hblk; injection hblk with _ hblk; exact absurd hblk (by decide)
  exact ⟨q1, Or.inl q2, _, blk_grown (show w'.drew.heap[r.2]? = _ from hblk) hgrow (fun e => hne (Option.some.inj e)), Kd.R_mono hrow1 (fun k hk => Or.inl (b := w'.drew.heap.size ≤ k) hk)⟩
set_option maxHeartbeats 2000000 in
set_option maxRecDepth 100000 in
theorem put_of (w : World) (q : Option Addr) (x y : S32) (i : Int) (H : Calls Tryd.prog 33 #[.pointer q, .agg #[.int .i64 x.f0, .int .i64 x.f1, .string x.f2]] ((w.alloc (.cells #[.int .i64 x.f0, .int .i64 x.f1, .string x.f2] 32)).alloc (.cells #[.int .i64 y.f0, .int .i64 y.f1, .string y.f2] 32)) fun e w' => e = .returned (.tuple #[.pointer none, .bool false]) ∧ Below ((w.alloc (.cells #[.int .i64 x.f0, .int .i64 x.f1, .string x.f2] 32)).alloc (.cells #[.int .i64 y.f0, .int .i64 y.f1, .string y.f2] 32)).heap.size ((w.alloc (.cells #[.int .i64 x.f0, .int .i64 x.f1, .string x.f2] 32)).alloc (.cells #[.int .i64 y.f0, .int .i64 y.f1, .string y.f2] 32)) w') :
    Calls Tryd.prog 16 #[.pointer q, .agg #[.int .i64 x.f0, .int .i64 x.f1, .string x.f2], .int .i64 i, .agg #[.int .i64 y.f0, .int .i64 y.f1, .string y.f2]] w fun e w' => e = .returned (.bool false) ∧ Below w.heap.size w w' := by
  have H1 := Aside0.mk H
  clear H
  go_enter Tryd.func16, Tryd.ntmps16
  go_wp2_with (first
    | (go_at_call 33; refine H1.out.mono ?_; rintro e w' ⟨rfl, hb⟩; have HB := Aside0.mk hb; clear hb))
  go_ret
  exact ⟨rfl, below_step (below_alloc (below_alloc (Below.refl _ _) _) _) HB.out⟩
set_option maxHeartbeats 2000000 in
set_option maxRecDepth 100000 in
theorem put_out (h : HPw w O p v xs Os D) {x y : S32} {l : List S32} (hl : arrAt D x = some l) (i : Int) (hi : i < 0 ∨ (l.length : Int) < i) :
    Calls Tryd.prog 16 #[.pointer (some ⟨p, 0, none⟩), .agg #[.int .i64 x.f0, .int .i64 x.f1, .string x.f2], .int .i64 i, .agg #[.int .i64 y.f0, .int .i64 y.f1, .string y.f2]] w fun e w' => e = .returned (.bool false) ∧ Below w.heap.size w w' := by
  have h1 := (h.keep (Chg.alloc No w (.cells #[.int .i64 x.f0, .int .i64 x.f1, .string x.f2] 32)) (fun _ _ _ hn => hn)).keep (Chg.alloc No _ (.cells #[.int .i64 y.f0, .int .i64 y.f1, .string y.f2] 32)) (fun _ _ _ hn => hn)
  have H1 := Aside0.mk (array_some h1 hl)
  have HH := Aside0.mk h
  have HT := Aside0.mk (h1.th _ _ (arrAt_some hl).2.2.2)
  clear h h1
  have BX0 := Aside0.mk (new2 w (.cells #[.int .i64 x.f0, .int .i64 x.f1, .string x.f2] 32) (.cells #[.int .i64 y.f0, .int .i64 y.f1, .string y.f2] 32))
  obtain ⟨r, hr⟩ : ∃ r, xs.getD x.f1.toNat (false, 0) = r := ⟨_, rfl⟩
  rw [hr] at H1 HT
  have HR := Aside0.mk hr
  clear hr
  by_cases h0 : i < 0
  · have e1 : decide (i < 0) = true := by simpa using h0
    go_enter Tryd.func16, Tryd.ntmps16
    go_wp2_with (first
      | (go_at_call 33; refine H1.out.mono ?_; rintro e w' ⟨rfl, hb⟩; obtain ⟨q1, q2, sv, hblk, hrow⟩ := HT.out.step (fun k _ hk => hb.block k hk); have hc : w'.cell? ⟨r.2, 0, none⟩ = some sv := (blk_cell hblk 0).trans rfl; have HQ := Aside0.mk (And.intro q1 (And.intro q2 (And.intro hrow hblk))); clear q1 q2 hrow hblk; have bx := blk_below BX0.out hb; obtain ⟨⟨b0, b1, b2⟩, f0, f1, f2⟩ := box3 bx; clear bx; have HB := Aside0.mk hb; clear hb))
    go_ret
    exact ⟨rfl, below_step (below_alloc (below_alloc (Below.refl _ _) _) _) HB.out⟩
  · have e1 : decide (i < 0) = false := by simpa using h0
    have e2 : decide ((l.length : Int) < i) = true := by simp; omega
    go_enter Tryd.func16, Tryd.ntmps16
    go_wp2_with (first
      | (go_at_call 33; refine H1.out.mono ?_; rintro e w' ⟨rfl, hb⟩; obtain ⟨q1, q2, sv, hblk, hrow⟩ := HT.out.step (fun k _ hk => hb.block k hk); obtain ⟨As, cs_, esv⟩ := Kd.R_slice hrow; subst esv; have hc : w'.cell? ⟨r.2, 0, none⟩ = some (.slice As l.length cs_) := (blk_cell hblk 0).trans rfl; have HQ := Aside0.mk (And.intro q1 (And.intro q2 (And.intro hrow hblk))); clear q1 q2 hrow hblk; have bx := blk_below BX0.out hb; obtain ⟨⟨b0, b1, b2⟩, f0, f1, f2⟩ := box3 bx; clear bx; have HB := Aside0.mk hb; clear hb))
    go_ret
    exact ⟨rfl, below_step (below_alloc (below_alloc (Below.refl _ _) _) _) HB.out⟩
def aPut (D : List Th) (x : S32) (i : Int) (y : S32) : List Th × Bool := match arrAt D x with
  | some l => if 0 ≤ i ∧ i ≤ (l.length : Int) then (if i = (l.length : Int) then (D.set x.f1.toNat (.arr (l ++ [y])), true) else (D.set x.f1.toNat (.arr (l.set i.toNat y)), true)) else (D, false)
  | none => (D, false)
theorem put_calls (h : HP w O p D) (x y : S32) (i : Int) (hR : Room D 100000000000) :
    Calls Tryd.prog 16 #[.pointer (some ⟨p, 0, none⟩), .agg #[.int .i64 x.f0, .int .i64 x.f1, .string x.f2], .int .i64 i, .agg #[.int .i64 y.f0, .int .i64 y.f1, .string y.f2]] w fun e w' => e = .returned (.bool (aPut D x i y).2) ∧ HP w' (Grow O w w') p (aPut D x i y).1 ∧ Chg O w w' := by
  obtain ⟨v, xs, Os, h⟩ := h
  unfold aPut
  cases hl : arrAt D x with
  | some l =>
    by_cases hi : 0 ≤ i ∧ i ≤ (l.length : Int)
    · simp only [if_pos hi]
      by_cases he : i = (l.length : Int)
      · simp only [if_pos he]
        subst he
        exact put_end h hl (by have := hR.arr hl; omega)
      · simp only [if_neg he]
        exact put_in h hl i hi.1 (by omega)
    · simp only [if_neg hi]
      exact (put_out h hl i (by omega)).mono fun e w' ⟨he, hb⟩ => ⟨he, h.same hb⟩
  | none => exact (put_of w _ x y i (array_none ((h.keep (Chg.alloc No w (.cells #[.int .i64 x.f0, .int .i64 x.f1, .string x.f2] 32)) (fun _ _ _ hn => hn)).keep (Chg.alloc No _ (.cells #[.int .i64 y.f0, .int .i64 y.f1, .string y.f2] 32)) (fun _ _ _ hn => hn)) hl)).mono fun e w' ⟨he, hb⟩ => ⟨he, h.same hb⟩
theorem put_nil (w : World) (x y : S32) (i : Int) :
    Calls Tryd.prog 16 #[.pointer none, .agg #[.int .i64 x.f0, .int .i64 x.f1, .string x.f2], .int .i64 i, .agg #[.int .i64 y.f0, .int .i64 y.f1, .string y.f2]] w fun e w' => e = .returned (.bool false) ∧ Below w.heap.size w w' := put_of w _ x y i (array_nil _ x)
end
end Go.Proofs.YtjbolkkbehfnmaaDoor.Val
