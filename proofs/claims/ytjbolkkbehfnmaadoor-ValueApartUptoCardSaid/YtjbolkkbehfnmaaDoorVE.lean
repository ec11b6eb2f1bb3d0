/- Contracts of what writes a heap: Set. -/
import Derived.Test.YtjbolkkbehfnmaaDoorVD
import Derived.StillTailTactics
import Derived.ChangeMaps5
namespace Go.Proofs.YtjbolkkbehfnmaaDoor.Val
open Go.RowKit Go.Proofs.YtjbolkkbehfnmaaDoor.PVal Go.Proofs.YtjbolkkbehfnmaaDoorW.PrintWords Go.Proofs.YtjbolkkbehfnmaaDoorW.PrintLast Go.Proofs.YtjbolkkbehfnmaaDoorW.PrintMore
open Go.ChangeMaps (setBlock)
set_option linter.unusedVariables false
set_option linter.unusedSimpArgs false
section
variable {w : World} {O : Nat → Prop} {p : Nat} {v : Value} {xs : List (Bool × Nat)} {Os : Nat → Nat → Prop} {D : List Th}
/-- What a call leaves that has made memory (W1) and then turned one thing alone (W). -/
theorem HPw.finish (h : HPw w O p v xs Os D) {W1 W : World} {n : Nat} {t : Th} (hb : Below w.heap.size w W1) (hc : Chg (Os n) W1 W) (ht : PT W (fun k => Os n k ∨ W1.heap.size ≤ k) (xs.getD n (false, 0)) t) : HP W (Grow O w W) p (D.set n t) ∧ Chg O w W := by
  have h1 := (h.keep (Q := No) (Chg.of_below hb) (fun _ _ _ hn => hn)).upd hc ht
  refine ⟨⟨_, _, _, h1.mono (fun k hk hlt => ?_)⟩, ((Chg.of_below (O := No) hb).trans hc).mono (fun k hk hq => ?_)⟩
  · rcases hk with hk | hk
    · by_cases hw : k < w.heap.size
      · exact Or.inl ⟨hk.1, hw⟩
      · exact Or.inr ⟨by omega, hlt⟩
    · exact Or.inr ⟨by have := hb.size; omega, hlt⟩
  · rcases hq with hq | hq
    · exact hq.elim
    · exact (h.sub n k hq.1).1
theorem chg_setBlock {O : Nat → Prop} (W : World) {m : Nat} (hm : O m) (o : Obj) : Chg O W (setBlock W m o) :=
  ⟨rfl, rfl, rfl, by simp [setBlock], fun k hk ho => by
    have hne : m ≠ k := fun e => ho (e ▸ hm)
    simp [setBlock, Array.getElem?_setIfInBounds, hne]⟩
set_option maxHeartbeats 2000000 in
set_option maxRecDepth 100000 in
theorem set_some (h : HPw w O p v xs Os D) {x y : S32} {kv : List (ByteArray × S32)} (hl : objAt D x = some kv) (n : ByteArray) :
    Calls Tryd.prog 15 #[.pointer (some ⟨p, 0, none⟩), .agg #[.int .i64 x.f0, .int .i64 x.f1, .string x.f2], .string n, .agg #[.int .i64 y.f0, .int .i64 y.f1, .string y.f2]] w fun e w' => e = .returned (.bool true) ∧ HP w' (Grow O w w') p (D.set x.f1.toNat (.obj (kvPut kv n y))) ∧ Chg O w w' := by
  have h1 := (h.keep (Chg.alloc No w (.cells #[.int .i64 x.f0, .int .i64 x.f1, .string x.f2] 32)) (fun _ _ _ hn => hn)).keep (Chg.alloc No _ (.cells #[.int .i64 y.f0, .int .i64 y.f1, .string y.f2] 32)) (fun _ _ _ hn => hn)
  have H1 := Aside0.mk (object_some h1 hl)
  have HH := Aside0.mk h
  have HT := Aside0.mk (h1.th _ _ (objAt_some hl).2.2.2)
  clear h h1
  have BX0 := Aside0.mk (new2 w (.cells #[.int .i64 x.f0, .int .i64 x.f1, .string x.f2] 32) (.cells #[.int .i64 y.f0, .int .i64 y.f1, .string y.f2] 32))
  obtain ⟨r, hr⟩ : ∃ r, xs.getD x.f1.toNat (false, 0) = r := ⟨_, rfl⟩
  rw [hr] at H1 HT
  have HR := Aside0.mk hr
  clear hr
  go_enter Tryd.func15, Tryd.ntmps15
  go_wp2_with (first
    | (go_at_call 32; refine H1.out.mono ?_; rintro e w' ⟨rfl, hb⟩; obtain ⟨q1, q2, m, es, c, hblk, qm, hm, he⟩ := HT.out.step (fun k _ hk => hb.block k hk); have hc : w'.cell? ⟨r.2, 0, none⟩ = some (.map (some m)) := (blk_cell hblk 0).trans rfl; have HQ := Aside0.mk (And.intro q1 (And.intro q2 (And.intro qm hblk))); clear q1 q2 qm hblk; have bx := blk_below BX0.out hb; obtain ⟨⟨b0, b1, b2⟩, f0, f1, f2⟩ := box3 bx; have HM := Aside0.mk hm; have HE := Aside0.mk he; clear hm he; clear bx; have HB := Aside0.mk hb; clear hb))
  go_still_tail 6, (by kernel_rfl)
  change wpList _ _ _ _ _ w'.drew
  obtain ⟨es', c', hrun, he'⟩ := run_put (w := w'.drew) HM.out HE.out n y
  unfold enc at hrun
  have HE' := Aside0.mk he'
  clear he'
  go_wp2
  go_ret
  obtain ⟨q1, q2, qm, hblk⟩ := HQ.out
  refine ⟨rfl, HH.out.finish (below_drew1 (below_step (below_alloc (below_alloc (Below.refl _ _) _) _) HB.out)) (chg_setBlock _ qm _) ?_⟩
  rw [HR.out]
  have hne : r.2 ≠ m := fun e => by rw [e, HM.out] at hblk; cases hblk
  exact ⟨q1, Or.inl q2, m, es', c', ((chg_setBlock (O := fun k => k = m) w'.drew rfl _).blk hblk hne), Or.inl qm, ChangeMaps.heap_setBlock_same (w := w'.drew) HM.out _, HE'.out⟩
/-- What a call leaves that turns nothing. -/
theorem HPw.same (h : HPw w O p v xs Os D) {W : World} (hb : Below w.heap.size w W) : HP W (Grow O w W) p D ∧ Chg O w W :=
  ⟨⟨_, _, _, (h.keep (Q := No) (Chg.of_below hb) (fun _ _ _ hn => hn)).mono (fun k hk hlt => by
    by_cases hw : k < w.heap.size
    · exact Or.inl ⟨hk, hw⟩
    · exact Or.inr ⟨by omega, hlt⟩)⟩, Chg.of_below hb⟩
set_option maxHeartbeats 2000000 in
set_option maxRecDepth 100000 in
theorem set_of (w : World) (q : Option Addr) (x y : S32) (n : ByteArray) (H : Calls Tryd.prog 32 #[.pointer q, .agg #[.int .i64 x.f0, .int .i64 x.f1, .string x.f2]] ((w.alloc (.cells #[.int .i64 x.f0, .int .i64 x.f1, .string x.f2] 32)).alloc (.cells #[.int .i64 y.f0, .int .i64 y.f1, .string y.f2] 32)) fun e w' => e = .returned (.tuple #[.pointer none, .bool false]) ∧ Below ((w.alloc (.cells #[.int .i64 x.f0, .int .i64 x.f1, .string x.f2] 32)).alloc (.cells #[.int .i64 y.f0, .int .i64 y.f1, .string y.f2] 32)).heap.size ((w.alloc (.cells #[.int .i64 x.f0, .int .i64 x.f1, .string x.f2] 32)).alloc (.cells #[.int .i64 y.f0, .int .i64 y.f1, .string y.f2] 32)) w') :
    Calls Tryd.prog 15 #[.pointer q, .agg #[.int .i64 x.f0, .int .i64 x.f1, .string x.f2], .string n, .agg #[.int .i64 y.f0, .int .i64 y.f1, .string y.f2]] w fun e w' => e = .returned (.bool false) ∧ Below w.heap.size w w' := by
  have H1 := Aside0.mk H
  clear H
  go_enter Tryd.func15, Tryd.ntmps15
  go_wp2_with (first
    | (go_at_call 32; refine H1.out.mono ?_; rintro e w' ⟨rfl, hb⟩; have HB := Aside0.mk hb; clear hb))
  go_ret
  exact ⟨rfl, below_step (below_alloc (below_alloc (Below.refl _ _) _) _) HB.out⟩
def oSet (D : List Th) (x : S32) (n : ByteArray) (y : S32) : List Th × Bool := match objAt D x with | some kv => (D.set x.f1.toNat (.obj (kvPut kv n y)), true) | none => (D, false)
theorem set_calls (h : HP w O p D) (x y : S32) (n : ByteArray) :
    Calls Tryd.prog 15 #[.pointer (some ⟨p, 0, none⟩), .agg #[.int .i64 x.f0, .int .i64 x.f1, .string x.f2], .string n, .agg #[.int .i64 y.f0, .int .i64 y.f1, .string y.f2]] w fun e w' => e = .returned (.bool (oSet D x n y).2) ∧ HP w' (Grow O w w') p (oSet D x n y).1 ∧ Chg O w w' := by
  obtain ⟨v, xs, Os, h⟩ := h
  unfold oSet
  cases hl : objAt D x with
  | some kv => exact set_some h hl n
  | none => exact (set_of w _ x y n (object_none ((h.keep (Chg.alloc No w (.cells #[.int .i64 x.f0, .int .i64 x.f1, .string x.f2] 32)) (fun _ _ _ hn => hn)).keep (Chg.alloc No _ (.cells #[.int .i64 y.f0, .int .i64 y.f1, .string y.f2] 32)) (fun _ _ _ hn => hn)) hl)).mono fun e w' ⟨he, hb⟩ => ⟨he, h.same hb⟩
theorem set_nil (w : World) (x y : S32) (n : ByteArray) :
    Calls Tryd.prog 15 #[.pointer none, .agg #[.int .i64 x.f0, .int .i64 x.f1, .string x.f2], .string n, .agg #[.int .i64 y.f0, .int .i64 y.f1, .string y.f2]] w fun e w' => e = .returned (.bool false) ∧ Below w.heap.size w w' := set_of w _ x y n (object_nil _ x)
end
end Go.Proofs.YtjbolkkbehfnmaaDoor.Val
