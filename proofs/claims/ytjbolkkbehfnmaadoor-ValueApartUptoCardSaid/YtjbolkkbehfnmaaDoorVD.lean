/- Contracts of what only reads a heap: Len, At, Get. -/
import Derived.Test.YtjbolkkbehfnmaaDoorVC
namespace Go.Proofs.YtjbolkkbehfnmaaDoor.Val
open Go.RowKit Go.Proofs.YtjbolkkbehfnmaaDoor.PVal Go.Proofs.YtjbolkkbehfnmaaDoorW.PrintWords Go.Proofs.YtjbolkkbehfnmaaDoorW.PrintLast Go.Proofs.YtjbolkkbehfnmaaDoorW.PrintMore
set_option linter.unusedVariables false
set_option linter.unusedSimpArgs false

set_option maxHeartbeats 2000000 in
set_option maxRecDepth 100000 in
theorem size_calls (w : World) (b : Nat) (A : Option Addr) (n c : Nat) (hc : w.cell? ⟨b, 0, none⟩ = some (.slice A n c)) :
    Calls Tryd.prog 36 #[.pointer (some ⟨b, 0, none⟩)] w fun e w' => e = .returned (.int .i64 n) ∧ w = w' := by
  go_enter Tryd.func36, Tryd.ntmps36
  go_wp2
  go_ret
  exact ⟨rfl, rfl⟩
/-- An array's block in a world behind w. -/
theorem PT.arr_cell {w : World} {O : Nat → Prop} {x : Bool × Nat} {l : List S32} (h : PT w O x (.arr l)) : ∃ A c, w.cell? ⟨x.2, 0, none⟩ = some (.slice A l.length c) ∧ k32.C w A l.length l := by
  obtain ⟨h1, h2, v, hb, hr⟩ := h
  obtain ⟨A, c, rfl, _, hC⟩ := Kd.R_reads hr
  exact ⟨A, c, (blk_cell hb 0).trans rfl, hC⟩
theorem PT.obj_cell {w : World} {O : Nat → Prop} {x : Bool × Nat} {l : List (ByteArray × S32)} (h : PT w O x (.obj l)) : ∃ m es c, w.cell? ⟨x.2, 0, none⟩ = some (.map (some m)) ∧ w.heap[m]? = some (.map es c) ∧ Ents es l := by
  obtain ⟨h1, h2, m, es, c, hb, hm, he, hk⟩ := h
  exact ⟨m, es, c, (blk_cell hb 0).trans rfl, he, hk⟩
section
variable {w : World} {O : Nat → Prop} {p : Nat} {v : Value} {xs : List (Bool × Nat)} {Os : Nat → Nat → Prop} {D : List Th}
set_option maxHeartbeats 2000000 in
set_option maxRecDepth 100000 in
theorem len_some (h : HPw w O p v xs Os D) {x : S32} {l : List S32} (hl : arrAt D x = some l) :
    Calls Tryd.prog 14 #[.pointer (some ⟨p, 0, none⟩), .agg #[.int .i64 x.f0, .int .i64 x.f1, .string x.f2]] w fun e w' => e = .returned (.int .i64 l.length) ∧ Below w.heap.size w w' := by
  have h1 := h.keep (Chg.alloc No w (.cells #[.int .i64 x.f0, .int .i64 x.f1, .string x.f2] 32)) (fun _ _ _ hn => hn)
  have H1 := Aside0.mk (array_some h1 hl)
  have HT := Aside0.mk (h1.th _ _ (arrAt_some hl).2.2.2)
  clear h h1
  generalize xs.getD x.f1.toNat (false, 0) = r at H1 HT
  go_enter Tryd.func14, Tryd.ntmps14
  go_wp2_with (first
    | (go_at_call 33; refine H1.out.mono ?_; rintro e w' ⟨rfl, hb⟩; obtain ⟨A, c, hc, _⟩ := (HT.out.step (fun k _ hk => hb.block k hk)).arr_cell; have HB := Aside0.mk hb; clear hb)
    | (go_at_call 36; refine (size_calls _ _ _ _ _ hc).mono ?_; rintro e w2 ⟨rfl, rfl⟩))
  go_ret
  exact ⟨rfl, below_step (below_alloc (Below.refl _ _) _) HB.out⟩
set_option maxHeartbeats 2000000 in
set_option maxRecDepth 100000 in
theorem len_of (w : World) (q : Option Addr) (x : S32) (H : Calls Tryd.prog 33 #[.pointer q, .agg #[.int .i64 x.f0, .int .i64 x.f1, .string x.f2]] (w.alloc (.cells #[.int .i64 x.f0, .int .i64 x.f1, .string x.f2] 32)) fun e w' => e = .returned (.tuple #[.pointer none, .bool false]) ∧ Below (w.alloc (.cells #[.int .i64 x.f0, .int .i64 x.f1, .string x.f2] 32)).heap.size (w.alloc (.cells #[.int .i64 x.f0, .int .i64 x.f1, .string x.f2] 32)) w') :
    Calls Tryd.prog 14 #[.pointer q, .agg #[.int .i64 x.f0, .int .i64 x.f1, .string x.f2]] w fun e w' => e = .returned (.int .i64 0) ∧ Below w.heap.size w w' := by
  have H1 := Aside0.mk H
  clear H
  go_enter Tryd.func14, Tryd.ntmps14
  go_wp2_with (go_at_call 33; refine H1.out.mono ?_; rintro e w' ⟨rfl, hb⟩)
  go_ret
  exact ⟨rfl, below_step (below_alloc (Below.refl _ _) _) hb⟩
theorem len_none (h : HPw w O p v xs Os D) {x : S32} (hl : arrAt D x = none) :
    Calls Tryd.prog 14 #[.pointer (some ⟨p, 0, none⟩), .agg #[.int .i64 x.f0, .int .i64 x.f1, .string x.f2]] w fun e w' => e = .returned (.int .i64 0) ∧ Below w.heap.size w w' :=
  len_of w _ x (array_none (h.keep (Chg.alloc No w _) (fun _ _ _ hn => hn)) hl)
theorem len_nil (w : World) (x : S32) :
    Calls Tryd.prog 14 #[.pointer none, .agg #[.int .i64 x.f0, .int .i64 x.f1, .string x.f2]] w fun e w' => e = .returned (.int .i64 0) ∧ Below w.heap.size w w' :=
  len_of w _ x (array_nil _ x)
def aLen (D : List Th) (x : S32) : Int := match arrAt D x with | some l => (l.length : Int) | none => 0
theorem len_calls (h : HPw w O p v xs Os D) (x : S32) :
    Calls Tryd.prog 14 #[.pointer (some ⟨p, 0, none⟩), .agg #[.int .i64 x.f0, .int .i64 x.f1, .string x.f2]] w fun e w' => e = .returned (.int .i64 (aLen D x)) ∧ Below w.heap.size w w' := by
  unfold aLen
  cases hl : arrAt D x with
  | some l => exact len_some h hl
  | none => exact len_none h hl

theorem box3 {W : World} {b : Nat} {a0 a1 a2 : Value} {t : TypeId} (h : W.heap[b]? = some (.cells #[a0, a1, a2] t (0, 0))) : (W.cell? ⟨b, 0, none⟩ = some a0 ∧ W.cell? ⟨b, 1, none⟩ = some a1 ∧ W.cell? ⟨b, 2, none⟩ = some a2) ∧ (W.frozen? ⟨b, 0, none⟩ = false ∧ W.frozen? ⟨b, 1, none⟩ = false ∧ W.frozen? ⟨b, 2, none⟩ = false) :=
  ⟨⟨(blk_cell h 0).trans rfl, (blk_cell h 1).trans rfl, (blk_cell h 2).trans rfl⟩, blk_frozen h 0, blk_frozen h 1, blk_frozen h 2⟩
theorem new2 (w : World) (o1 o2 : Obj) : ((w.alloc o1).alloc o2).heap[w.heap.size + 1]? = some o2 := by
  have := heap_alloc_new (w.alloc o1) o2
  simpa using this
theorem new1 (w : World) (o1 o2 : Obj) : ((w.alloc o1).alloc o2).heap[w.heap.size]? = some o1 := blk_alloc (heap_alloc_new w o1) o2
/-- A value laid into a box. -/
theorem put3 {W : World} {b : Nat} {a0 a1 a2 u0 u1 u2 : Value} {t : TypeId} (h : W.heap[b]? = some (.cells #[a0, a1, a2] t (0, 0))) : (((W.setCell ⟨b, 0, none⟩ u0).setCell ⟨b, 1, none⟩ u1).setCell ⟨b, 2, none⟩ u2).heap[b]? = some (.cells #[u0, u1, u2] t (0, 0)) :=
  blk_put (blk_put (blk_put h 0 u0 rfl) 1 u1 rfl) 2 u2 rfl
theorem below_put3 {b : Nat} {w W : World} {u0 u1 u2 : Value} (h : Below w.heap.size w W) (hb : w.heap.size ≤ b) : Below w.heap.size w (((W.setCell ⟨b, 0, none⟩ u0).setCell ⟨b, 1, none⟩ u1).setCell ⟨b, 2, none⟩ u2) := below_set (below_set (below_set h hb) hb) hb
set_option maxHeartbeats 2000000 in
set_option maxRecDepth 100000 in
theorem atx_in (h : HPw w O p v xs Os D) {x : S32} {l : List S32} (hl : arrAt D x = some l) (i : Int) (h0 : 0 ≤ i) (hi : i < (l.length : Int)) :
    Calls Tryd.prog 11 #[.pointer (some ⟨p, 0, none⟩), .agg #[.int .i64 x.f0, .int .i64 x.f1, .string x.f2], .int .i64 i] w fun e w' => e = .returned (.tuple #[enc (rd_T32 l i), .bool true]) ∧ Below w.heap.size w w' := by
  have h1 := (h.keep (Chg.alloc No w (.cells #[.int .i64 x.f0, .int .i64 x.f1, .string x.f2] 32)) (fun _ _ _ hn => hn)).keep (Chg.alloc No _ (.cells #[.int .i64 0, .int .i64 0, .string ⟨#[]⟩] 32)) (fun _ _ _ hn => hn)
  have H1 := Aside0.mk (array_some h1 hl)
  have HT := Aside0.mk (h1.th _ _ (arrAt_some hl).2.2.2)
  clear h h1
  have BX0 := Aside0.mk (new2 w (.cells #[.int .i64 x.f0, .int .i64 x.f1, .string x.f2] 32) (.cells #[.int .i64 0, .int .i64 0, .string ⟨#[]⟩] 32))
  have e1 : decide (i < 0) = false := by simpa using h0
  have e2 : decide ((l.length : Int) ≤ i) = false := by simpa using hi
  generalize xs.getD x.f1.toNat (false, 0) = r at H1 HT
  go_enter Tryd.func11, Tryd.ntmps11
  go_wp2_with (first
    | (go_at_call 33; refine H1.out.mono ?_; rintro e w' ⟨rfl, hb⟩; obtain ⟨A, c, hc, hC⟩ := (HT.out.step (fun k _ hk => hb.block k hk)).arr_cell; obtain ⟨ad, rfl, hx0, hx1, hx2⟩ := at_T32 hC i h0 hi; clear hC; have bx := blk_below BX0.out hb; obtain ⟨⟨b0, b1, b2⟩, f0, f1, f2⟩ := box3 bx; have BX := Aside0.mk bx; clear bx; have HB := Aside0.mk hb; clear hb))
  refine bodyPost_ret (results_ct rfl _ _ (w.heap.size + 1) 32 #[.int .i64 (rd_T32 l i).f0, .int .i64 (rd_T32 l i).f1, .string (rd_T32 l i).f2] (0, 0) _ rfl (put3 BX.out) Tryd.underlying32 rfl (by kernel_rfl)) rfl ⟨rfl, ?_⟩
  exact below_put3 (below_step (below_alloc (below_alloc (Below.refl _ _) _) _) HB.out) (by omega)
set_option maxHeartbeats 2000000 in
set_option maxRecDepth 100000 in
theorem atx_of (w : World) (q : Option Addr) (x : S32) (i : Int) (H : Calls Tryd.prog 33 #[.pointer q, .agg #[.int .i64 x.f0, .int .i64 x.f1, .string x.f2]] ((w.alloc (.cells #[.int .i64 x.f0, .int .i64 x.f1, .string x.f2] 32)).alloc (.cells #[.int .i64 0, .int .i64 0, .string ⟨#[]⟩] 32)) fun e w' => e = .returned (.tuple #[.pointer none, .bool false]) ∧ Below ((w.alloc (.cells #[.int .i64 x.f0, .int .i64 x.f1, .string x.f2] 32)).alloc (.cells #[.int .i64 0, .int .i64 0, .string ⟨#[]⟩] 32)).heap.size ((w.alloc (.cells #[.int .i64 x.f0, .int .i64 x.f1, .string x.f2] 32)).alloc (.cells #[.int .i64 0, .int .i64 0, .string ⟨#[]⟩] 32)) w') :
    Calls Tryd.prog 11 #[.pointer q, .agg #[.int .i64 x.f0, .int .i64 x.f1, .string x.f2], .int .i64 i] w fun e w' => e = .returned (.tuple #[enc z32, .bool false]) ∧ Below w.heap.size w w' := by
  have H1 := Aside0.mk H
  clear H
  have BX0 := Aside0.mk (new2 w (.cells #[.int .i64 x.f0, .int .i64 x.f1, .string x.f2] 32) (.cells #[.int .i64 0, .int .i64 0, .string ⟨#[]⟩] 32))
  go_enter Tryd.func11, Tryd.ntmps11
  go_wp2_with (first
    | (go_at_call 33; refine H1.out.mono ?_; rintro e w' ⟨rfl, hb⟩; have bx := blk_below BX0.out hb; obtain ⟨⟨b0, b1, b2⟩, f0, f1, f2⟩ := box3 bx; have BX := Aside0.mk bx; clear bx; have HB := Aside0.mk hb; clear hb))
  refine bodyPost_ret (results_ct rfl _ _ (w.heap.size + 1) 32 #[.int .i64 0, .int .i64 0, .string ⟨#[]⟩] (0, 0) _ rfl (put3 BX.out) Tryd.underlying32 rfl (by kernel_rfl)) rfl ⟨rfl, ?_⟩
  exact below_put3 (below_step (below_alloc (below_alloc (Below.refl _ _) _) _) HB.out) (by omega)
set_option maxHeartbeats 2000000 in
set_option maxRecDepth 100000 in
theorem atx_out (h : HPw w O p v xs Os D) {x : S32} {l : List S32} (hl : arrAt D x = some l) (i : Int) (hi : ¬ (0 ≤ i ∧ i < (l.length : Int))) :
    Calls Tryd.prog 11 #[.pointer (some ⟨p, 0, none⟩), .agg #[.int .i64 x.f0, .int .i64 x.f1, .string x.f2], .int .i64 i] w fun e w' => e = .returned (.tuple #[enc z32, .bool false]) ∧ Below w.heap.size w w' := by
  have h1 := (h.keep (Chg.alloc No w (.cells #[.int .i64 x.f0, .int .i64 x.f1, .string x.f2] 32)) (fun _ _ _ hn => hn)).keep (Chg.alloc No _ (.cells #[.int .i64 0, .int .i64 0, .string ⟨#[]⟩] 32)) (fun _ _ _ hn => hn)
  have H1 := Aside0.mk (array_some h1 hl)
  have HT := Aside0.mk (h1.th _ _ (arrAt_some hl).2.2.2)
  clear h h1
  have BX0 := Aside0.mk (new2 w (.cells #[.int .i64 x.f0, .int .i64 x.f1, .string x.f2] 32) (.cells #[.int .i64 0, .int .i64 0, .string ⟨#[]⟩] 32))
  generalize xs.getD x.f1.toNat (false, 0) = r at H1 HT
  by_cases h0 : i < 0
  · have e1 : decide (i < 0) = true := by simpa using h0
    go_enter Tryd.func11, Tryd.ntmps11
    go_wp2_with (first
      | (go_at_call 33; refine H1.out.mono ?_; rintro e w' ⟨rfl, hb⟩; have bx := blk_below BX0.out hb; obtain ⟨⟨b0, b1, b2⟩, f0, f1, f2⟩ := box3 bx; have BX := Aside0.mk bx; clear bx; have HB := Aside0.mk hb; clear hb))
    refine bodyPost_ret (results_ct rfl _ _ (w.heap.size + 1) 32 #[.int .i64 0, .int .i64 0, .string ⟨#[]⟩] (0, 0) _ rfl (put3 BX.out) Tryd.underlying32 rfl (by kernel_rfl)) rfl ⟨rfl, ?_⟩
    exact below_put3 (below_step (below_alloc (below_alloc (Below.refl _ _) _) _) HB.out) (by omega)
  · have e1 : decide (i < 0) = false := by simpa using h0
    have e2 : decide ((l.length : Int) ≤ i) = true := by simp; omega
    go_enter Tryd.func11, Tryd.ntmps11
    go_wp2_with (first
      | (go_at_call 33; refine H1.out.mono ?_; rintro e w' ⟨rfl, hb⟩; obtain ⟨A, c, hc, _⟩ := (HT.out.step (fun k _ hk => hb.block k hk)).arr_cell; have bx := blk_below BX0.out hb; obtain ⟨⟨b0, b1, b2⟩, f0, f1, f2⟩ := box3 bx; have BX := Aside0.mk bx; clear bx; have HB := Aside0.mk hb; clear hb))
    refine bodyPost_ret (results_ct rfl _ _ (w.heap.size + 1) 32 #[.int .i64 0, .int .i64 0, .string ⟨#[]⟩] (0, 0) _ rfl (put3 BX.out) Tryd.underlying32 rfl (by kernel_rfl)) rfl ⟨rfl, ?_⟩
    exact below_put3 (below_step (below_alloc (below_alloc (Below.refl _ _) _) _) HB.out) (by omega)
def aAt (D : List Th) (x : S32) (i : Int) : S32 × Bool := match arrAt D x with | some l => if 0 ≤ i ∧ i < (l.length : Int) then (rd_T32 l i, true) else (z32, false) | none => (z32, false)
theorem atx_calls (h : HPw w O p v xs Os D) (x : S32) (i : Int) :
    Calls Tryd.prog 11 #[.pointer (some ⟨p, 0, none⟩), .agg #[.int .i64 x.f0, .int .i64 x.f1, .string x.f2], .int .i64 i] w fun e w' => e = .returned (.tuple #[enc (aAt D x i).1, .bool (aAt D x i).2]) ∧ Below w.heap.size w w' := by
  unfold aAt
  cases hl : arrAt D x with
  | some l =>
    by_cases hi : 0 ≤ i ∧ i < (l.length : Int)
    · simp only [if_pos hi]; exact atx_in h hl i hi.1 hi.2
    · simp only [if_neg hi]; exact atx_out h hl i hi
  | none => exact atx_of w _ x i (array_none ((h.keep (Chg.alloc No w (.cells #[.int .i64 x.f0, .int .i64 x.f1, .string x.f2] 32)) (fun _ _ _ hn => hn)).keep (Chg.alloc No _ (.cells #[.int .i64 0, .int .i64 0, .string ⟨#[]⟩] 32)) (fun _ _ _ hn => hn)) hl)
theorem atx_nil (w : World) (x : S32) (i : Int) :
    Calls Tryd.prog 11 #[.pointer none, .agg #[.int .i64 x.f0, .int .i64 x.f1, .string x.f2], .int .i64 i] w fun e w' => e = .returned (.tuple #[enc z32, .bool false]) ∧ Below w.heap.size w w' := atx_of w _ x i (array_nil _ x)

set_option maxHeartbeats 2000000 in
set_option maxRecDepth 100000 in
theorem get_of (w : World) (q : Option Addr) (x : S32) (n : ByteArray) (H : Calls Tryd.prog 32 #[.pointer q, .agg #[.int .i64 x.f0, .int .i64 x.f1, .string x.f2]] ((w.alloc (.cells #[.int .i64 x.f0, .int .i64 x.f1, .string x.f2] 32)).alloc (.cells #[.int .i64 0, .int .i64 0, .string ⟨#[]⟩] 32)) fun e w' => e = .returned (.tuple #[.pointer none, .bool false]) ∧ Below ((w.alloc (.cells #[.int .i64 x.f0, .int .i64 x.f1, .string x.f2] 32)).alloc (.cells #[.int .i64 0, .int .i64 0, .string ⟨#[]⟩] 32)).heap.size ((w.alloc (.cells #[.int .i64 x.f0, .int .i64 x.f1, .string x.f2] 32)).alloc (.cells #[.int .i64 0, .int .i64 0, .string ⟨#[]⟩] 32)) w') :
    Calls Tryd.prog 10 #[.pointer q, .agg #[.int .i64 x.f0, .int .i64 x.f1, .string x.f2], .string n] w fun e w' => e = .returned (.tuple #[enc z32, .bool false]) ∧ Below w.heap.size w w' := by
  have H1 := Aside0.mk H
  clear H
  have BX0 := Aside0.mk (new2 w (.cells #[.int .i64 x.f0, .int .i64 x.f1, .string x.f2] 32) (.cells #[.int .i64 0, .int .i64 0, .string ⟨#[]⟩] 32))
  go_enter Tryd.func10, Tryd.ntmps10
  go_wp2_with (first
    | (go_at_call 32; refine H1.out.mono ?_; rintro e w' ⟨rfl, hb⟩; have bx := blk_below BX0.out hb; obtain ⟨⟨b0, b1, b2⟩, f0, f1, f2⟩ := box3 bx; have BX := Aside0.mk bx; clear bx; have HB := Aside0.mk hb; clear hb))
  refine bodyPost_ret (results_ct rfl _ _ (w.heap.size + 1) 32 #[.int .i64 0, .int .i64 0, .string ⟨#[]⟩] (0, 0) _ rfl (put3 BX.out) Tryd.underlying32 rfl (by kernel_rfl)) rfl ⟨rfl, ?_⟩
  exact below_put3 (below_step (below_alloc (below_alloc (Below.refl _ _) _) _) HB.out) (by omega)
set_option maxHeartbeats 2000000 in
set_option maxRecDepth 100000 in
theorem get_some (h : HPw w O p v xs Os D) {x : S32} {kv : List (ByteArray × S32)} (hl : objAt D x = some kv) (n : ByteArray) :
    Calls Tryd.prog 10 #[.pointer (some ⟨p, 0, none⟩), .agg #[.int .i64 x.f0, .int .i64 x.f1, .string x.f2], .string n] w fun e w' => e = .returned (.tuple #[enc ((kvGet kv n).getD z32), .bool (kvGet kv n).isSome]) ∧ Below w.heap.size w w' := by
  have h1 := (h.keep (Chg.alloc No w (.cells #[.int .i64 x.f0, .int .i64 x.f1, .string x.f2] 32)) (fun _ _ _ hn => hn)).keep (Chg.alloc No _ (.cells #[.int .i64 0, .int .i64 0, .string ⟨#[]⟩] 32)) (fun _ _ _ hn => hn)
  have H1 := Aside0.mk (object_some h1 hl)
  have HT := Aside0.mk (h1.th _ _ (objAt_some hl).2.2.2)
  clear h h1
  have BX0 := Aside0.mk (new2 w (.cells #[.int .i64 x.f0, .int .i64 x.f1, .string x.f2] 32) (.cells #[.int .i64 0, .int .i64 0, .string ⟨#[]⟩] 32))
  generalize xs.getD x.f1.toNat (false, 0) = r at H1 HT
  have HR : ∀ {w : World} {m : Nat} {es : Array MapEntry} {c : Nat}, w.heap[m]? = some (.map es c) → Ents es kv → (Instr.lookup 58 (.map (some m)) (.string n) true).run Tryd.prog w = .ok (.tuple #[enc ((kvGet kv n).getD z32), .bool (kvGet kv n).isSome]) w := fun hb he => run_look hb he n
  have HRA := Aside0.mk @HR
  clear HR
  generalize (kvGet kv n).getD z32 = y at HRA ⊢
  generalize (kvGet kv n).isSome = yb at HRA ⊢
  go_enter Tryd.func10, Tryd.ntmps10
  go_wp2_with (first
    | (go_at_call 32; refine H1.out.mono ?_; rintro e w' ⟨rfl, hb⟩; obtain ⟨m, es, c, hc, hm, he⟩ := (HT.out.step (fun k _ hk => hb.block k hk)).obj_cell; have hrun := HRA.out hm he; unfold enc at hrun; clear hm he; have bx := blk_alloc (blk_below BX0.out hb) (.cells #[.int .i64 y.f0, .int .i64 y.f1, .string y.f2] 32); obtain ⟨⟨b0, b1, b2⟩, f0, f1, f2⟩ := box3 bx; have BX := Aside0.mk bx; clear bx; have HB := Aside0.mk hb; clear hb))
  refine bodyPost_ret (results_ct rfl _ _ (w.heap.size + 1) 32 #[.int .i64 y.f0, .int .i64 y.f1, .string y.f2] (0, 0) _ rfl (put3 BX.out) Tryd.underlying32 rfl (by kernel_rfl)) rfl ⟨rfl, ?_⟩
  exact below_put3 (below_alloc (below_step (below_alloc (below_alloc (Below.refl _ _) _) _) HB.out) _) (by omega)
def oGet (D : List Th) (x : S32) (n : ByteArray) : S32 × Bool := match objAt D x with | some kv => ((kvGet kv n).getD z32, (kvGet kv n).isSome) | none => (z32, false)
theorem get_calls (h : HPw w O p v xs Os D) (x : S32) (n : ByteArray) :
    Calls Tryd.prog 10 #[.pointer (some ⟨p, 0, none⟩), .agg #[.int .i64 x.f0, .int .i64 x.f1, .string x.f2], .string n] w fun e w' => e = .returned (.tuple #[enc (oGet D x n).1, .bool (oGet D x n).2]) ∧ Below w.heap.size w w' := by
  unfold oGet
  cases hl : objAt D x with
  | some l => exact get_some h hl n
  | none => exact get_of w _ x n (object_none ((h.keep (Chg.alloc No w (.cells #[.int .i64 x.f0, .int .i64 x.f1, .string x.f2] 32)) (fun _ _ _ hn => hn)).keep (Chg.alloc No _ (.cells #[.int .i64 0, .int .i64 0, .string ⟨#[]⟩] 32)) (fun _ _ _ hn => hn)) hl)
theorem get_nil (w : World) (x : S32) (n : ByteArray) :
    Calls Tryd.prog 10 #[.pointer none, .agg #[.int .i64 x.f0, .int .i64 x.f1, .string x.f2], .string n] w fun e w' => e = .returned (.tuple #[enc z32, .bool false]) ∧ Below w.heap.size w w' := get_of w _ x n (object_nil _ x)
end
end Go.Proofs.YtjbolkkbehfnmaaDoor.Val
