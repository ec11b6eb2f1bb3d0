/- Contracts of the heap's own look-ups: arrays and objects. -/
import Derived.Test.YtjbolkkbehfnmaaDoorVB
namespace Go.Proofs.YtjbolkkbehfnmaaDoor.Val
open Go.RowKit Go.Proofs.YtjbolkkbehfnmaaDoor.PVal Go.Proofs.YtjbolkkbehfnmaaDoorW.PrintWords Go.Proofs.YtjbolkkbehfnmaaDoorW.PrintLast Go.Proofs.YtjbolkkbehfnmaaDoorW.PrintMore
set_option linter.unusedVariables false
set_option linter.unusedSimpArgs false

theorem ta_nil61 (w : World) : (Instr.typeAssert .nilIface 75 61 true).run Tryd.prog w = .ok (.tuple #[.pointer none, .bool false]) w := by simp [Instr.typeAssert, run_underlying Tryd.underlying61, Result.andThen]
theorem ta_no61 (w : World) (v : Value) : (Instr.typeAssert (.iface 55 v) 75 61 true).run Tryd.prog w = .ok (.tuple #[.pointer none, .bool false]) w := by simp [Instr.typeAssert, run_underlying Tryd.underlying61, Result.andThen]
theorem ta_yes61 (w : World) (v : Value) : (Instr.typeAssert (.iface 61 v) 75 61 true).run Tryd.prog w = .ok (.tuple #[v, .bool true]) w := by simp [Instr.typeAssert, run_underlying Tryd.underlying61, Result.andThen]
theorem ta_nil55 (w : World) : (Instr.typeAssert .nilIface 75 55 true).run Tryd.prog w = .ok (.tuple #[.pointer none, .bool false]) w := by simp [Instr.typeAssert, run_underlying Tryd.underlying55, Result.andThen]
theorem ta_no55 (w : World) (v : Value) : (Instr.typeAssert (.iface 61 v) 75 55 true).run Tryd.prog w = .ok (.tuple #[.pointer none, .bool false]) w := by simp [Instr.typeAssert, run_underlying Tryd.underlying55, Result.andThen]
theorem ta_yes55 (w : World) (v : Value) : (Instr.typeAssert (.iface 55 v) 75 55 true).run Tryd.prog w = .ok (.tuple #[v, .bool true]) w := by simp [Instr.typeAssert, run_underlying Tryd.underlying55, Result.andThen]
attribute [local go_sem] ta_nil61 ta_no61 ta_yes61 ta_nil55 ta_no55 ta_yes55
set_option maxHeartbeats 2000000 in
set_option maxRecDepth 100000 in
/-- (*Heap).array: what 'at' tells, as an array. -/
theorem array_of (w : World) (q : Option Addr) (x : S32) (r : Value) (u : Value) (b : Bool) (hr : (r = .nilIface ∧ u = .pointer none ∧ b = false) ∨ (∃ k, r = .iface 55 (.pointer (some ⟨k, 0, none⟩)) ∧ u = .pointer none ∧ b = false) ∨ (∃ k, r = .iface 61 (.pointer (some ⟨k, 0, none⟩)) ∧ u = .pointer (some ⟨k, 0, none⟩) ∧ b = true))
    (H : ∀ W : World, (W = w.alloc (.cells #[.int .i64 x.f0, .int .i64 x.f1, .string x.f2] 32)) → Calls Tryd.prog 41 #[.pointer q, .agg #[.int .i64 x.f0, .int .i64 x.f1, .string x.f2], .int .i64 5] W fun e w' => e = .returned r ∧ Below W.heap.size W w') :
    Calls Tryd.prog 33 #[.pointer q, .agg #[.int .i64 x.f0, .int .i64 x.f1, .string x.f2]] w fun e w' => e = .returned (.tuple #[u, .bool b]) ∧ Below w.heap.size w w' := by
  have H1 := Aside0.mk (H _ rfl)
  clear H
  rcases hr with ⟨rfl, rfl, rfl⟩ | ⟨k, rfl, rfl, rfl⟩ | ⟨k, rfl, rfl, rfl⟩
  · go_enter Tryd.func33, Tryd.ntmps33
    go_wp2_with (go_at_call 41; refine H1.out.mono ?_; rintro e w' ⟨rfl, hb⟩)
    go_ret2
    exact ⟨rfl, below_step (below_alloc (Below.refl _ _) _) hb⟩
  · go_enter Tryd.func33, Tryd.ntmps33
    go_wp2_with (go_at_call 41; refine H1.out.mono ?_; rintro e w' ⟨rfl, hb⟩)
    go_ret2
    exact ⟨rfl, below_step (below_alloc (Below.refl _ _) _) hb⟩
  · go_enter Tryd.func33, Tryd.ntmps33
    go_wp2_with (go_at_call 41; refine H1.out.mono ?_; rintro e w' ⟨rfl, hb⟩)
    go_ret2
    exact ⟨rfl, below_step (below_alloc (Below.refl _ _) _) hb⟩
set_option maxHeartbeats 2000000 in
set_option maxRecDepth 100000 in
/-- (*Heap).object: what 'at' tells, as an object. -/
theorem object_of (w : World) (q : Option Addr) (x : S32) (r : Value) (u : Value) (b : Bool) (hr : (r = .nilIface ∧ u = .pointer none ∧ b = false) ∨ (∃ k, r = .iface 61 (.pointer (some ⟨k, 0, none⟩)) ∧ u = .pointer none ∧ b = false) ∨ (∃ k, r = .iface 55 (.pointer (some ⟨k, 0, none⟩)) ∧ u = .pointer (some ⟨k, 0, none⟩) ∧ b = true))
    (H : ∀ W : World, (W = w.alloc (.cells #[.int .i64 x.f0, .int .i64 x.f1, .string x.f2] 32)) → Calls Tryd.prog 41 #[.pointer q, .agg #[.int .i64 x.f0, .int .i64 x.f1, .string x.f2], .int .i64 6] W fun e w' => e = .returned r ∧ Below W.heap.size W w') :
    Calls Tryd.prog 32 #[.pointer q, .agg #[.int .i64 x.f0, .int .i64 x.f1, .string x.f2]] w fun e w' => e = .returned (.tuple #[u, .bool b]) ∧ Below w.heap.size w w' := by
  have H1 := Aside0.mk (H _ rfl)
  clear H
  rcases hr with ⟨rfl, rfl, rfl⟩ | ⟨k, rfl, rfl, rfl⟩ | ⟨k, rfl, rfl, rfl⟩
  · go_enter Tryd.func32, Tryd.ntmps32
    go_wp2_with (go_at_call 41; refine H1.out.mono ?_; rintro e w' ⟨rfl, hb⟩)
    go_ret2
    exact ⟨rfl, below_step (below_alloc (Below.refl _ _) _) hb⟩
  · go_enter Tryd.func32, Tryd.ntmps32
    go_wp2_with (go_at_call 41; refine H1.out.mono ?_; rintro e w' ⟨rfl, hb⟩)
    go_ret2
    exact ⟨rfl, below_step (below_alloc (Below.refl _ _) _) hb⟩
  · go_enter Tryd.func32, Tryd.ntmps32
    go_wp2_with (go_at_call 41; refine H1.out.mono ?_; rintro e w' ⟨rfl, hb⟩)
    go_ret2
    exact ⟨rfl, below_step (below_alloc (Below.refl _ _) _) hb⟩

def arrAt (D : List Th) (x : S32) : Option (List S32) := if x.f0 = 5 ∧ 0 ≤ x.f1 ∧ x.f1 < (D.length : Int) then (match D[x.f1.toNat]? with | some (.arr l) => some l | _ => none) else none
def objAt (D : List Th) (x : S32) : Option (List (ByteArray × S32)) := if x.f0 = 6 ∧ 0 ≤ x.f1 ∧ x.f1 < (D.length : Int) then (match D[x.f1.toNat]? with | some (.obj l) => some l | _ => none) else none
theorem arrAt_some {D : List Th} {x : S32} {l : List S32} (h : arrAt D x = some l) : x.f0 = 5 ∧ 0 ≤ x.f1 ∧ x.f1 < (D.length : Int) ∧ D[x.f1.toNat]? = some (.arr l) := by
  unfold arrAt at h
  split at h
  · rename_i hc
    refine ⟨hc.1, hc.2.1, hc.2.2, ?_⟩
    split at h
    · rename_i l' he
      injection h with h
      rw [he, h]
    · cases h
  · cases h
theorem objAt_some {D : List Th} {x : S32} {l : List (ByteArray × S32)} (h : objAt D x = some l) : x.f0 = 6 ∧ 0 ≤ x.f1 ∧ x.f1 < (D.length : Int) ∧ D[x.f1.toNat]? = some (.obj l) := by
  unfold objAt at h
  split at h
  · rename_i hc
    refine ⟨hc.1, hc.2.1, hc.2.2, ?_⟩
    split at h
    · rename_i l' he
      injection h with h
      rw [he, h]
    · cases h
  · cases h
section
variable {w : World} {O : Nat → Prop} {p : Nat} {v : Value} {xs : List (Bool × Nat)} {Os : Nat → Nat → Prop} {D : List Th}
theorem array_some (h : HPw w O p v xs Os D) {x : S32} {l : List S32} (hl : arrAt D x = some l) :
    Calls Tryd.prog 33 #[.pointer (some ⟨p, 0, none⟩), .agg #[.int .i64 x.f0, .int .i64 x.f1, .string x.f2]] w fun e w' => e = .returned (.tuple #[.pointer (some ⟨(xs.getD x.f1.toNat (false, 0)).2, 0, none⟩), .bool true]) ∧ Below w.heap.size w w' := by
  obtain ⟨h1, h2, h3, h4⟩ := arrAt_some hl
  have hT := h.th _ _ h4
  refine array_of w _ x (atV xs x 5) _ _ (Or.inr (Or.inr ⟨(xs.getD x.f1.toNat (false, 0)).2, ?_, rfl, rfl⟩)) (fun W hW => ?_)
  · unfold atV
    rw [if_pos ⟨h1, h2, by rw [h.len]; exact h3⟩]
    unfold thEnc
    rw [if_neg (by rw [hT.1]; simp)]
  · subst hW
    exact at_calls (h.keep (Chg.alloc No w _) (fun _ _ _ hn => hn)) x 5
theorem array_none (h : HPw w O p v xs Os D) {x : S32} (hl : arrAt D x = none) :
    Calls Tryd.prog 33 #[.pointer (some ⟨p, 0, none⟩), .agg #[.int .i64 x.f0, .int .i64 x.f1, .string x.f2]] w fun e w' => e = .returned (.tuple #[.pointer none, .bool false]) ∧ Below w.heap.size w w' := by
  refine array_of w _ x (atV xs x 5) _ _ ?_ (fun W hW => by subst hW; exact at_calls (h.keep (Chg.alloc No w _) (fun _ _ _ hn => hn)) x 5)
  unfold atV
  by_cases hc : x.f0 = 5 ∧ 0 ≤ x.f1 ∧ x.f1 < (xs.length : Int)
  · rw [if_pos hc]
    have hc' : x.f0 = 5 ∧ 0 ≤ x.f1 ∧ x.f1 < (D.length : Int) := by rw [← h.len]; exact hc
    unfold arrAt at hl
    rw [if_pos hc'] at hl
    have hlt : x.f1.toNat < D.length := by omega
    have hT := h.th _ _ (List.getElem?_eq_getElem hlt)
    rw [List.getElem?_eq_getElem hlt] at hl
    cases ht : D[x.f1.toNat] with
    | arr l => rw [ht] at hl; cases hl
    | obj kv =>
      rw [ht] at hT
      exact Or.inr (Or.inl ⟨(xs.getD x.f1.toNat (false, 0)).2, by unfold thEnc; rw [if_pos hT.1], rfl, rfl⟩)
  · rw [if_neg hc]
    exact Or.inl ⟨rfl, rfl, rfl⟩
theorem object_some (h : HPw w O p v xs Os D) {x : S32} {l : List (ByteArray × S32)} (hl : objAt D x = some l) :
    Calls Tryd.prog 32 #[.pointer (some ⟨p, 0, none⟩), .agg #[.int .i64 x.f0, .int .i64 x.f1, .string x.f2]] w fun e w' => e = .returned (.tuple #[.pointer (some ⟨(xs.getD x.f1.toNat (false, 0)).2, 0, none⟩), .bool true]) ∧ Below w.heap.size w w' := by
  obtain ⟨h1, h2, h3, h4⟩ := objAt_some hl
  have hT := h.th _ _ h4
  refine object_of w _ x (atV xs x 6) _ _ (Or.inr (Or.inr ⟨(xs.getD x.f1.toNat (false, 0)).2, ?_, rfl, rfl⟩)) (fun W hW => ?_)
  · unfold atV
    rw [if_pos ⟨h1, h2, by rw [h.len]; exact h3⟩]
    unfold thEnc
    rw [if_pos hT.1]
  · subst hW
    exact at_calls (h.keep (Chg.alloc No w _) (fun _ _ _ hn => hn)) x 6
theorem object_none (h : HPw w O p v xs Os D) {x : S32} (hl : objAt D x = none) :
    Calls Tryd.prog 32 #[.pointer (some ⟨p, 0, none⟩), .agg #[.int .i64 x.f0, .int .i64 x.f1, .string x.f2]] w fun e w' => e = .returned (.tuple #[.pointer none, .bool false]) ∧ Below w.heap.size w w' := by
  refine object_of w _ x (atV xs x 6) _ _ ?_ (fun W hW => by subst hW; exact at_calls (h.keep (Chg.alloc No w _) (fun _ _ _ hn => hn)) x 6)
  unfold atV
  by_cases hc : x.f0 = 6 ∧ 0 ≤ x.f1 ∧ x.f1 < (xs.length : Int)
  · rw [if_pos hc]
    have hc' : x.f0 = 6 ∧ 0 ≤ x.f1 ∧ x.f1 < (D.length : Int) := by rw [← h.len]; exact hc
    unfold objAt at hl
    rw [if_pos hc'] at hl
    have hlt : x.f1.toNat < D.length := by omega
    have hT := h.th _ _ (List.getElem?_eq_getElem hlt)
    rw [List.getElem?_eq_getElem hlt] at hl
    cases ht : D[x.f1.toNat] with
    | obj l => rw [ht] at hl; cases hl
    | arr kv =>
      rw [ht] at hT
      exact Or.inr (Or.inl ⟨(xs.getD x.f1.toNat (false, 0)).2, by unfold thEnc; rw [if_neg (by rw [hT.1]; simp)], rfl, rfl⟩)
  · rw [if_neg hc]
    exact Or.inl ⟨rfl, rfl, rfl⟩
theorem array_nil (w : World) (x : S32) :
    Calls Tryd.prog 33 #[.pointer none, .agg #[.int .i64 x.f0, .int .i64 x.f1, .string x.f2]] w fun e w' => e = .returned (.tuple #[.pointer none, .bool false]) ∧ Below w.heap.size w w' :=
  array_of w none x .nilIface _ _ (Or.inl ⟨rfl, rfl, rfl⟩) (fun W _ => at_nil W x 5)
theorem object_nil (w : World) (x : S32) :
    Calls Tryd.prog 32 #[.pointer none, .agg #[.int .i64 x.f0, .int .i64 x.f1, .string x.f2]] w fun e w' => e = .returned (.tuple #[.pointer none, .bool false]) ∧ Below w.heap.size w w' :=
  object_of w none x .nilIface _ _ (Or.inl ⟨rfl, rfl, rfl⟩) (fun W _ => at_nil W x 6)
end
end Go.Proofs.YtjbolkkbehfnmaaDoor.Val
