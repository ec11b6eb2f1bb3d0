/- RefL, as this claim needs it. -/
import Derived.Test.YtbnpgobjbokboaaDoorPLexx10q
import Derived.Test.YtbnpgobjbokboaaDoorPLexx11q
import Derived.Test.YtbnpgobjbokboaaDoorPLexx12q
import Derived.Test.YtbnpgobjbokboaaDoorPLexx13q
import Derived.Test.YtbnpgobjbokboaaDoorPLexx14q
import Derived.Test.YtbnpgobjbokboaaDoorPLexx15q
import Derived.Test.YtbnpgobjbokboaaDoorPLexx16q
import Derived.Test.YtbnpgobjbokboaaDoorBriq
import Derived.Lib.Index
namespace Go.Proofs.YtbnpgobjbokboaaDoor.Lx
open Go.RowKit Go.Proofs.YtbnpgobjbokboaaDoor.PLex Go.Proofs.YtbnpgobjbokboaaDoorW.PrintWords Go.Proofs.YtbnpgobjbokboaaDoorW.PrintLast
set_option linter.unusedVariables false
set_option linter.unusedSimpArgs false
theorem nb_app1 (a : L) (c : UInt8) (r : L) : nb (a ++ c :: r) (a.length + 1) = nb r 0 := by
  unfold nb
  rw [List.getD_eq_getElem?_getD, List.getD_eq_getElem?_getD, List.getElem?_append_right (by omega), show a.length + 1 - a.length = 1 by omega]
  rfl
theorem head_nb (r : L) (y : UInt8) (hy : y ≠ 0) : r.head? = some y ↔ nb r 0 = y.toNat := by
  match r with
  | [] =>
    simp only [List.head?_nil, reduceCtorEq, false_iff]
    intro h
    exact hy (UInt8.toNat_inj.1 h.symm)
  | d :: t =>
    rw [List.head?_cons, Option.some.injEq, nb_cons]
    exact UInt8.toNat_inj.symm
def pastP (n : Nat) (p : L × Bool) : Int × Bool := (((n - p.1.length : Nat) : Int), p.2)
theorem past_line (x : Int × Bool) (r : L) : ∀ (a : L), (a ++ r).length ≤ 1073741824 → Ev (fun k => gussetref04_past.l0 k (B (a ++ r)) (((a ++ r).length - (r.dropWhile (· != 10)).length : Nat) : Int)) x → Ev (fun k => gussetref04_past.l1 k (B (a ++ r)) (a.length : Int)) x := by
  induction r with
  | nil =>
    intro a hl h
    refine Ev.step (f := fun k => gussetref04_past.l0 k (B (a ++ [])) (a.length : Int)) (fun k => ?_) ?_
    rotate_left
    ·
     simpa using h
    rw [gussetref04_past.l1, if_neg (by rw [B_size]; simp)]
  | cons c r ih =>
    intro a hl h
    by_cases hc : c = 10
    ·
     subst hc
     refine Ev.step (f := fun k => gussetref04_past.l0 k (B (a ++ 10 :: r)) (a.length : Int)) (fun k => ?_) ?_
     rotate_left
     ·
      rw [List.dropWhile_cons_of_neg (by decide)] at h
      rw [show (a ++ 10 :: r).length - (10 :: r).length = a.length by rw [List.length_append]; omega] at h
      exact h
     rw [gussetref04_past.l1, if_pos (by rw [B_size, List.length_append, List.length_cons]; omega), if_pos (by omega), B_bt, nb_app, if_pos (show (((10 : UInt8).toNat : Nat) : Int) = 10 from rfl)]
    have hw : (c :: r).dropWhile (· != 10) = r.dropWhile (· != 10) := List.dropWhile_cons_of_pos (by simpa using hc)
    refine Ev.step (f := fun k => gussetref04_past.l1 k (B (a ++ c :: r)) ((a.length + 1 : Nat) : Int)) (fun k => ?_) ?_
    rotate_left
    ·
     rw [hw] at h
     have := ih (a ++ [c]) (by simpa using hl) (by rw [show a ++ [c] ++ r = a ++ c :: r by simp]; exact h)
     rw [show a ++ [c] ++ r = a ++ c :: r by simp, List.length_append] at this
     exact this
    rw [gussetref04_past.l1, if_pos (by rw [B_size, List.length_append, List.length_cons]; omega), if_pos (by omega), B_bt, nb_app, if_neg (fun e => hc (UInt8.toNat_inj.1 (show c.toNat = 10 by omega))), wrap_1 _ (by rw [List.length_append] at hl; omega)]
theorem past_note (p : Nat) : ∀ (r a : L), (a ++ r).length ≤ 1073741824 → (close r = none → Ev (fun k => gussetref04_past.l2 k (B (a ++ r)) (p : Int) (a.length : Int)) ((p : Int), false)) ∧
    (∀ t x, close r = some t → Ev (fun k => gussetref04_past.l0 k (B (a ++ r)) (((a ++ r).length - t.length : Nat) : Int)) x → Ev (fun k => gussetref04_past.l2 k (B (a ++ r)) (p : Int) (a.length : Int)) x) := by
  intro r
  induction r with
  | nil =>
    intro a hl
    have hw : wrap64 ((a.length : Int) + 1) = ((a.length + 1 : Nat) : Int) := wrap_1 _ (by rw [List.length_append] at hl; omega)
    refine ⟨fun _ => ?_, fun t x h => by cases h⟩
    refine Ev.step (f := fun _ => some ((p : Int), false)) (fun k => ?_) (Ev.now _)
    rw [gussetref04_past.l2, hw, if_neg (by rw [B_size]; simp; omega), if_pos (by rw [B_size]; simp; omega)]
  | cons c r ih =>
    intro a hl
    have hnl : (a ++ c :: r).length = a.length + (r.length + 1) := by simp
    have hw : wrap64 ((a.length : Int) + 1) = ((a.length + 1 : Nat) : Int) := wrap_1 _ (by omega)
    have hw2 : wrap64 ((a.length : Int) + 2) = ((a.length + 2 : Nat) : Int) := by unfold wrap64; omega
    have hih := ih (a ++ [c]) (by simpa using hl)
    rw [show a ++ [c] ++ r = a ++ c :: r by simp, @List.length_append _ (a) [c]] at hih
    have hb1 : bt (B (a ++ c :: r)) ((a.length + 1 : Nat) : Int) = (nb r 0 : Int) := by rw [B_bt, nb_app1]
    have hb0 : bt (B (a ++ c :: r)) (a.length : Int) = (c.toNat : Int) := by rw [B_bt, nb_app]
    have hsz : (B (a ++ c :: r)).size = a.length + (r.length + 1) := by rw [B_size, hnl]
    have h42 : ((c.toNat : Int) = 42) ↔ c = 42 := u8_eq (n := 42) (by omega)
    by_cases hcl : c = 42 ∧ r.head? = some 47
    ·
     have hc2 : close (c :: r) = some r.tail := by rw [close, if_pos hcl]
     obtain ⟨hc, h47⟩ := hcl
     have hn47 := (head_nb r 47 (by decide)).1 h47
     have hrl : 0 < r.length := List.length_pos_iff.2 (fun e => by rw [e] at h47; cases h47)
     refine ⟨fun h => by (rw [hc2] at h; cases h), fun t x ht hx => ?_⟩
     rw [hc2] at ht
     obtain rfl := Option.some.inj ht
     refine Ev.step (f := fun k => gussetref04_past.l0 k (B (a ++ c :: r)) ((a.length + 2 : Nat) : Int)) (fun k => ?_) ?_
     rotate_left
     ·
      rw [show a.length + 2 = (a ++ c :: r).length - r.tail.length by rw [hnl, List.length_tail]; omega]
      exact hx
     rw [gussetref04_past.l2, hw, hw2, hb0, hb1, hsz, if_pos (by omega), if_pos (by omega), if_pos (by omega), if_pos (h42.2 hc), if_pos (by omega), if_pos (show ((nb r 0 : Nat) : Int) = 47 by rw [hn47]; rfl), if_neg (by omega)]
    have hc2 : close (c :: r) = close r := by rw [close, if_neg hcl]
    rw [hc2]
    by_cases hr : r = []
    ·
     subst hr
     refine ⟨fun _ => ?_, fun t x h => by cases h⟩
     refine Ev.step (f := fun _ => some ((p : Int), false)) (fun k => ?_) (Ev.now _)
     simp only [List.length_nil] at hsz
     rw [gussetref04_past.l2, hw, hsz, if_neg (by omega), if_pos (by omega)]
    have hrl := List.length_pos_iff.2 hr
    have hst : ∀ k, gussetref04_past.l2 (k + 1) (B (a ++ c :: r)) (p : Int) (a.length : Int) = gussetref04_past.l2 k (B (a ++ c :: r)) (p : Int) ((a.length + 1 : Nat) : Int) := fun k => by
      rw [gussetref04_past.l2, hw, hb0, hb1, hsz, if_pos (by omega), if_pos (by omega), if_pos (by omega)]
      by_cases hc : c = 42
      rotate_left
      ·
       rw [if_neg (fun e => hc (h42.1 e))]
      have hn47 : ¬ nb r 0 = 47 := fun e => hcl ⟨hc, (head_nb r 47 (by decide)).2 e⟩
      rw [if_pos (h42.2 hc), if_pos (by omega), if_neg (by omega)]
    exact ⟨fun h => Ev.step hst (hih.1 h), fun t x h hx => Ev.step hst (hih.2 t x h hx)⟩
theorem past_l0 (l : L) : ∀ (a : L), (a ++ l).length ≤ 1073741824 → Ev (fun k => gussetref04_past.l0 k (B (a ++ l)) (a.length : Int)) (pastP (a ++ l).length (skipS l)) := by
  -- the tests of one round
  have j1 : ∀ (a : L) (c : UInt8) (r : L) (k : Nat), blank c = false → (a ++ c :: r).length ≤ 1073741824 → gussetref04_past.j1 (k + 1) (B (a ++ c :: r)) (a.length : Int) false = gussetref04_past.j2 k (B (a ++ c :: r)) (a.length : Int) (decide (c = 47 ∧ r.head? = some 47)) := by
    intro a c r k hb hl
    have hnl : (a ++ c :: r).length = a.length + (r.length + 1) := by simp
    have hw : wrap64 ((a.length : Int) + 1) = ((a.length + 1 : Nat) : Int) := wrap_1 _ (by omega)
    have h47 : ((c.toNat : Int) = 47) ↔ c = 47 := u8_eq (n := 47) (by omega)
    have hh := head_nb r 47 (by decide)
    rw [gussetref04_past.j1, if_neg (by decide), if_pos (by omega), if_pos (by rw [B_size, hnl]; omega), B_bt, nb_app, hw, show bt (B (a ++ c :: r)) ((a.length + 1 : Nat) : Int) = (nb r 0 : Int) by rw [B_bt, nb_app1], B_size, hnl]
    by_cases hc : c = 47
    rotate_left
    ·
     rw [if_neg (fun e => hc (h47.1 e))]
     simp [hc]
    rw [if_pos (h47.2 hc)]
    by_cases hr : r = []
    ·
     subst hr
     rw [if_neg (by simp)]
     simp
    have hrl := List.length_pos_iff.2 hr
    rw [if_pos (by omega), if_pos (by omega)]
    congr 1
    rw [Bool.eq_iff_iff, beq_iff_eq, decide_eq_true_eq, hh]
    exact ⟨fun h => ⟨hc, by have : nb r 0 = 47 := by omega
                            exact this⟩, fun h => by have := h.2; have e : (47 : UInt8).toNat = 47 := rfl; omega⟩
  have j2 : ∀ (a : L) (c : UInt8) (r : L) (k : Nat), (a ++ c :: r).length ≤ 1073741824 → gussetref04_past.j2 (k + 1) (B (a ++ c :: r)) (a.length : Int) false = gussetref04_past.j4 k (B (a ++ c :: r)) (a.length : Int) (decide (c = 47 ∧ r.head? = some 42)) := by
    intro a c r k hl
    have hnl : (a ++ c :: r).length = a.length + (r.length + 1) := by simp
    have hw : wrap64 ((a.length : Int) + 1) = ((a.length + 1 : Nat) : Int) := wrap_1 _ (by omega)
    have h47 : ((c.toNat : Int) = 47) ↔ c = 47 := u8_eq (n := 47) (by omega)
    have hh := head_nb r 42 (by decide)
    rw [gussetref04_past.j2, if_neg (by decide), if_pos (by omega), if_pos (by rw [B_size, hnl]; omega), B_bt, nb_app, hw, show bt (B (a ++ c :: r)) ((a.length + 1 : Nat) : Int) = (nb r 0 : Int) by rw [B_bt, nb_app1], B_size, hnl]
    by_cases hc : c = 47
    rotate_left
    ·
     rw [if_neg (fun e => hc (h47.1 e))]
     simp [hc]
    rw [if_pos (h47.2 hc)]
    by_cases hr : r = []
    ·
     subst hr
     rw [if_neg (by simp)]
     simp
    have hrl := List.length_pos_iff.2 hr
    rw [if_pos (by omega), if_pos (by omega)]
    congr 1
    rw [Bool.eq_iff_iff, beq_iff_eq, decide_eq_true_eq, hh]
    exact ⟨fun h => ⟨hc, by have : nb r 0 = 42 := by omega
                            exact this⟩, fun h => by have := h.2; have e : (42 : UInt8).toNat = 42 := rfl; omega⟩
  have st : ∀ (a : L) (c : UInt8) (r : L) (k : Nat), (a ++ c :: r).length ≤ 1073741824 → gussetref04_past.l0 (k + 1) (B (a ++ c :: r)) (a.length : Int) = gussetref04_past.j1 k (B (a ++ c :: r)) (a.length : Int) (blank c) := by
    intro a c r k hl
    have hnl : (a ++ c :: r).length = a.length + (r.length + 1) := by simp
    rw [gussetref04_past.l0, if_pos (by rw [B_size, hnl]; omega), if_pos (by omega), B_bt, nb_app]
    have hb := blank_b c
    by_cases h9 : (c.toNat : Int) = 9
    ·
     rw [if_pos h9, hb.2 (Or.inl h9)]
    rw [if_neg h9]
    by_cases h10 : (c.toNat : Int) = 10
    ·
     rw [if_pos h10, hb.2 (Or.inr (Or.inl h10))]
    rw [if_neg h10]
    by_cases h13 : (c.toNat : Int) = 13
    ·
     rw [if_pos h13, hb.2 (Or.inr (Or.inr (Or.inl h13)))]
    rw [if_neg h13]
    congr 1
    rw [Bool.eq_iff_iff, beq_iff_eq, hb]
    omega
  refine skip_ind (P := fun l => ∀ (a : L), (a ++ l).length ≤ 1073741824 → Ev (fun k => gussetref04_past.l0 k (B (a ++ l)) (a.length : Int)) (pastP (a ++ l).length (skipS l))) ?_ ?_ ?_ ?_ ?_ ?_ _ l (Nat.le_refl _)
  ·
   intro a hl
   refine Ev.step (f := fun _ => some ((a.length : Int), true)) (fun k => ?_) ?_
   ·
    rw [gussetref04_past.l0, if_neg (by rw [B_size]; simp)]
   rw [skip_nil]
   have : pastP (a ++ []).length (([] : L), true) = ((a.length : Int), true) := by simp [pastP]
   rw [this]
   exact Ev.now _
  ·
   intro c r hc ih a hl
   refine Ev.step (fun k => st a c r k hl) (Ev.step (f := fun k => gussetref04_past.l0 k (B (a ++ c :: r)) ((a.length + 1 : Nat) : Int)) (fun k => ?_) ?_)
   ·
    rw [hc, gussetref04_past.j1, if_pos rfl, wrap_1 _ (by rw [List.length_append] at hl; omega)]
   rw [skip_blank hc]
   have := ih (a ++ [c]) (by simpa using hl)
   rw [show a ++ [c] ++ r = a ++ c :: r by simp, @List.length_append _ (a) [c]] at this
   exact this
  ·
   intro r hr ih a hl
   refine Ev.step (fun k => st a 47 r k hl) (Ev.step (fun k => j1 a 47 r k blank47 hl) (Ev.step (f := fun k => gussetref04_past.l1 k (B (a ++ 47 :: r)) (a.length : Int)) (fun k => ?_) ?_))
   ·
    rw [gussetref04_past.j2, if_pos (decide_eq_true ⟨rfl, hr⟩)]
   rw [skip_line hr]
   have hw : (47 :: r).dropWhile (· != 10) = r.dropWhile (· != 10) := List.dropWhile_cons_of_pos (by decide)
   refine past_line _ (47 :: r) a hl ?_
   rw [hw]
   have hsp : a ++ 47 :: r = (a ++ 47 :: r.takeWhile (· != 10)) ++ r.dropWhile (· != 10) := by rw [List.append_assoc, List.cons_append, List.takeWhile_append_dropWhile]
   have := ih (a ++ 47 :: r.takeWhile (· != 10)) (by rw [← hsp]; exact hl)
   rw [← hsp] at this
   rw [show (a ++ 47 :: r).length - (r.dropWhile (· != 10)).length = (a ++ 47 :: r.takeWhile (· != 10)).length by
     have := congrArg List.length hsp
     rw [@List.length_append _ (a ++ 47 :: r.takeWhile (· != 10))] at this
     omega]
   exact this
  ·
   intro r t hr ht ih a hl
   have hno : ¬ ((47 : UInt8) = 47 ∧ r.head? = some 47) := fun h => by rw [hr] at h; exact absurd h.2 (by decide)
   refine Ev.step (fun k => st a 47 r k hl) (Ev.step (fun k => j1 a 47 r k blank47 hl) ?_)
   rw [decide_eq_false hno]
   refine Ev.step (fun k => j2 a 47 r k hl) (Ev.step (f := fun k => gussetref04_past.l2 k (B (a ++ 47 :: r)) (a.length : Int) ((a.length + 2 : Nat) : Int)) (fun k => ?_) ?_)
   ·
    have hnl : (a ++ 47 :: r).length = a.length + (r.length + 1) := by simp
    rw [gussetref04_past.j4, if_pos (decide_eq_true ⟨rfl, hr⟩), show wrap64 ((a.length : Int) + 2) = ((a.length + 2 : Nat) : Int) by unfold wrap64; omega]
   rw [skip_note hr ht]
   match r with
   | [] => cases hr
   | d :: r =>
     obtain ⟨y, hy⟩ := close_suffix ht
     have hy : r = y ++ t := hy
     have hsp : a ++ 47 :: d :: r = (a ++ 47 :: d :: y) ++ t := by rw [hy]; simp
     have := (past_note a.length r (a ++ [47, d]) (by rw [show a ++ [47, d] ++ r = a ++ 47 :: d :: r by simp]; exact hl)).2 t (pastP (a ++ 47 :: d :: r).length (skipS t)) ht (by
       have h2 := ih (a ++ 47 :: d :: y) (by rw [← hsp]; exact hl)
       rw [← hsp] at h2
       rw [show a ++ [47, d] ++ r = a ++ 47 :: d :: r by simp, show (a ++ 47 :: d :: r).length - t.length = (a ++ 47 :: d :: y).length by
         have := congrArg List.length hsp
         rw [@List.length_append _ (a ++ 47 :: d :: y)] at this
         omega]
       exact h2)
     rw [show a ++ [47, d] ++ r = a ++ 47 :: d :: r by simp, @List.length_append _ (a) [47, d]] at this
     exact this
  ·
   intro r hr ht a hl
   have hno : ¬ ((47 : UInt8) = 47 ∧ r.head? = some 47) := fun h => by rw [hr] at h; exact absurd h.2 (by decide)
   refine Ev.step (fun k => st a 47 r k hl) (Ev.step (fun k => j1 a 47 r k blank47 hl) ?_)
   rw [decide_eq_false hno]
   refine Ev.step (fun k => j2 a 47 r k hl) (Ev.step (f := fun k => gussetref04_past.l2 k (B (a ++ 47 :: r)) (a.length : Int) ((a.length + 2 : Nat) : Int)) (fun k => ?_) ?_)
   ·
    have hnl : (a ++ 47 :: r).length = a.length + (r.length + 1) := by simp
    rw [gussetref04_past.j4, if_pos (decide_eq_true ⟨rfl, hr⟩), show wrap64 ((a.length : Int) + 2) = ((a.length + 2 : Nat) : Int) by unfold wrap64; omega]
   rw [skip_open hr ht]
   match r with
   | [] => cases hr
   | d :: r =>
     have := (past_note a.length r (a ++ [47, d]) (by rw [show a ++ [47, d] ++ r = a ++ 47 :: d :: r by simp]; exact hl)).1 ht
     rw [show a ++ [47, d] ++ r = a ++ 47 :: d :: r by simp, @List.length_append _ (a) [47, d]] at this
     have hp : pastP (a ++ 47 :: d :: r).length (47 :: d :: r, false) = ((a.length : Int), false) := by simp [pastP]
     rw [hp]
     exact this
  intro l hs a hl
  rw [skip_stay hs]
  obtain ⟨c, r, rfl, h1, h2⟩ := hs
  have hp : pastP (a ++ c :: r).length (c :: r, true) = ((a.length : Int), true) := by simp [pastP]
  rw [hp]
  refine Ev.step (fun k => st a c r k hl) ?_
  rw [h1]
  refine Ev.step (fun k => j1 a c r k h1 hl) ?_
  rw [decide_eq_false (fun h => h2 ⟨h.1, Or.inl h.2⟩)]
  refine Ev.step (fun k => j2 a c r k hl) ?_
  rw [decide_eq_false (fun h => h2 ⟨h.1, Or.inr h.2⟩)]
  refine Ev.step (f := fun _ => some ((a.length : Int), true)) (fun k => ?_) (Ev.now _)
  rw [gussetref04_past.j4, if_neg (by decide)]
theorem past_f (l : L) (hl : l.length ≤ 1073741824) : Ev (fun k => gussetref04_past.f k (B l)) (pastP l.length (skipS l)) := past_l0 l [] hl
end Go.Proofs.YtbnpgobjbokboaaDoor.Lx
namespace Go.Proofs.YtbnpgobjbokboaaDoor.Lx
open Go.RowKit Go.Proofs.YtbnpgobjbokboaaDoor.PLex Go.Proofs.YtbnpgobjbokboaaDoorW.PrintWords Go.Proofs.YtbnpgobjbokboaaDoorW.PrintLast
set_option linter.unusedVariables false
set_option linter.unusedSimpArgs false
theorem wb (l : L) (i : Nat) : wrap64 (bt (B l) (i : Int)) = (nb l i : Int) := by
  rw [B_bt]
  have := nb_lt l i
  unfold wrap64
  omega
theorem head_step (l : L) (k n least v i : Nat) (hi : i < n) (hn : n ≤ 4) (hl : i < l.length) (hv : v ≤ 1000000) : gussetref01_Head.l0 (k + 1) (B l) (n : Int) (least : Int) (v : Int) (i : Int) = if nb l i / 64 = 2 then gussetref01_Head.l0 k (B l) (n : Int) (least : Int) ((v * 64 + nb l i % 64 : Nat) : Int) ((i + 1 : Nat) : Int) else some (1, -1) := by
  have h8 := nb_lt l i
  rw [gussetref01_Head.l0, if_pos (by omega), if_pos (by omega), if_pos (by rw [B_size]; omega), wb]
  by_cases h : nb l i / 64 = 2
  rotate_left
  ·
   rw [if_neg h]
   by_cases h1 : (nb l i : Int) < 128
   ·
    rw [if_pos h1]
   rw [if_neg h1, if_pos (by omega)]
  have hw : wrap64 ((wrap64 ((wrap64 ((v : Int) * 64)) + (nb l i : Int))) - 128) = ((v * 64 + nb l i % 64 : Nat) : Int) := by
    have e1 : wrap64 ((v : Int) * 64) = ((v * 64 : Nat) : Int) := by unfold wrap64; omega
    have e2 : wrap64 (((v * 64 : Nat) : Int) + (nb l i : Int)) = ((v * 64 + nb l i : Nat) : Int) := by unfold wrap64; omega
    have e3 : wrap64 (((v * 64 + nb l i : Nat) : Int) - 128) = ((v * 64 + nb l i % 64 : Nat) : Int) := by unfold wrap64; omega
    rw [e1, e2, e3]
  rw [if_neg (by omega), if_neg (by omega), if_pos h, hw, wrap_1 _ (by omega)]
theorem head_end (l : L) (k n least v : Nat) : gussetref01_Head.l0 (k + 1) (B l) (n : Int) (least : Int) (v : Int) (n : Int) = if least ≤ v ∧ validN v then some ((n : Int), (v : Int)) else some (1, -1) := by
  unfold validN
  rw [gussetref01_Head.l0, if_neg (by omega)]
  by_cases h1 : (v : Int) < (least : Int)
  ·
   rw [if_pos h1, if_neg (by omega)]
  rw [if_neg h1]
  by_cases h2 : (v : Int) > 1114111
  ·
   rw [if_pos h2, if_neg (by omega)]
  rw [if_neg h2]
  by_cases h3 : (v : Int) ≥ 55296
  rotate_left
  ·
   rw [if_neg h3, if_pos (by omega)]
  rw [if_pos h3]
  by_cases h4 : (v : Int) < 57344
  rotate_left
  ·
   rw [if_neg h4, if_pos (by omega)]
  rw [if_pos h4, if_neg (by omega)]
theorem head_j2 (l : L) (k n least v : Nat) : gussetref01_Head.j2 (k + 1) (B l) (n : Int) (least : Int) (v : Int) = if l.length < n then some (1, -1) else gussetref01_Head.l0 k (B l) (n : Int) (least : Int) (v : Int) ((1 : Nat) : Int) := by
  rw [gussetref01_Head.j2, B_size]
  by_cases h : l.length < n
  ·
   rw [if_pos (by omega), if_pos h]
  rw [if_neg (by omega), if_neg h]
  rfl
def headP (l : L) : Int × Int := if Bad l then (1, -1) else (((dec l).2 : Nat), ((dec l).1 : Nat))
theorem headP_bad {l : L} (h : dec l = (65533, 1)) : headP l = (1, -1) := if_pos h
theorem headP_ok {l : L} {v n : Nat} (h : dec l = (v, n)) (hb : ¬ (v = 65533 ∧ n = 1)) : headP l = ((n : Int), (v : Int)) := by
  have : ¬ Bad l := fun hh => hb (by
    unfold Bad at hh
    rw [h] at hh
    exact Prod.mk.inj hh)
  unfold headP
  rw [if_neg this, h]
set_option maxHeartbeats 4000000 in
theorem head_b (c : UInt8) (r : L) (k : Nat) : gussetref01_Head.f (k + 12) (B (c :: r)) = some (headP (c :: r)) := by
  have hc := c.toNat_lt
  have h0 : wrap64 (bt (B (c :: r)) 0) = (c.toNat : Int) := wb _ 0
  have hnb : nb (c :: r) 0 = c.toNat := rfl
  unfold gussetref01_Head.f
  rw [if_pos (by rw [B_size, List.length_cons]; omega), h0]
  by_cases c1 : c.toNat < 128
  ·
   rw [if_pos (by omega), headP_ok (dec_1 c1) (by omega)]
   rfl
  rw [if_neg (by omega)]
  -- what is left where no rune stands
  have bad : ¬ (∃ d r', r = d :: r' ∧ c.toNat / 32 = 6 ∧ d.toNat / 64 = 2 ∧ 128 ≤ c.toNat % 32 * 64 + d.toNat % 64) → ¬ (∃ d e r', r = d :: e :: r' ∧ c.toNat / 16 = 14 ∧ d.toNat / 64 = 2 ∧ e.toNat / 64 = 2 ∧ 2048 ≤ c.toNat % 16 * 4096 + d.toNat % 64 * 64 + e.toNat % 64 ∧ validN (c.toNat % 16 * 4096 + d.toNat % 64 * 64 + e.toNat % 64)) →
      ¬ (∃ d e f r', r = d :: e :: f :: r' ∧ c.toNat / 8 = 30 ∧ d.toNat / 64 = 2 ∧ e.toNat / 64 = 2 ∧ f.toNat / 64 = 2 ∧ 65536 ≤ c.toNat % 8 * 262144 + d.toNat % 64 * 4096 + e.toNat % 64 * 64 + f.toNat % 64 ∧ validN (c.toNat % 8 * 262144 + d.toNat % 64 * 4096 + e.toNat % 64 * 64 + f.toNat % 64)) → some ((1 : Int), (-1 : Int)) = some (headP (c :: r)) := by
    intro n2 n3 n4
    rcases dec_cases c r with h | h | h | h | h
    · exact absurd h.1 c1
    · exact absurd h n2
    · exact absurd h n3
    · exact absurd h n4
    · rw [headP_bad h.2]
  have two : ∀ v : Nat, c.toNat / 32 = 6 → v = c.toNat % 32 → gussetref01_Head.j2 (k + 11) (B (c :: r)) 2 128 (v : Int) = some (headP (c :: r)) := by
    intro v h6 hv
    rw [show (2 : Int) = ((2 : Nat) : Int) from rfl, show (128 : Int) = ((128 : Nat) : Int) from rfl, head_j2]
    by_cases hl : (c :: r).length < 2
    ·
     rw [if_pos hl]
     refine bad (fun ⟨d, r', e, _⟩ => by rw [e] at hl; simp only [List.length_cons] at hl; omega) (fun ⟨d, e, r', h, _⟩ => by rw [h] at hl; simp only [List.length_cons] at hl; omega) (fun ⟨d, e, f, r', h, _⟩ => by rw [h] at hl; simp only [List.length_cons] at hl; omega)
    rw [if_neg hl, head_step _ _ _ _ _ _ (by omega) (by omega) (by omega) (by omega)]
    match r with
    | [] => simp at hl
    | d :: r =>
      have e1 : nb (c :: d :: r) 1 = d.toNat := rfl
      rw [e1]
      by_cases hd : d.toNat / 64 = 2
      rotate_left
      ·
       rw [if_neg hd]
       exact bad (fun ⟨d', r', e, _, h, _⟩ => by injection e with e _; rw [← e] at h; exact hd h) (fun ⟨_, _, _, _, h, _⟩ => by omega) (fun ⟨_, _, _, _, _, h, _⟩ => by omega)
      rw [if_pos hd, head_end]
      by_cases h8 : 128 ≤ v * 64 + d.toNat % 64
      ·
       have h8' : 128 ≤ c.toNat % 32 * 64 + d.toNat % 64 := by omega
       rw [if_pos ⟨h8, Or.inl (by omega)⟩, headP_ok (dec_2 h6 hd h8') (by omega), hv]
      rw [if_neg (fun h => h8 h.1)]
      exact bad (fun ⟨d', r', e, _, _, h⟩ => by injection e with e _; rw [← e] at h; omega) (fun ⟨_, _, _, _, h, _⟩ => by omega) (fun ⟨_, _, _, _, _, h, _⟩ => by omega)
  have three : ∀ v : Nat, c.toNat / 16 = 14 → v = c.toNat % 16 → gussetref01_Head.j2 (k + 10) (B (c :: r)) 3 2048 (v : Int) = some (headP (c :: r)) := by
    intro v h6 hv
    rw [show (3 : Int) = ((3 : Nat) : Int) from rfl, show (2048 : Int) = ((2048 : Nat) : Int) from rfl, head_j2]
    by_cases hl : (c :: r).length < 3
    ·
     rw [if_pos hl]
     refine bad (fun ⟨d, r', _, h, _⟩ => by omega) (fun ⟨d, e, r', h, _⟩ => by rw [h] at hl; simp only [List.length_cons] at hl; omega) (fun ⟨d, e, f, r', h, _⟩ => by rw [h] at hl; simp only [List.length_cons] at hl; omega)
    obtain ⟨d, e, r, rfl⟩ := two_more (l := r) (by rw [List.length_cons] at hl; omega)
    have e1 : nb (c :: d :: e :: r) 1 = d.toNat := rfl
    have e2 : nb (c :: d :: e :: r) (1 + 1) = e.toNat := rfl
    rw [if_neg hl, head_step _ _ _ _ _ _ (by omega) (by omega) (by simp) (by omega), e1]
    by_cases hd : d.toNat / 64 = 2
    rotate_left
    ·
     rw [if_neg hd]
     refine bad (fun ⟨d, r', _, h, _⟩ => by omega) (fun ⟨d', e', r', h, _, h', _⟩ => ?_) (fun ⟨d, e, f, r', h, h', _⟩ => by omega)
     injection h with h1 h2
     subst h1
     exact hd h'
    rw [if_pos hd, head_step _ _ _ _ _ _ (by omega) (by omega) (by simp) (by omega), e2]
    by_cases he : e.toNat / 64 = 2
    rotate_left
    ·
     rw [if_neg he]
     refine bad (fun ⟨d, r', _, h, _⟩ => by omega) (fun ⟨d', e', r', h, _, _, h', _⟩ => ?_) (fun ⟨d, e, f, r', h, h', _⟩ => by omega)
     injection h with h1 h2
     injection h2 with h2 _
     subst h1 h2
     exact he h'
    rw [if_pos he, head_end]
    have ev : (v * 64 + d.toNat % 64) * 64 + e.toNat % 64 = c.toNat % 16 * 4096 + d.toNat % 64 * 64 + e.toNat % 64 := by omega
    rw [ev]
    by_cases h8 : 2048 ≤ c.toNat % 16 * 4096 + d.toNat % 64 * 64 + e.toNat % 64 ∧ validN (c.toNat % 16 * 4096 + d.toNat % 64 * 64 + e.toNat % 64)
    ·
     rw [if_pos h8, headP_ok (dec_3 h6 hd he h8.1 h8.2) (by omega)]
    rw [if_neg h8]
    refine bad (fun ⟨d, r', _, h, _⟩ => by omega) (fun ⟨d', e', r', h, _, _, _, h'⟩ => ?_) (fun ⟨d, e, f, r', h, h', _⟩ => by omega)
    injection h with h1 h2
    injection h2 with h2 _
    subst h1 h2
    exact h8 h'
  have four : ∀ v : Nat, c.toNat / 8 = 30 → v = c.toNat % 8 → gussetref01_Head.j2 (k + 10) (B (c :: r)) 4 65536 (v : Int) = some (headP (c :: r)) := by
    intro v h6 hv
    rw [show (4 : Int) = ((4 : Nat) : Int) from rfl, show (65536 : Int) = ((65536 : Nat) : Int) from rfl, head_j2]
    by_cases hl : (c :: r).length < 4
    ·
     rw [if_pos hl]
     refine bad (fun ⟨d, r', _, h, _⟩ => by omega) (fun ⟨d, e, r', h, h', _⟩ => by omega) (fun ⟨d, e, f, r', h, _⟩ => by rw [h] at hl; simp only [List.length_cons] at hl; omega)
    obtain ⟨d, e, f, r, rfl⟩ := three_more (l := r) (by rw [List.length_cons] at hl; omega)
    have e1 : nb (c :: d :: e :: f :: r) 1 = d.toNat := rfl
    have e2 : nb (c :: d :: e :: f :: r) (1 + 1) = e.toNat := rfl
    have e3 : nb (c :: d :: e :: f :: r) (1 + 1 + 1) = f.toNat := rfl
    rw [if_neg hl, head_step _ _ _ _ _ _ (by omega) (by omega) (by simp) (by omega), e1]
    by_cases hd : d.toNat / 64 = 2
    rotate_left
    ·
     rw [if_neg hd]
     refine bad (fun ⟨d, r', _, h, _⟩ => by omega) (fun ⟨d', e', r', h, h', _⟩ => by omega) (fun ⟨d', e', f', r', h, _, h', _⟩ => ?_)
     injection h with h1 h2
     subst h1
     exact hd h'
    rw [if_pos hd, head_step _ _ _ _ _ _ (by omega) (by omega) (by simp) (by omega), e2]
    by_cases he : e.toNat / 64 = 2
    rotate_left
    ·
     rw [if_neg he]
     refine bad (fun ⟨d, r', _, h, _⟩ => by omega) (fun ⟨d', e', r', h, h', _⟩ => by omega) (fun ⟨d', e', f', r', h, _, _, h', _⟩ => ?_)
     injection h with h1 h2
     injection h2 with h2 h3
     subst h1 h2
     exact he h'
    rw [if_pos he, head_step _ _ _ _ _ _ (by omega) (by omega) (by simp) (by omega), e3]
    by_cases hf : f.toNat / 64 = 2
    rotate_left
    ·
     rw [if_neg hf]
     refine bad (fun ⟨d, r', _, h, _⟩ => by omega) (fun ⟨d', e', r', h, h', _⟩ => by omega) (fun ⟨d', e', f', r', h, _, _, _, h', _⟩ => ?_)
     injection h with h1 h2
     injection h2 with h2 h3
     injection h3 with h3 _
     subst h1 h2 h3
     exact hf h'
    rw [if_pos hf, head_end]
    have ev : ((v * 64 + d.toNat % 64) * 64 + e.toNat % 64) * 64 + f.toNat % 64 = c.toNat % 8 * 262144 + d.toNat % 64 * 4096 + e.toNat % 64 * 64 + f.toNat % 64 := by omega
    rw [ev]
    by_cases h8 : 65536 ≤ c.toNat % 8 * 262144 + d.toNat % 64 * 4096 + e.toNat % 64 * 64 + f.toNat % 64 ∧ validN (c.toNat % 8 * 262144 + d.toNat % 64 * 4096 + e.toNat % 64 * 64 + f.toNat % 64)
    ·
     rw [if_pos h8, headP_ok (dec_4 h6 hd he hf h8.1 h8.2) (by omega)]
    rw [if_neg h8]
    refine bad (fun ⟨d, r', _, h, _⟩ => by omega) (fun ⟨d', e', r', h, h', _⟩ => by omega) (fun ⟨d', e', f', r', h, _, _, _, _, h'⟩ => ?_)
    injection h with h1 h2
    injection h2 with h2 h3
    injection h3 with h3 _
    subst h1 h2 h3
    exact h8 h'
  have hj1 : ∀ b : Bool, decide ((c.toNat : Int) < 240) = b → 224 ≤ c.toNat → gussetref01_Head.j1 (k + 11) (B (c :: r)) (c.toNat : Int) b = some (headP (c :: r)) := by
    intro b hb h224
    cases b with
    | true =>
      have h240 := of_decide_eq_true hb
      have hw : wrap64 ((c.toNat : Int) - 224) = ((c.toNat % 16 : Nat) : Int) := by unfold wrap64; omega
      rw [gussetref01_Head.j1, if_pos rfl, hw]
      exact three _ (by omega) rfl
    | false =>
      have h240 := of_decide_eq_false hb
      rw [gussetref01_Head.j1, if_neg (by decide), if_pos (by omega)]
      by_cases h248 : (c.toNat : Int) < 248
      rotate_left
      ·
       rw [if_neg h248]
       exact bad (fun ⟨d, r', _, h, _⟩ => by omega) (fun ⟨d', e', r', h, h', _⟩ => by omega) (fun ⟨d', e', f', r', h, h', _⟩ => by omega)
      have hw : wrap64 ((c.toNat : Int) - 240) = ((c.toNat % 8 : Nat) : Int) := by unfold wrap64; omega
      rw [if_pos h248, hw]
      exact four _ (by omega) rfl
  by_cases c2 : (c.toNat : Int) ≥ 192
  rotate_left
  ·
   rw [if_neg c2, gussetref01_Head.j0, if_neg (by decide), if_neg (by omega), gussetref01_Head.j1, if_neg (by decide), if_neg (by omega)]
   exact bad (fun ⟨d, r', _, h, _⟩ => by omega) (fun ⟨d', e', r', h, h', _⟩ => by omega) (fun ⟨d', e', f', r', h, h', _⟩ => by omega)
  rw [if_pos c2]
  by_cases c3 : (c.toNat : Int) < 224
  rotate_left
  ·
   rw [decide_eq_false c3, gussetref01_Head.j0, if_neg (by decide), if_pos (by omega)]
   exact hj1 _ rfl (by omega)
  have hw : wrap64 ((c.toNat : Int) - 192) = ((c.toNat % 32 : Nat) : Int) := by unfold wrap64; omega
  rw [decide_eq_true c3, gussetref01_Head.j0, if_pos rfl, hw]
  exact two _ (by omega) rfl
theorem letter_q (r k : Nat) : gussetref01_Letter.f (k + 3) (r : Int) = some (letter r) := by
  unfold gussetref01_Letter.f
  simp only [gussetref01_Letter.j0, gussetref01_Letter.j1, gussetref01_Letter.j2, decide_eq_true_eq, Bool.false_eq_true, if_false]
  unfold letter
  have h : r < 65 ∨ (65 ≤ r ∧ r ≤ 90) ∨ (90 < r ∧ r < 97) ∨ (97 ≤ r ∧ r ≤ 122) ∨ (122 < r ∧ r < 192) ∨ (192 ≤ r ∧ r ≤ 591 ∧ r = 215) ∨ (192 ≤ r ∧ r ≤ 591 ∧ r ≠ 215) ∨ (591 < r ∧ r < 913) ∨ (913 ≤ r ∧ r ≤ 969) ∨ (969 < r ∧ r < 1040) ∨ 1040 ≤ r := by omega
  rcases h with h | h | h | h | h | h | h | h | h | h | h
  all_goals
    repeat (first | rw [if_pos (by omega)] | rw [if_neg (by omega)])
    congr 1
    rw [Bool.eq_iff_iff]
    simp only [Bool.or_eq_true, Bool.and_eq_true, decide_eq_true_eq, bne_iff_ne, ne_eq, Bool.false_eq_true, false_iff, true_iff]
    omega
theorem begins_b (s : Bool) (l : L) (k : Nat) : gussetref04_begins.f (k + 14) (B l) s = some ((sgn s true l : Nat) : Int) := by
  unfold gussetref04_begins.f
  match l with
  | [] =>
    rw [if_pos (B_toList [])]
    rfl
  | c :: r =>
    have hne : ¬ ((B (c :: r)).toList = ([] : List UInt8)) := by rw [B_toList]; simp
    have hb : bt (B (c :: r)) 0 = (c.toNat : Int) := B_bt _ 0
    have hc := c.toNat_lt
    have hj : ∀ b : Bool, (b = true → c.toNat < 128 ∧ okR s true c.toNat = true) → (b = false → ¬ (c.toNat = 95) ∧ ¬ (s = true ∧ c.toNat = 36)) → gussetref04_begins.j0 (k + 14) (B (c :: r)) b = some ((sgn s true (c :: r) : Nat) : Int) := by
      intro b h1 h2
      cases b with
      | true =>
        obtain ⟨h3, h4⟩ := h1 rfl
        rw [gussetref04_begins.j0, if_pos rfl, sgn_a h3, if_pos h4]
        rfl
      | false =>
        obtain ⟨h3, h4⟩ := h2 rfl
        rw [gussetref04_begins.j0, if_neg (by decide), head_b c r (k + 1), Option.bind_some, sgn_dec]
        unfold headP
        by_cases hbad : Bad (c :: r)
        ·
         have hd : dec (c :: r) = (65533, 1) := hbad
         rw [if_pos hbad, hd, okR_err]
         simp
        rw [if_neg hbad]
        simp only
        rw [if_pos (by omega), letter_q _ (k + 10), Option.bind_some]
        have hok : okR s true (dec (c :: r)).1 = letter (dec (c :: r)).1 := by
          have hd : (dec (c :: r)).1 = 95 ∨ (dec (c :: r)).1 = 36 → (dec (c :: r)).1 = c.toNat := by
            intro hd
            rcases dec_cases c r with h | ⟨d, r', rfl, q1, q2, q3⟩ | ⟨d, e, r', rfl, q1, q2, q3, q4, q5⟩ | ⟨d, e, f, r', rfl, q1, q2, q3, q4, q5, q6⟩ | h
            ·
             rw [h.2]
            ·
             rw [dec_2 q1 q2 q3] at hd; simp only at hd; omega
            ·
             rw [dec_3 q1 q2 q3 q4 q5] at hd; simp only at hd; omega
            ·
             rw [dec_4 q1 q2 q3 q4 q5 q6] at hd; simp only at hd; omega
            exact absurd h.2 hbad
          have n95 : ((dec (c :: r)).1 == 95) = false := by
            rw [beq_eq_false_iff_ne]
            intro e
            exact h3 (by rw [← hd (Or.inl e)]; exact e)
          have n36 : (s && (dec (c :: r)).1 == 36) = false := by
            cases s with
            | false => rfl
            | true =>
              rw [Bool.true_and, beq_eq_false_iff_ne]
              intro e
              exact h4 ⟨rfl, by rw [← hd (Or.inr e)]; exact e⟩
          unfold okR
          rw [n95, n36]
          simp
        rw [hok]
        cases letter (dec (c :: r)).1
        rotate_left
        ·
         rfl
        rfl
    have hok95 : c.toNat = 95 → c.toNat < 128 ∧ okR s true c.toNat = true := fun h => ⟨by omega, by rw [h]; cases s <;> decide⟩
    rw [if_neg hne, if_pos (by rw [B_size, List.length_cons]; omega), hb]
    by_cases c95 : (c.toNat : Int) = 95
    ·
     rw [if_pos c95]
     exact hj true (fun _ => hok95 (by omega)) (fun h => by cases h)
    rw [if_neg c95]
    cases s with
    | false =>
      rw [if_neg (by decide)]
      exact hj false (fun h => by cases h) (fun _ => ⟨by omega, fun h => by cases h.1⟩)
    | true =>
      rw [if_pos rfl]
      refine hj _ (fun h => ?_) (fun h => ⟨by omega, fun hh => ?_⟩)
      rotate_left
      ·
       rw [beq_eq_false_iff_ne] at h
       exact h (by omega)
      rw [beq_iff_eq] at h
      have : c.toNat = 36 := by omega
      exact ⟨by omega, by rw [this]; decide⟩
theorem sgn_tail (s : Bool) (c : UInt8) (r : L) : sgn s false (c :: r) = if sgn s true (c :: r) = 0 then (if dig c = true then 1 else 0) else sgn s true (c :: r) := by
  by_cases h : sgn s true (c :: r) = 0
  rotate_left
  ·
   rw [if_neg h]
   exact sgn_first (Nat.pos_of_ne_zero h)
  rw [if_pos h]
  by_cases hd : dig c = true
  ·
   rw [if_pos hd, sgn_a (dig_lt hd), if_pos]
   unfold okR
   unfold dig at hd
   simp only [Bool.and_eq_true, decide_eq_true_eq] at hd
   simp [hd]
  rw [if_neg hd]
  refine Nat.eq_zero_of_not_pos fun hp => ?_
  have hno : ∀ v, okR s true v = false → okR s false v = true → 48 ≤ v ∧ v ≤ 57 := by
    intro v h1 h2
    unfold okR at h1 h2
    simp only [Bool.not_true, Bool.false_and, Bool.or_false] at h1
    rw [h1] at h2
    simpa using h2
  rcases sgn_pos hp with ⟨c', r', e, h1, h2, _⟩ | ⟨c', d, r', e, h0, h1, h2, h3, h4, _⟩
  ·
   injection e with e1 e2
   subst e1
   rw [sgn_a h1] at h
   have h5 : okR s true c.toNat = false := by
     cases hk : okR s true c.toNat with
     | false => rfl
     | true => rw [hk] at h; cases h
   have := hno _ h5 h2
   exact hd (by unfold dig; simp; exact this)
  injection e with e1 e2
  subst e1 e2
  rw [sgn_h2 (by omega)] at h
  have h5 : okR s true (c.toNat % 32 * 64 + d.toNat % 64) = false := by
    cases hk : okR s true (c.toNat % 32 * 64 + d.toNat % 64) with
    | false => rfl
    | true => rw [if_pos ⟨h1, h2, h3, hk⟩] at h; cases h
  have := hno _ h5 h4
  omega
theorem digit_q (c : UInt8) : gussetref04_digit.f (c.toNat : Int) = some (dig c) := by
  unfold gussetref04_digit.f dig
  split
  all_goals
    simp only [Option.some.injEq]
    rw [Bool.eq_iff_iff]
    simp only [Bool.and_eq_true, decide_eq_true_eq, Bool.false_eq_true, false_iff]
    omega
theorem name_l0 (s : Bool) (l : L) (hl : l.length ≤ 1073741824) (r : L) : ∀ a : L, l = a ++ r → Ev (fun k => gussetref04_name.l0 k (B l) s (a.length : Int)) ((a.length + tail s r : Nat) : Int) := by
  refine tail_ind s (P := fun r => ∀ a : L, l = a ++ r → Ev (fun k => gussetref04_name.l0 k (B l) s (a.length : Int)) ((a.length + tail s r : Nat) : Int)) ?_ ?_ _ r (Nat.le_refl _)
  ·
   intro r h0 a hr
   rw [tail_zero h0, Nat.add_zero]
   match r with
   | [] =>
     refine Ev.step (f := fun _ => some (a.length : Int)) (fun k => ?_) (Ev.now _)
     rw [gussetref04_name.l0, if_neg (by rw [hr, B_size]; simp)]
   | c :: r =>
     refine ⟨40, fun k hk => ?_⟩
     obtain ⟨k, rfl⟩ : ∃ m, k = m + 20 := ⟨k - 20, by omega⟩
     have hd : l.drop a.length = c :: r := by rw [hr]; exact drop_len _ _
     have hb : bt (B l) (a.length : Int) = (c.toNat : Int) := by rw [hr, B_bt, nb_app]
     have hsz : a.length < l.length := by rw [hr, List.length_append, List.length_cons]; omega
     rw [sgn_tail] at h0
     by_cases h1 : sgn s true (c :: r) = 0
     rotate_left
     ·
      rw [if_neg h1] at h0
      exact absurd h0 h1
     rw [if_pos h1] at h0
     have hdg : dig c = false := by
       cases hk : dig c with
       | false => rfl
       | true => rw [hk] at h0; cases h0
     show gussetref04_name.l0 (k + 19 + 1) (B l) s (a.length : Int) = _
     rw [gussetref04_name.l0, if_pos (by rw [B_size]; omega), if_pos (by omega), if_pos (by rw [B_size]; omega), Int.toNat_natCast, B_drop, hd, begins_b s _ (k + 5), Option.bind_some, h1, if_pos (show ((0 : Nat) : Int) = 0 from rfl), hb, digit_q, Option.bind_some, hdg]
     show gussetref04_name.j1 (k + 18 + 1) (B l) s (a.length : Int) 0 false = _
     rw [gussetref04_name.j1, if_neg (by decide), if_pos rfl]
  intro r h0 ih a hr
  have hle := sgn_le s false r
  have hn : a.length + tail s r = (a ++ r.take (sgn s false r)).length + tail s (r.drop (sgn s false r)) := by
    rw [tail_step h0, List.length_append, List.length_take]
    omega
  have hih := ih (a ++ r.take (sgn s false r)) (by rw [List.append_assoc, List.take_append_drop]; exact hr)
  rw [hn]
  match r with
  | [] => exact absurd rfl h0
  | c :: r =>
    have hd : l.drop a.length = c :: r := by rw [hr]; exact drop_len _ _
    have hb : bt (B l) (a.length : Int) = (c.toNat : Int) := by rw [hr, B_bt, nb_app]
    have hsz : a.length < l.length := by rw [hr, List.length_append, List.length_cons]; omega
    have hlen : (a ++ (c :: r).take (sgn s false (c :: r))).length = a.length + sgn s false (c :: r) := by rw [List.length_append, List.length_take]; omega
    have hlr : l.length = a.length + (c :: r).length := by rw [hr, List.length_append]
    obtain ⟨K, hK⟩ := hih
    refine ⟨K + 40, fun k hk => ?_⟩
    obtain ⟨k, rfl⟩ : ∃ m, k = m + 20 := ⟨k - 20, by omega⟩
    have hK := hK (k + 18) (by omega)
    simp only [hlen] at hK ⊢
    show gussetref04_name.l0 (k + 19 + 1) (B l) s (a.length : Int) = _
    rw [gussetref04_name.l0, if_pos (by rw [B_size]; omega), if_pos (by omega), if_pos (by rw [B_size]; omega), Int.toNat_natCast, B_drop, hd, begins_b s _ (k + 5), Option.bind_some]
    have ht := sgn_tail s c r
    by_cases h1 : sgn s true (c :: r) = 0
    rotate_left
    ·
     rw [if_neg h1] at ht
     rw [if_neg (by omega)]
     show gussetref04_name.j1 (k + 18 + 1) (B l) s (a.length : Int) _ false = _
     rw [gussetref04_name.j1, if_neg (by decide), if_neg (by omega)]
     have hw : wrap64 ((a.length : Int) + ((sgn s true (c :: r) : Nat) : Int)) = ((a.length + sgn s true (c :: r) : Nat) : Int) := by
       have := sgn_le s true (c :: r)
       unfold wrap64
       omega
     rw [hw]
     rw [ht] at hK ⊢
     exact hK
    rw [if_pos h1] at ht
    have hdg : dig c = true := by
      cases hk : dig c with
      | true => rfl
      | false => rw [hk] at ht; exact absurd ht h0
    rw [hdg, if_pos rfl] at ht
    rw [h1, if_pos (show ((0 : Nat) : Int) = 0 from rfl), hb, digit_q, Option.bind_some, hdg]
    show gussetref04_name.j1 (k + 18 + 1) (B l) s (a.length : Int) 0 true = _
    rw [gussetref04_name.j1, if_pos rfl, if_neg (by decide), wrap_1 _ (by omega)]
    rw [ht] at hK ⊢
    exact hK
theorem name_q (s : Bool) (l : L) (hl : l.length ≤ 1073741824) : Ev (fun k => gussetref04_name.f k (B l) s) ((nameS s l : Nat) : Int) := by
  unfold gussetref04_name.f
  have hb : Ev (fun k => gussetref04_begins.f k (B l) s) ((sgn s true l : Nat) : Int) := ⟨14, fun k hk => by
    obtain ⟨k, rfl⟩ : ∃ m, k = m + 14 := ⟨k - 14, by omega⟩
    exact begins_b s l k⟩
  refine Ev.bind (f := fun k t209 => if t209 = 0 then some 0 else gussetref04_name.l0 k (B l) s t209) hb ?_
  unfold nameS
  by_cases h : sgn s true l = 0
  ·
   rw [if_pos h, h]
   exact Ev.now _
  rw [if_neg h]
  simp only [if_neg (show ¬ ((sgn s true l : Nat) : Int) = 0 by omega)]
  have hle := sgn_le s true l
  have := name_l0 s l hl (l.drop (sgn s true l)) (l.take (sgn s true l)) (by rw [List.take_append_drop])
  rw [List.length_take, Nat.min_eq_left hle] at this
  exact this
theorem wordsq_b : gussetref04_Words.f = some (words.map B) := rfl
theorem wordq_l0 (x : L) (xs : List L) (hx : xs.length ≤ 1000) : ∀ (d j k : Nat), xs.length - j = d → j ≤ xs.length → d < k → gussetref04_word.l0 k (B x) (xs.map B) (j : Int) = some (decide (x ∈ xs.drop j)) := by
  intro d
  induction d with
  | zero =>
    intro j k hd hj hk
    obtain ⟨k, rfl⟩ : ∃ m, k = m + 1 := ⟨k - 1, by omega⟩
    rw [gussetref04_word.l0, if_neg (by rw [List.length_map]; omega), List.drop_of_length_le (by omega)]
    simp
  | succ d ih =>
    intro j k hd hj hk
    obtain ⟨k, rfl⟩ : ∃ m, k = m + 1 := ⟨k - 1, by omega⟩
    have hlt : j < xs.length := by omega
    rw [gussetref04_word.l0, if_pos (by rw [List.length_map]; omega), if_pos (by omega), rdOf_b xs j hlt, B_toList, B_toList, List.drop_eq_getElem_cons hlt]
    by_cases he : xs[j] = x
    ·
     rw [if_pos he]
     simp [he]
    rw [if_neg he, wrap_1 _ (by omega), ih (j + 1) k (by omega) (by omega) (by omega)]
    congr 1
    apply decide_eq_decide.2
    rw [List.mem_cons]
    exact ⟨Or.inr, fun h => h.resolve_left (Ne.symm he)⟩
theorem wordq_b (x : L) (k : Nat) : gussetref04_word.f (k + 20) (B x) = some (decide (x ∈ words)) := by
  unfold gussetref04_word.f
  rw [wordsq_b, Option.bind_some]
  exact wordq_l0 x words (by decide) 19 0 (k + 20) rfl (by decide) (by omega)
end Go.Proofs.YtbnpgobjbokboaaDoor.Lx
namespace Go.Proofs.YtbnpgobjbokboaaDoor.Lx
open Go.RowKit Go.Proofs.YtbnpgobjbokboaaDoor.PLex Go.Proofs.YtbnpgobjbokboaaDoorW.PrintWords Go.Proofs.YtbnpgobjbokboaaDoorW.PrintLast
set_option linter.unusedVariables false
set_option linter.unusedSimpArgs false
def numQ (r : Except Nat (T × Nat)) : Int × Int × Int :=
  match r with
  | .error e => (0, 0, (e : Int))
  | .ok (t, n) => ((t.n : Int), (n : Int), 0)
theorem val_snoc (a : L) (c : UInt8) : val (a ++ [c]) = 10 * val a + (c.toNat - 48) := by
  unfold val
  rw [List.foldl_append]
  rfl
theorem numq_j2 (k : Nat) (i : Int) (n : Int) (g : Bool) : gussetref04_number.j2 (k + 1) i n g false = some (if g = true then (0, 0, 41) else (n, i, 0)) := by
  rw [gussetref04_number.j2, if_neg (by decide)]
  cases g <;> rfl
theorem numq_end (s : Bool) (l a r : L) (hl : l = a ++ r) (hlen : l.length ≤ 1073741824) (ha : ∀ c ∈ a, dig c = true) (h0 : a ≠ []) (hr : ∀ c r', r = c :: r' → dig c = false) (n : Int) (g : Bool) (hg : (g = false ∧ n = (val a : Int) ∧ val a ≤ 9007199254740991) ∨ (g = true ∧ 9007199254740991 < val a)) (k : Nat) :
    gussetref04_number.j1 (k + 16) (B l) s (a.length : Int) n g false = some (numQ (numS s l)) := by
  have hw := takeWhile_app (p := dig) (a := a) (y := r) ha hr
  rw [← hl] at hw
  have hal := List.length_pos_iff.2 h0
  have hll : l.length = a.length + r.length := by rw [hl, List.length_append]
  have hd : l.drop a.length = r := by rw [hl]; exact drop_len _ _
  have hb0 : bt (B l) 0 = (nb l 0 : Int) := B_bt l 0
  have hfin : gussetref04_number.j2 (k + 15) (a.length : Int) n g false = some (numQ (if 9007199254740991 < val a then .error 41 else .ok (⟨3, [], val a⟩, a.length))) := by
    rw [numq_j2]
    rcases hg with ⟨rfl, rfl, h3⟩ | ⟨rfl, h3⟩
    rotate_left
    ·
     rw [if_pos rfl, if_pos h3]
     rfl
    rw [if_neg (by decide), if_neg (by omega)]
    rfl
  have herr : gussetref04_number.j2 (k + 15) (a.length : Int) n g true = some (numQ (.error 40)) := by rw [gussetref04_number.j2, if_pos rfl]; rfl
  have key : ((gussetref04_begins.f (k + 15) ((B l).extract a.length (B l).size) s).bind fun t => gussetref04_number.j2 (k + 15) (a.length : Int) n g (decide (t > 0))) = some (numQ (if sgn s true r ≠ 0 then .error 40 else if 9007199254740991 < val a then .error 41 else .ok (⟨3, [], val a⟩, a.length))) := by
    rw [B_drop, hd, begins_b s r (k + 1), Option.bind_some]
    by_cases h : sgn s true r = 0
    rotate_left
    ·
     rw [if_pos h, show decide (((sgn s true r : Nat) : Int) > 0) = true from decide_eq_true (by omega)]
     exact herr
    have hD : ¬ (sgn s true r ≠ 0) := fun hh => hh h
    rw [if_neg hD, h, show decide (((0 : Nat) : Int) > 0) = false from rfl]
    exact hfin
  unfold numS
  rw [hw.1, hw.2, gussetref04_number.j1, if_neg (by decide)]
  by_cases h1 : 1 < a.length
  rotate_left
  ·
   rw [if_neg (by omega), if_pos (by omega), if_pos (by rw [B_size]; omega), Int.toNat_natCast, key]
   by_cases h : sgn s true r = 0
   rotate_left
   ·
    rw [if_pos h, if_pos (Or.inr h)]
   have hC : ¬ ((1 < a.length ∧ l.head? = some 48) ∨ sgn s true r ≠ 0) := fun hh => hh.elim (fun hh => h1 hh.1) (fun hh => hh h)
   have hD : ¬ (sgn s true r ≠ 0) := fun hh => hh h
   rw [if_neg hC, if_neg hD]
  rw [if_pos (by omega), if_pos (by rw [B_size]; omega), hb0]
  by_cases h48 : nb l 0 = 48
  ·
   rw [if_pos (by omega), herr, if_pos (Or.inl ⟨h1, (nb_head l).1 h48⟩)]
  rw [if_neg (by omega), if_pos (by omega), if_pos (by rw [B_size]; omega), Int.toNat_natCast, key]
  by_cases h : sgn s true r = 0
  rotate_left
  ·
   rw [if_pos h, if_pos (Or.inr h)]
  have hC : ¬ ((1 < a.length ∧ l.head? = some 48) ∨ sgn s true r ≠ 0) := fun hh => hh.elim (fun hh => h48 ((nb_head l).2 hh.2)) (fun hh => hh h)
  have hD : ¬ (sgn s true r ≠ 0) := fun hh => hh h
  rw [if_neg hC, if_neg hD]
theorem numq_l0 (s : Bool) (l : L) (hlen : l.length ≤ 1073741824) (hd0 : ∃ c r, l = c :: r ∧ dig c = true) (r : L) : ∀ (a : L) (n : Int) (g : Bool), l = a ++ r → (∀ c ∈ a, dig c = true) → 0 ≤ n → n ≤ 9007199254741000 →
    ((g = false ∧ n = (val a : Int) ∧ val a ≤ 9007199254740991) ∨ (g = true ∧ 9007199254740991 < val a)) → Ev (fun k => gussetref04_number.l0 k (B l) s (a.length : Int) n g) (numQ (numS s l)) := by
  induction r with
  | nil =>
    intro a n g hl ha hn0 hn hg
    have h0 : a ≠ [] := fun e => by
      obtain ⟨c, r, h1, _⟩ := hd0
      rw [hl, e] at h1
      cases h1
    refine ⟨30, fun k hk => ?_⟩
    obtain ⟨k, rfl⟩ : ∃ m, k = m + 17 := ⟨k - 17, by omega⟩
    show gussetref04_number.l0 (k + 16 + 1) (B l) s (a.length : Int) n g = _
    rw [gussetref04_number.l0, if_neg (by rw [hl, B_size]; simp), numq_end s l a [] hl hlen ha h0 (fun _ _ h => by cases h) n g hg k]
  | cons c r ih =>
    intro a n g hl ha hn0 hn hg
    have hb : bt (B l) (a.length : Int) = (c.toNat : Int) := by rw [hl, B_bt, nb_app]
    have hll : l.length = a.length + (r.length + 1) := by rw [hl]; simp
    by_cases hd : dig c = true
    rotate_left
    ·
     have hd2 : dig c = false := by simpa using hd
     have h0 : a ≠ [] := fun e => by
       obtain ⟨c', r', h1, h2⟩ := hd0
       rw [hl, e] at h1
       injection h1 with h1 _
       rw [h1] at hd
       exact hd h2
     refine ⟨30, fun k hk => ?_⟩
     obtain ⟨k, rfl⟩ : ∃ m, k = m + 17 := ⟨k - 17, by omega⟩
     show gussetref04_number.l0 (k + 16 + 1) (B l) s (a.length : Int) n g = _
     rw [gussetref04_number.l0, if_pos (by rw [B_size]; omega), if_pos (by omega), hb, digit_q, Option.bind_some, hd2, numq_end s l a (c :: r) hl hlen ha h0 (fun c' r' h => by injection h with h _; rw [← h]; exact hd2) n g hg k]
    have hc := hd
    unfold dig at hc
    simp only [Bool.and_eq_true, decide_eq_true_eq] at hc
    have hl' : l = (a ++ [c]) ++ r := by rw [hl]; simp
    have ha' : ∀ x ∈ a ++ [c], dig x = true := fun x hx => by
      rcases List.mem_append.1 hx with hx | hx
      ·
       exact ha x hx
      rw [List.mem_singleton.1 hx]
      exact hd
    have hla : (a ++ [c]).length = a.length + 1 := by simp
    have hv := val_snoc a c
    have step : ∀ k, gussetref04_number.l0 (k + 1 + 1) (B l) s (a.length : Int) n g = gussetref04_number.j1 (k + 1) (B l) s (a.length : Int) n g true := fun k => by
      rw [gussetref04_number.l0, if_pos (by rw [B_size]; omega), if_pos (by omega), hb, digit_q, Option.bind_some, hd]
    by_cases hbig : n > 900719925474099
    ·
     have hg' : 9007199254740991 < val (a ++ [c]) := by
       rcases hg with ⟨_, h2, h3⟩ | ⟨_, h3⟩ <;> omega
     obtain ⟨K, hK⟩ := ih (a ++ [c]) n true hl' ha' hn0 hn (Or.inr ⟨rfl, hg'⟩)
     refine ⟨K + 2, fun k hk => ?_⟩
     obtain ⟨k, rfl⟩ : ∃ m, k = m + 2 := ⟨k - 2, by omega⟩
     have hK := hK k (by omega)
     rw [hla] at hK
     show gussetref04_number.l0 (k + 1 + 1) (B l) s (a.length : Int) n g = _
     rw [step, gussetref04_number.j1, if_pos rfl, if_pos hbig, wrap_1 _ (by omega)]
     exact hK
    have hw : wrap64 ((wrap64 (10 * n)) + (((c.toNat : Int) - 48) % 256)) = 10 * n + ((c.toNat - 48 : Nat) : Int) := by
      have e1 : wrap64 (10 * n) = 10 * n := by unfold wrap64; omega
      rw [e1]
      unfold wrap64
      omega
    have common : ∀ k, gussetref04_number.j1 (k + 1) (B l) s (a.length : Int) n g true = gussetref04_number.l0 k (B l) s ((a.length + 1 : Nat) : Int) (10 * n + ((c.toNat - 48 : Nat) : Int)) (if g = true then true else decide (10 * n + ((c.toNat - 48 : Nat) : Int) > 9007199254740991)) := fun k => by
      rw [gussetref04_number.j1, if_pos rfl, if_neg hbig, if_pos (by omega), if_pos (by rw [B_size]; omega), hb, hw, wrap_1 _ (by omega)]
      cases g <;> rfl
    have hinv : ((if g = true then true else decide (10 * n + ((c.toNat - 48 : Nat) : Int) > 9007199254740991)) = false ∧ 10 * n + ((c.toNat - 48 : Nat) : Int) = (val (a ++ [c]) : Int) ∧ val (a ++ [c]) ≤ 9007199254740991) ∨ ((if g = true then true else decide (10 * n + ((c.toNat - 48 : Nat) : Int) > 9007199254740991)) = true ∧ 9007199254740991 < val (a ++ [c])) := by
      rcases hg with ⟨rfl, h2, h3⟩ | ⟨rfl, h3⟩
      rotate_left
      ·
       rw [if_pos rfl]
       exact Or.inr ⟨rfl, by omega⟩
      rw [if_neg (by decide)]
      by_cases hx : 10 * n + ((c.toNat - 48 : Nat) : Int) > 9007199254740991
      ·
       exact Or.inr ⟨decide_eq_true hx, by omega⟩
      exact Or.inl ⟨decide_eq_false hx, by omega, by omega⟩
    obtain ⟨K, hK⟩ := ih (a ++ [c]) _ _ hl' ha' (by omega) (by omega) hinv
    refine ⟨K + 2, fun k hk => ?_⟩
    obtain ⟨k, rfl⟩ : ∃ m, k = m + 2 := ⟨k - 2, by omega⟩
    have hK := hK k (by omega)
    rw [hla] at hK
    show gussetref04_number.l0 (k + 1 + 1) (B l) s (a.length : Int) n g = _
    rw [step, common]
    exact hK
theorem number_q (s : Bool) (c : UInt8) (r : L) (hc : dig c = true) (hl : (c :: r).length ≤ 1073741824) : Ev (fun k => gussetref04_number.f k (B (c :: r)) s) (numQ (numS s (c :: r))) :=
  numq_l0 s (c :: r) hl ⟨c, r, rfl, hc⟩ (c :: r) [] 0 false rfl (fun _ h => by cases h) (by omega) (by omega) (Or.inl ⟨rfl, rfl, by decide⟩)
theorem hex_q (c : UInt8) (k : Nat) : gussetref01_digit.f (k + 2) (c.toNat : Int) = some (if hx c = true then (hv c : Int) else -1) := by
  have hc := c.toNat_lt
  unfold gussetref01_digit.f
  simp only [gussetref01_digit.j0, gussetref01_digit.j1, decide_eq_true_eq, Bool.false_eq_true, if_false]
  unfold hx hv
  simp only [Bool.or_eq_true, Bool.and_eq_true, decide_eq_true_eq]
  have h : c.toNat < 48 ∨ (48 ≤ c.toNat ∧ c.toNat ≤ 57) ∨ (57 < c.toNat ∧ c.toNat < 65) ∨ (65 ≤ c.toNat ∧ c.toNat ≤ 70) ∨ (70 < c.toNat ∧ c.toNat < 97) ∨ (97 ≤ c.toNat ∧ c.toNat ≤ 102) ∨ 102 < c.toNat := by omega
  rcases h with h | h | h | h | h | h | h
  all_goals
    repeat (first | rw [if_pos (by omega)] | rw [if_neg (by omega)])
    first
      | done
      | exact congrArg some (by omega)
theorem strOf_bytes (l : L) : strOfNums (bytesOf (B l)) = B l := by
  unfold strOfNums bytesOf
  rw [B_data]
  have e : (l.map fun b => (b.toNat : Int)).map (fun n => UInt8.ofNat n.toNat) = l := by
    rw [List.map_map]
    induction l with
    | nil => rfl
    | cons c l ih =>
      rw [List.map_cons, ih]
      simp
  unfold B
  rw [e]
theorem enc4_lt (n : Nat) (h : n ≤ 1114111) : ∀ x ∈ [240 + n / 262144, 128 + n / 4096 % 64, 128 + n / 64 % 64, 128 + n % 64], x < 256 := by
  have h1 : 240 + n / 262144 < 256 := by omega
  have h2 : 128 + n / 4096 % 64 < 256 := by omega
  have h3 : 128 + n / 64 % 64 < 256 := by omega
  have h4 : 128 + n % 64 < 256 := by omega
  intro x hx
  simp only [List.mem_cons, List.not_mem_nil, or_false] at hx
  rcases hx with rfl | rfl | rfl | rfl <;> assumption
theorem encode_q (n : Nat) (h : n ≤ 1114111) : gussetref01_Encode.f (n : Int) = some (B (enc n)) := by
  have one : ∀ l : List Nat, (∀ x ∈ l, x < 256) → strOfNums (l.map fun x => ((x : Nat) : Int)) = B (l.map UInt8.ofNat) := by
    intro l hl
    unfold strOfNums B
    congr 1
    rw [List.map_map]
    congr 1
  have t1 : ∀ d : Nat, 0 < d → Int.tdiv (n : Int) (d : Int) = ((n / d : Nat) : Int) := fun d _ => by rw [Int.ofNat_tdiv]
  have t2 : ∀ d : Nat, Int.tmod (n : Int) (d : Int) = ((n % d : Nat) : Int) := fun d => by rw [Int.ofNat_tmod]
  have w : ∀ x : Nat, x ≤ 10000000 → wrap64 ((x : Nat) : Int) = (x : Int) := fun x hx => by unfold wrap64; omega
  unfold gussetref01_Encode.f enc
  by_cases h1 : n < 128
  ·
   rw [if_pos (by omega), if_pos h1, show ((n : Int)) % 256 = ((n : Nat) : Int) by omega]
   exact congrArg some (one [n] (by simp; omega))
  rw [if_neg (by omega), if_neg h1]
  by_cases h2 : n < 2048
  ·
   have e1 : (wrap64 (192 + (wrap64 (Int.tdiv (n : Int) 64)))) % 256 = ((192 + n / 64 : Nat) : Int) := by
     rw [show (64 : Int) = ((64 : Nat) : Int) from rfl, t1 64 (by omega), w _ (by omega), show (192 : Int) + ((n / 64 : Nat) : Int) = ((192 + n / 64 : Nat) : Int) by omega, w _ (by omega)]
     omega
   have e2 : (wrap64 (128 + (Int.tmod (n : Int) 64))) % 256 = ((128 + n % 64 : Nat) : Int) := by
     rw [show (64 : Int) = ((64 : Nat) : Int) from rfl, t2 64, show (128 : Int) + ((n % 64 : Nat) : Int) = ((128 + n % 64 : Nat) : Int) by omega, w _ (by omega)]
     omega
   rw [if_pos (by omega), if_pos h2, e1, e2]
   exact congrArg some (one [192 + n / 64, 128 + n % 64] (by simp; omega))
  rw [if_neg (by omega), if_neg h2]
  have e2 : (wrap64 (128 + (Int.tmod (n : Int) 64))) % 256 = ((128 + n % 64 : Nat) : Int) := by
    rw [show (64 : Int) = ((64 : Nat) : Int) from rfl, t2 64, show (128 : Int) + ((n % 64 : Nat) : Int) = ((128 + n % 64 : Nat) : Int) by omega, w _ (by omega)]
    omega
  have e3 : (wrap64 (128 + (Int.tmod (wrap64 (Int.tdiv (n : Int) 64)) 64))) % 256 = ((128 + n / 64 % 64 : Nat) : Int) := by
    rw [show (64 : Int) = ((64 : Nat) : Int) from rfl, t1 64 (by omega), w _ (by omega), ← Int.ofNat_tmod, show (128 : Int) + ((n / 64 % 64 : Nat) : Int) = ((128 + n / 64 % 64 : Nat) : Int) by omega, w _ (by omega)]
    omega
  by_cases h3 : n < 65536
  ·
   have e1 : (wrap64 (224 + (wrap64 (Int.tdiv (n : Int) 4096)))) % 256 = ((224 + n / 4096 : Nat) : Int) := by
     rw [show (4096 : Int) = ((4096 : Nat) : Int) from rfl, t1 4096 (by omega), w _ (by omega), show (224 : Int) + ((n / 4096 : Nat) : Int) = ((224 + n / 4096 : Nat) : Int) by omega, w _ (by omega)]
     omega
   rw [if_pos (by omega), if_pos h3, e1, e2, e3]
   exact congrArg some (one [224 + n / 4096, 128 + n / 64 % 64, 128 + n % 64] (by simp; omega))
  have e1 : (wrap64 (240 + (wrap64 (Int.tdiv (n : Int) 262144)))) % 256 = ((240 + n / 262144 : Nat) : Int) := by
    rw [show (262144 : Int) = ((262144 : Nat) : Int) from rfl, t1 262144 (by omega), w _ (by omega), show (240 : Int) + ((n / 262144 : Nat) : Int) = ((240 + n / 262144 : Nat) : Int) by omega, w _ (by omega)]
    omega
  have e4 : (wrap64 (128 + (Int.tmod (wrap64 (Int.tdiv (n : Int) 4096)) 64))) % 256 = ((128 + n / 4096 % 64 : Nat) : Int) := by
    rw [show (4096 : Int) = ((4096 : Nat) : Int) from rfl, t1 4096 (by omega), w _ (by omega)]
    obtain ⟨q, hq⟩ : ∃ q, n / 4096 = q := ⟨_, rfl⟩
    rw [hq, show (64 : Int) = ((64 : Nat) : Int) from rfl, ← Int.ofNat_tmod]
    obtain ⟨z, hz⟩ : ∃ z, q % 64 = z := ⟨_, rfl⟩
    have hz2 : z < 64 := by rw [← hz]; exact Nat.mod_lt _ (by omega)
    rw [hz, show (128 : Int) + ((z : Nat) : Int) = ((128 + z : Nat) : Int) by omega, w _ (by omega)]
    omega
  rw [if_neg (by omega), if_neg h3, e1, e2, e3, e4]
  have hb := enc4_lt n h
  exact congrArg some (one _ hb)
end Go.Proofs.YtbnpgobjbokboaaDoor.Lx
namespace Go.Proofs.YtbnpgobjbokboaaDoor.Lx
open Go.RowKit Go.Proofs.YtbnpgobjbokboaaDoor.PLex Go.Proofs.YtbnpgobjbokboaaDoorW.PrintWords Go.Proofs.YtbnpgobjbokboaaDoorW.PrintLast
set_option linter.unusedVariables false
set_option linter.unusedSimpArgs false
theorem hnum_snoc (a : L) (c : UInt8) : hnum (a ++ [c]) = 16 * hnum a + hv c := by
  unfold hnum
  rw [List.foldl_append]
  rfl
theorem hv_lt {c : UInt8} (h : hx c = true) : hv c < 16 := by
  unfold hx at h
  unfold hv
  simp only [Bool.or_eq_true, Bool.and_eq_true, decide_eq_true_eq] at h
  repeat' split
  all_goals omega
theorem esc_fin (v n : Nat) (hv : v < 16777216) (x : ByteArray × Int) (hok : validN v → x = (B (enc v), (n : Int))) (hno : ¬ validN v → x = (B [], 0)) :
    (if (v : Int) > 1114111 then some ((⟨#[]⟩ : ByteArray), (0 : Int)) else (if (v : Int) ≥ 55296 then (if (v : Int) < 57344 then some ((⟨#[]⟩ : ByteArray), 0) else ((gussetref01_Encode.f (v : Int)).bind fun t => some (t, (n : Int)))) else ((gussetref01_Encode.f (v : Int)).bind fun t => some (t, (n : Int))))) = some x := by
  unfold validN at hok hno
  by_cases h1 : (v : Int) > 1114111
  ·
   rw [if_pos h1, hno (by omega)]
   rfl
  rw [if_neg h1]
  have he := encode_q v (by omega)
  by_cases h2 : (v : Int) ≥ 55296
  rotate_left
  ·
   rw [if_neg h2, he, hok (by omega)]
   rfl
  rw [if_pos h2]
  by_cases h3 : (v : Int) < 57344
  ·
   rw [if_pos h3, hno (by omega)]
   rfl
  rw [if_neg h3, he, hok (by omega)]
  rfl
def numP (l : L) (r : Option (L × L)) : ByteArray × Int :=
  match r with
  | none => (B [], 0)
  | some (t, z) => (B t, ((l.length - z.length : Nat) : Int))
theorem escnum_l0 (t : L) (hlen : (123 :: t).length ≤ 1073741824) (q : L) : ∀ (a : L), t = a ++ q → (∀ c ∈ a, hx c = true) → a.length ≤ 6 → hnum a < 16 ^ a.length → Ev (fun k => gussetref01_number.l0 k (B (123 :: t)) (hnum a : Int) ((a.length + 1 : Nat) : Int)) (numP (123 :: t) (escU (123 :: t))) := by
  have h16 : ∀ a : L, a.length ≤ 6 → hnum a < 16 ^ a.length → hnum a < 16777216 := fun a h1 h2 => Nat.lt_of_lt_of_le h2 (by
    have : 16 ^ a.length ≤ 16 ^ 6 := Nat.pow_le_pow_right (by omega) h1
    exact this)
  -- where the digits end
  have fin : ∀ (a q : L), t = a ++ q → (∀ c ∈ a, hx c = true) → (∀ c r', q = c :: r' → hx c = false ∨ 6 ≤ a.length) → a.length ≤ 6 → hnum a < 16 ^ a.length → ∀ (k : Nat), (if ((a.length + 1 : Nat) : Int) = 1 then (some ((⟨#[]⟩ : ByteArray), (0 : Int))) else (if ((a.length + 1 : Nat) : Int) ≥ ((B (123 :: t)).size : Int) then (some ((⟨#[]⟩ : ByteArray), 0)) else (if (bt (B (123 :: t)) ((a.length + 1 : Nat) : Int)) = 125 then (if (hnum a : Int) > 1114111 then (some ((⟨#[]⟩ : ByteArray), 0)) else (if (hnum a : Int) ≥ 55296 then (if (hnum a : Int) < 57344 then (some ((⟨#[]⟩ : ByteArray), 0)) else ((gussetref01_Encode.f (hnum a : Int)).bind fun t236 => (some (t236, wrap64 (((a.length + 1 : Nat) : Int) + 1))))) else ((gussetref01_Encode.f (hnum a : Int)).bind fun t237 => (some (t237, wrap64 (((a.length + 1 : Nat) : Int) + 1)))))) else (some ((⟨#[]⟩ : ByteArray), 0))))) = some (numP (123 :: t) (escU (123 :: t))) := by
    intro a q ht ha hq h6 hn k
    have hlt := h16 a h6 hn
    have hsz : (B (123 :: t)).size = a.length + q.length + 1 := by rw [B_size, ht]; simp
    have hb : bt (B (123 :: t)) ((a.length + 1 : Nat) : Int) = (nb q 0 : Int) := by
      rw [B_bt, ht]
      show ((nb ((123 :: a) ++ q) (123 :: a).length : Nat) : Int) = _
      match q with
      | [] => unfold nb; simp
      | d :: q => rw [nb_app, nb_cons]
    have hw : wrap64 (((a.length + 1 : Nat) : Int) + 1) = ((a.length + 2 : Nat) : Int) := wrap_1 _ (by omega)
    have none_of : (t.takeWhile hx = [] ∨ 6 < (t.takeWhile hx).length ∨ (t.dropWhile hx).head? ≠ some 125) → escU (123 :: t) = none := by
      intro h
      rw [escU_cons, if_neg]
      rintro ⟨_, h1, h2, h3, _⟩
      rcases h with h | h | h
      ·
       exact h1 h
      ·
       omega
      exact h h3
    have bad : escU (123 :: t) = none → some ((⟨#[]⟩ : ByteArray), (0 : Int)) = some (numP (123 :: t) (escU (123 :: t))) := fun h => by rw [h]; rfl
    by_cases h0 : a.length = 0
    ·
     obtain rfl := List.eq_nil_of_length_eq_zero h0
     rw [if_pos (show ((([] : L).length + 1 : Nat) : Int) = 1 from rfl)]
     refine bad (none_of (Or.inl ?_))
     rw [List.nil_append] at ht
     match q with
     | [] => rw [ht]; rfl
     | c :: r =>
       rcases hq c r rfl with h | h
       rotate_left
       ·
        simp at h
       rw [ht, List.takeWhile_cons_of_neg (by simp [h])]
    rw [if_neg (by omega), hsz, hb]
    match q with
    | [] =>
      rw [if_pos (by simp)]
      have hw2 := takeWhile_app (p := hx) (a := a) (y := []) ha (fun _ _ h => by cases h)
      rw [← ht] at hw2
      exact bad (none_of (Or.inr (Or.inr (by rw [hw2.2]; simp))))
    | c :: r =>
      rw [if_neg (by simp only [List.length_cons]; omega), nb_cons]
      by_cases hc : c = 125
      ·
       subst hc
       have hw2 := takeWhile_hex (p := hx) ha (show hx 125 = false by decide) r
       rw [← ht] at hw2
       rw [if_pos (show (((125 : UInt8).toNat : Nat) : Int) = 125 from rfl), hw]
       refine esc_fin (hnum a) (a.length + 2) hlt _ (fun hv => ?_) (fun hv => ?_)
       rotate_left
       ·
        rw [escU_cons, hw2.1, if_neg (fun h => hv h.2.2.2.2)]
        rfl
       rw [escU_cons, hw2.1, hw2.2, if_pos ⟨rfl, fun e => h0 (by rw [e]; rfl), h6, rfl, hv⟩]
       show (B (enc (hnum a)), (((123 :: t).length - r.length : Nat) : Int)) = _
       congr 1
       rw [ht]
       simp only [List.length_cons, List.length_append]
       omega
      rw [if_neg (fun e => hc (UInt8.toNat_inj.1 (show c.toNat = 125 by omega)))]
      refine bad (none_of ?_)
      rcases hq c r rfl with h | h
      ·
       have hw2 := takeWhile_hex (p := hx) ha h r
       rw [← ht] at hw2
       exact Or.inr (Or.inr (by rw [hw2.2]; simpa using hc))
      by_cases hxc : hx c = true
      rotate_left
      ·
       have hw2 := takeWhile_hex (p := hx) ha (by simpa using hxc) r
       rw [← ht] at hw2
       exact Or.inr (Or.inr (by rw [hw2.2]; simpa using hc))
      refine Or.inr (Or.inl ?_)
      have : (a ++ [c]).length ≤ (t.takeWhile hx).length := by
        have hs : t.takeWhile hx = (a ++ [c]) ++ r.takeWhile hx := by
          have hall : ∀ x ∈ a ++ [c], hx x = true := fun x hx' => by
            rcases List.mem_append.1 hx' with h' | h'
            ·
             exact ha x h'
            rw [List.mem_singleton.1 h']
            exact hxc
          rw [ht, show a ++ c :: r = (a ++ [c]) ++ r by simp, List.takeWhile_append_of_pos hall]
        rw [hs]
        simp only [List.length_append]
        omega
      rw [List.length_append, List.length_singleton] at this
      omega
  induction q with
  | nil =>
    intro a ht ha h6 hn
    have hf := fin a [] ht ha (fun _ _ h => by cases h) h6 hn
    have hsz : (B (123 :: t)).size = a.length + 1 := by rw [B_size, ht]; simp
    refine Ev.step (f := fun _ => some (numP (123 :: t) (escU (123 :: t)))) (fun k => ?_) (Ev.now _)
    rw [gussetref01_number.l0, if_neg (by omega)]
    have hf := hf k
    rw [hsz] at hf ⊢
    by_cases h1 : ((a.length + 1 : Nat) : Int) = 1
    ·
     rw [if_pos h1] at hf ⊢
     exact hf
    rw [if_neg h1, if_pos (by omega)] at hf ⊢
    exact hf
  | cons c q ih =>
    intro a ht ha h6 hn
    have hlt := h16 a h6 hn
    have hsz : (B (123 :: t)).size = a.length + (q.length + 1) + 1 := by rw [B_size, ht]; simp
    have hb : bt (B (123 :: t)) ((a.length + 1 : Nat) : Int) = (c.toNat : Int) := by
      rw [B_bt, ht]
      exact congrArg _ (nb_app (123 :: a) c q)
    by_cases h5 : a.length < 6
    rotate_left
    ·
     have hf := fin a (c :: q) ht ha (fun c' r' h => Or.inr (by omega)) h6 hn
     refine ⟨5, fun k hk => ?_⟩
     obtain ⟨k, rfl⟩ : ∃ m, k = m + 3 := ⟨k - 3, by omega⟩
     show gussetref01_number.l0 (k + 2 + 1) (B (123 :: t)) (hnum a : Int) ((a.length + 1 : Nat) : Int) = _
     rw [gussetref01_number.l0, if_pos (by omega), if_neg (by omega)]
     have := hf k
     rw [hb, hsz] at this
     rw [hb, hsz]
     by_cases h1 : ((a.length + 1 : Nat) : Int) = 1
     ·
      rw [if_pos h1] at this ⊢
      exact this
     rw [if_neg h1, if_neg (by omega)] at this ⊢
     rw [if_pos (by omega)]
     exact this
    by_cases hxc : hx c = true
    rotate_left
    ·
     have hf := fin a (c :: q) ht ha (fun c' r' h => by injection h with h _; rw [← h]; exact Or.inl (by simpa using hxc)) h6 hn
     refine ⟨5, fun k hk => ?_⟩
     obtain ⟨k, rfl⟩ : ∃ m, k = m + 3 := ⟨k - 3, by omega⟩
     show gussetref01_number.l0 (k + 2 + 1) (B (123 :: t)) (hnum a : Int) ((a.length + 1 : Nat) : Int) = _
     rw [gussetref01_number.l0, if_pos (by omega), if_pos (by omega), if_pos (by omega), hb, hex_q, Option.bind_some, if_neg hxc, if_neg (by decide)]
     have := hf k
     rw [hb] at this
     exact this
    have hvc := hv_lt hxc
    have hla : (a ++ [c]).length = a.length + 1 := by simp
    have hw : wrap64 ((wrap64 ((hnum a : Int) * 16)) + (hv c : Int)) = (hnum (a ++ [c]) : Int) := by
      rw [hnum_snoc]
      have e1 : wrap64 ((hnum a : Int) * 16) = ((hnum a * 16 : Nat) : Int) := by unfold wrap64; omega
      rw [e1]
      unfold wrap64
      omega
    obtain ⟨K, hK⟩ := ih (a ++ [c]) (by rw [ht]; simp) (fun x hx' => by
      rcases List.mem_append.1 hx' with h' | h'
      ·
       exact ha x h'
      rw [List.mem_singleton.1 h']
      exact hxc) (by omega) (by rw [hnum_snoc, hla, Nat.pow_succ]; omega)
    refine ⟨K + 5, fun k hk => ?_⟩
    obtain ⟨k, rfl⟩ : ∃ m, k = m + 3 := ⟨k - 3, by omega⟩
    have hK := hK (k + 2) (by omega)
    rw [hla] at hK
    show gussetref01_number.l0 (k + 2 + 1) (B (123 :: t)) (hnum a : Int) ((a.length + 1 : Nat) : Int) = _
    rw [gussetref01_number.l0, if_pos (by omega), if_pos (by omega), if_pos (by omega), hb, hex_q, Option.bind_some, if_pos hxc, if_pos (by omega), Option.bind_some, hw, wrap_1 _ (by omega)]
    exact hK
theorem escnum_q (r : L) (hl : r.length ≤ 1073741824) : Ev (fun k => gussetref01_number.f k (B r)) (numP r (escU r)) := by
  unfold gussetref01_number.f
  match r with
  | [] =>
    simp only [if_pos (B_toList [])]
    exact Ev.step (f := fun _ => some ((⟨#[]⟩ : ByteArray), (0 : Int))) (fun k => by rw [gussetref01_number.j0, if_pos rfl]) (Ev.now _)
  | c :: t =>
    have hne : ¬ ((B (c :: t)).toList = ([] : List UInt8)) := by rw [B_toList]; simp
    have hb : bt (B (c :: t)) 0 = (c.toNat : Int) := B_bt _ 0
    simp only [if_neg hne, if_pos (show (0 : Int) < ((B (c :: t)).size : Int) by rw [B_size, List.length_cons]; omega), hb]
    by_cases hc : c = 123
    rotate_left
    ·
     have hn : ((c.toNat : Int) != 123) = true := bne_iff_ne.2 (fun e => hc (UInt8.toNat_inj.1 (show c.toNat = 123 by omega)))
     rw [hn, escU_cons, if_neg (fun h => hc h.1)]
     exact Ev.step (f := fun _ => some ((⟨#[]⟩ : ByteArray), (0 : Int))) (fun k => by rw [gussetref01_number.j0, if_pos rfl]) (Ev.now _)
    subst hc
    have hn : (((123 : UInt8).toNat : Int) != 123) = false := rfl
    rw [hn]
    refine Ev.step (f := fun k => gussetref01_number.l0 k (B (123 :: t)) (hnum [] : Int) ((([] : L).length + 1 : Nat) : Int)) (fun k => ?_) (escnum_l0 t hl t [] rfl (fun _ h => by cases h) (by simp) (by decide))
    rw [gussetref01_number.j0, if_neg (by decide)]
    rfl
theorem esc_q (l : L) (hl : l.length ≤ 1073741824) : Ev (fun k => gussetref01_escape.f k (B l)) (escP l (escS l)) := by
  unfold gussetref01_escape.f
  match l with
  | [] =>
    simp only [if_pos (B_toList [])]
    exact Ev.now _
  | c :: r =>
    have hne : ¬ ((B (c :: r)).toList = ([] : List UInt8)) := by rw [B_toList]; simp
    have hb : bt (B (c :: r)) 0 = (c.toNat : Int) := B_bt _ 0
    have h1 : ((c.toNat : Int) = 110) ↔ c = 110 := u8_eq (n := 110) (by omega)
    have h2 : ((c.toNat : Int) = 116) ↔ c = 116 := u8_eq (n := 116) (by omega)
    have h3 : ((c.toNat : Int) = 34) ↔ c = 34 := u8_eq (n := 34) (by omega)
    have h4 : ((c.toNat : Int) = 39) ↔ c = 39 := u8_eq (n := 39) (by omega)
    have h5 : ((c.toNat : Int) = 92) ↔ c = 92 := u8_eq (n := 92) (by omega)
    have h6 : ((c.toNat : Int) = 117) ↔ c = 117 := u8_eq (n := 117) (by omega)
    have one : ∀ t : L, (B t, (1 : Int)) = escP (c :: r) (some (t, r)) := fun t => by
      show _ = (B t, (((c :: r).length - r.length : Nat) : Int))
      congr 1
      simp
    simp only [if_neg hne, if_pos (show (0 : Int) < ((B (c :: r)).size : Int) by rw [B_size, List.length_cons]; omega), hb, h1, h2, h3, h4]
    unfold escS
    simp only
    by_cases c1 : c = 110
    ·
     simp only [if_pos c1, ← one]
     exact Ev.now _
    simp only [if_neg c1]
    by_cases c2 : c = 116
    ·
     simp only [if_pos c2, ← one]
     exact Ev.now _
    simp only [if_neg c2]
    have hj : ∀ b : Bool, (b = true ↔ (c = 34 ∨ c = 39 ∨ c = 92)) → Ev (fun k => gussetref01_escape.j0 k (B (c :: r)) (c.toNat : Int) b) (escP (c :: r) (if c = 34 ∨ c = 39 ∨ c = 92 then some ([c], r) else if c = 117 then escU r else none)) := by
      intro b hbb
      cases b with
      | true =>
        rw [if_pos (hbb.1 rfl), ← one]
        refine Ev.step (f := fun _ => some (B [c], (1 : Int))) (fun k => ?_) (Ev.now _)
        rw [gussetref01_escape.j0, if_pos rfl, if_pos (by omega), if_pos (by rw [B_size, List.length_cons]; omega), B_take]
        rfl
      | false =>
        have hno : ¬ (c = 34 ∨ c = 39 ∨ c = 92) := fun h => by have := hbb.2 h; cases this
        rw [if_neg hno]
        by_cases c4 : c = 117
        rotate_left
        ·
         rw [if_neg c4]
         refine Ev.step (f := fun _ => some ((⟨#[]⟩ : ByteArray), (0 : Int))) (fun k => ?_) (Ev.now _)
         rw [gussetref01_escape.j0, if_neg (by decide), if_neg (fun e => c4 (h6.1 e))]
        rw [if_pos c4]
        have hr : (B (c :: r)).extract 1 (B (c :: r)).size = B r := by rw [B_drop]; rfl
        refine Ev.step (f := fun k => (gussetref01_number.f k (B r)).bind fun bt240 => (if bt240.2 > 0 then (some (bt240.1, wrap64 (bt240.2 + 1))) else (some ((⟨#[]⟩ : ByteArray), 0)))) (fun k => ?_) ?_
        ·
         rw [gussetref01_escape.j0, if_neg (by decide), if_pos (h6.2 c4), if_pos (by rw [B_size, List.length_cons]; omega), hr]
        refine Ev.bind (f := fun _ bt240 => (if bt240.2 > 0 then (some (bt240.1, wrap64 (bt240.2 + 1))) else (some ((⟨#[]⟩ : ByteArray), 0)))) (escnum_q r (by simp only [List.length_cons] at hl; omega)) ?_
        cases he : escU r with
        | none => exact Ev.now _
        | some p =>
          obtain ⟨t, z⟩ := p
          obtain ⟨a, ha, hal, _⟩ := escU_local he
          have hlen : 0 < r.length - z.length := by
            have ha2 : a ≠ [] := by
              rintro rfl
              have := hal []
              cases this
            have := List.length_pos_iff.2 ha2
            rw [ha, List.length_append]
            omega
          have hrl : r.length ≤ 1073741824 := by simp only [List.length_cons] at hl; omega
          show Ev (fun _ => if ((r.length - z.length : Nat) : Int) > 0 then some (B t, wrap64 (((r.length - z.length : Nat) : Int) + 1)) else _) (B t, (((c :: r).length - z.length : Nat) : Int))
          simp only [if_pos (show ((r.length - z.length : Nat) : Int) > 0 by omega), wrap_1 _ (show r.length - z.length < 9223372036854775807 by omega)]
          have e : (c :: r).length - z.length = r.length - z.length + 1 := by simp only [List.length_cons]; omega
          rw [e]
          exact Ev.now _
    by_cases c3 : c = 34
    ·
     simp only [if_pos c3]
     exact hj _ (by rw [beq_iff_eq, h3]; exact ⟨Or.inl, fun _ => c3⟩)
    simp only [if_neg c3]
    by_cases c3' : c = 39
    ·
     simp only [if_pos c3']
     exact hj _ (by rw [beq_iff_eq, h4]; exact ⟨fun h => Or.inr (Or.inl h), fun _ => c3'⟩)
    simp only [if_neg c3']
    refine hj _ ?_
    rw [beq_iff_eq, h5]
    exact ⟨fun h => Or.inr (Or.inr h), fun h => (h.resolve_left c3).resolve_left c3'⟩
theorem strOf_app (l m : L) : bytesOf (B l) ++ bytesOf (B m) = bytesOf (B (l ++ m)) := by
  unfold bytesOf
  rw [B_data, B_data, B_data, List.map_append]
theorem bytes_len (l : L) : (bytesOf (B l)).length = l.length := by rw [bytesOf_length, B_size]
set_option maxHeartbeats 1000000 in
theorem unqq_st (q : UInt8) : ∀ (a acc : L) (c : UInt8) (r : L), c ≠ q → (q :: a ++ c :: r).length ≤ 1073741824 → ∀ k, gussetref01_Unquote.l0 (k + 20) (B (q :: a ++ c :: r)) (bytesOf (B acc)) (((q :: a).length : Nat) : Int) =
    gussetref01_Unquote.j2 (k + 19) (B (q :: a ++ c :: r)) (bytesOf (B acc)) (((q :: a).length : Nat) : Int) (headP (c :: r)).1 (headP (c :: r)).2 (B ((c :: r).take (dec (c :: r)).2)) (decide ((headP (c :: r)).2 < 0 ∨ (headP (c :: r)).2 = 10 ∨ (headP (c :: r)).2 = 13)) := by
  intro a acc c r hc hl k
  have hw := dec_width (l := c :: r) (by simp)
  have hh1 : (headP (c :: r)).1 = (((dec (c :: r)).2 : Nat) : Int) := by
    unfold headP
    split
    rotate_left
    ·
     rfl
    rename_i hb
    have : dec (c :: r) = (65533, 1) := hb
    rw [this]
    rfl
  have hlen : (q :: a ++ c :: r).length = (q :: a).length + (c :: r).length := by simp only [List.length_append]
  have hne : ¬ ((c.toNat : Int) = (q.toNat : Int)) := fun e => hc (UInt8.toNat_inj.1 (by omega))
  have hw2 : wrap64 ((((q :: a).length : Nat) : Int) + (((dec (c :: r)).2 : Nat) : Int)) = (((q :: a).length + (dec (c :: r)).2 : Nat) : Int) := by unfold wrap64; omega
  have hx : (B (q :: a ++ c :: r)).extract (q :: a).length ((q :: a).length + (dec (c :: r)).2) = B ((c :: r).take (dec (c :: r)).2) := by
    rw [B_extract, drop_len, Nat.add_sub_cancel_left]
  have hlt : (((q :: a).length : Nat) : Int) < ((B (q :: a ++ c :: r)).size : Int) := by rw [B_size, hlen, @List.length_cons _ c r]; omega
  have hsz0 : (0 : Int) < ((B (q :: a ++ c :: r)).size : Int) := by omega
  have hle2 : (((q :: a).length + (dec (c :: r)).2 : Nat) : Int) ≤ ((B (q :: a ++ c :: r)).size : Int) := by rw [B_size, hlen]; omega
  show gussetref01_Unquote.l0 (k + 19 + 1) _ _ _ = _
  rw [gussetref01_Unquote.l0, if_pos hlt, if_pos (by omega), if_pos hsz0, B_bt, nb_app, show bt (B (q :: a ++ c :: r)) 0 = (q.toNat : Int) from B_bt _ 0, if_neg hne, if_pos (by omega), Int.toNat_natCast, B_drop, drop_len, head_b c r (k + 7), Option.bind_some, hh1, hw2, if_pos (by omega), if_pos hle2, Int.toNat_natCast, hx]
  by_cases h1 : (headP (c :: r)).2 < 0
  ·
   rw [if_pos h1, decide_eq_true (Or.inl h1)]
  rw [if_neg h1]
  by_cases h2 : (headP (c :: r)).2 = 10
  ·
   rw [if_pos h2, decide_eq_true (Or.inr (Or.inl h2))]
  rw [if_neg h2]
  congr 1
  rw [Bool.eq_iff_iff, beq_iff_eq, decide_eq_true_eq]
  exact ⟨fun h => Or.inr (Or.inr h), fun h => (h.resolve_left h1).resolve_left h2⟩
theorem unqq_bad : ∀ (c : UInt8) (r : L), ((headP (c :: r)).2 < 0 ∨ (headP (c :: r)).2 = 10 ∨ (headP (c :: r)).2 = 13) ↔ BadQ (c :: r) := by
  intro c r
  unfold BadQ headP
  by_cases hb : Bad (c :: r)
  ·
   rw [if_pos hb]
   exact ⟨fun _ => Or.inr (Or.inr hb), fun _ => Or.inl (by decide)⟩
  rw [if_neg hb]
  constructor
  ·
   intro h
   simp only at h
   rcases h with h | h | h
   ·
    omega
   ·
    exact Or.inl (by omega)
   exact Or.inr (Or.inl (by omega))
  intro h
  simp only
  rcases h with h | h | h
  ·
   exact Or.inr (Or.inl (by omega))
  ·
   exact Or.inr (Or.inr (by omega))
  exact absurd h hb
theorem unqq_92 : ∀ (r : L), headP (92 :: r) = (1, 92) := fun r => headP_ok (dec_1 (c := 92) (r := r) (by decide)) (by decide)
theorem unqq_n92 : ∀ (c : UInt8) (r : L), c ≠ 92 → ¬ (headP (c :: r)).2 = 92 := by
  intro c r hc h
  unfold headP at h
  by_cases hb : Bad (c :: r)
  ·
   rw [if_pos hb] at h
   revert h
   decide
  rw [if_neg hb] at h
  simp only at h
  rcases dec_cases c r with h' | ⟨d, r', rfl, q1, q2, q3⟩ | ⟨d, e, r', rfl, q1, q2, q3, q4, q5⟩ | ⟨d, e, f, r', rfl, q1, q2, q3, q4, q5, q6⟩ | h'
  ·
   rw [h'.2] at h
   exact hc (UInt8.toNat_inj.1 (show c.toNat = 92 by omega))
  ·
   rw [dec_2 q1 q2 q3] at h; simp only at h; omega
  ·
   rw [dec_3 q1 q2 q3 q4 q5] at h; simp only at h; omega
  ·
   rw [dec_4 q1 q2 q3 q4 q5 q6] at h; simp only at h; omega
  exact absurd h'.2 hb
def UQ (q : UInt8) (a l acc : L) : Prop := (q :: a ++ l).length ≤ 1073741824 → acc.length ≤ 4 * (q :: a).length → Ev (fun k => gussetref01_Unquote.l0 k (B (q :: a ++ l)) (bytesOf (B acc)) (((q :: a).length : Nat) : Int)) (unqP (q :: a ++ l).length acc (unqS q l))
theorem uq_nil (q : UInt8) (a acc : L) : UQ q a [] acc := by
  intro hl hacc
  rw [unq_nil]
  refine Ev.step (f := fun _ => some ((⟨#[]⟩ : ByteArray), (0 : Int), (10 : Int))) (fun k => ?_) (Ev.now _)
  rw [gussetref01_Unquote.l0, if_neg (by rw [B_size]; simp)]
theorem uq_end (q : UInt8) (r a acc : L) : UQ q a (q :: r) acc := by
  intro hl hacc
  rw [unq_end]
  have hlen : (q :: a ++ q :: r).length = (q :: a).length + (q :: r).length := by simp only [List.length_append]
  have hlt : (((q :: a).length : Nat) : Int) < ((B (q :: a ++ q :: r)).size : Int) := by rw [B_size, hlen, @List.length_cons _ q r]; omega
  refine Ev.step (f := fun _ => some (B acc, (((q :: a).length + 1 : Nat) : Int), (0 : Int))) (fun k => ?_) ?_
  ·
   rw [gussetref01_Unquote.l0, if_pos hlt, if_pos (by omega), if_pos (by omega), B_bt, nb_app, show bt (B (q :: a ++ q :: r)) 0 = (q.toNat : Int) from B_bt _ 0, if_pos rfl, strOf_bytes, wrap_1 _ (by omega)]
  have : unqP (q :: a ++ q :: r).length acc (some ([], r)) = (B acc, (((q :: a).length + 1 : Nat) : Int), 0) := by
    show (B (acc ++ []), (((q :: a ++ q :: r).length - r.length : Nat) : Int), (0 : Int)) = _
    rw [List.append_nil]
    congr 2
    simp only [List.length_append, List.length_cons]
    omega
  rw [this]
  exact Ev.now _
theorem enc_le (n : Nat) : (enc n).length ≤ 4 := by
  unfold enc
  repeat' split
  all_goals simp
theorem wsum (n m : Nat) (h : n ≤ 2147483648) (hm : m ≤ 2147483648) : wrap64 ((n : Int) + (m : Int)) = ((n + m : Nat) : Int) := by unfold wrap64; omega
theorem uq_esc1 (q : UInt8) (hq : q ≠ 92) (r a acc : L) (hl : (q :: a ++ 92 :: r).length ≤ 1073741824) (k : Nat) (x : ByteArray × Int) (hM : gussetref01_escape.f (k + 18) (B r) = some x) : gussetref01_Unquote.l0 (k + 20) (B (q :: a ++ 92 :: r)) (bytesOf (B acc)) (((q :: a).length : Nat) : Int) =
    (if x.2 = 0 then some ((⟨#[]⟩ : ByteArray), 0, 10) else (if (bytesOf (B acc)).length + x.1.size < 140737488355328 then gussetref01_Unquote.l0 (k + 18) (B (q :: a ++ 92 :: r)) (bytesOf (B acc) ++ bytesOf x.1) (wrap64 ((((q :: a).length : Nat) : Int) + (wrap64 (x.2 + 1)))) else none)) := by
  have hlen : (q :: a ++ 92 :: r).length = (q :: a).length + (r.length + 1) := by simp only [List.length_append, List.length_cons]
  have hd1 : (B (q :: a ++ 92 :: r)).extract ((q :: a).length + 1) (B (q :: a ++ 92 :: r)).size = B r := by rw [B_drop, drop_len1]
  have hw1 : wrap64 ((((q :: a).length : Nat) : Int) + 1) = (((q :: a).length + 1 : Nat) : Int) := wrap_1 _ (by omega)
  have hle : (((q :: a).length + 1 : Nat) : Int) ≤ ((B (q :: a ++ 92 :: r)).size : Int) := by rw [B_size]; omega
  rw [unqq_st q a acc 92 r (fun h => hq h.symm) hl k, unqq_92]
  show gussetref01_Unquote.j2 (k + 18 + 1) _ _ _ 1 92 _ (decide ((92 : Int) < 0 ∨ (92 : Int) = 10 ∨ (92 : Int) = 13)) = _
  rw [show decide ((92 : Int) < 0 ∨ (92 : Int) = 10 ∨ (92 : Int) = 13) = false from rfl, gussetref01_Unquote.j2, if_neg (by decide), if_pos rfl, hw1, if_pos (by omega), if_pos hle, Int.toNat_natCast, hd1, hM, Option.bind_some]
theorem uq_esc (q : UInt8) (hq : q ≠ 92) (r t z : L) (he : escS r = some (t, z)) (ih : ∀ a acc, UQ q a z acc) (a acc : L) : UQ q a (92 :: r) acc := by
  intro hl hacc
  have hz := escS_lt he
  obtain ⟨e, hr, h1, _, n, hvn, hte⟩ := escS_local he
  have htl : t.length ≤ 4 := by rw [hte]; exact enc_le n
  have hel := List.length_pos_iff.2 h1
  have hsp : q :: (a ++ 92 :: e) ++ z = q :: a ++ 92 :: r := by rw [hr]; simp
  have hlen : (q :: a ++ 92 :: r).length = (q :: a).length + (r.length + 1) := by simp only [List.length_append, List.length_cons]
  have hp : (q :: a).length + (r.length - z.length + 1) = (q :: (a ++ 92 :: e)).length := by
    rw [hr]
    simp only [List.length_append, List.length_cons]
    omega
  have hih := ih (a ++ 92 :: e) (acc ++ t) (by rw [hsp]; exact hl) (by rw [← hp, List.length_append]; omega)
  rw [hsp] at hih
  rw [unq_esc hq he, unqP_map]
  obtain ⟨K, hK⟩ := hih
  obtain ⟨M, hM⟩ := esc_q r (by omega)
  refine ⟨K + M + 40, fun k hk => ?_⟩
  obtain ⟨k, rfl⟩ : ∃ m, k = m + 20 := ⟨k - 20, by omega⟩
  have hK := hK (k + 18) (by omega)
  have hM : gussetref01_escape.f (k + 18) (B r) = some (escP r (escS r)) := hM (k + 18) (by omega)
  rw [he] at hM
  have hc1 : ¬ (((r.length - z.length : Nat) : Int) = 0) := by omega
  have hc2 : (bytesOf (B acc)).length + (B t).size < 140737488355328 := by rw [bytes_len, B_size]; omega
  have hw3 : wrap64 ((((q :: a).length : Nat) : Int) + (wrap64 (((r.length - z.length : Nat) : Int) + 1))) = (((q :: (a ++ 92 :: e)).length : Nat) : Int) := by
    rw [wrap_1 _ (by omega), wsum _ _ (by omega) (by omega), hp]
  show gussetref01_Unquote.l0 (k + 20) _ _ _ = _
  rw [uq_esc1 q hq r a acc hl k _ hM]
  show (if ((r.length - z.length : Nat) : Int) = 0 then _ else (if (bytesOf (B acc)).length + (B t).size < 140737488355328 then gussetref01_Unquote.l0 (k + 18) (B (q :: a ++ 92 :: r)) (bytesOf (B acc) ++ bytesOf (B t)) (wrap64 ((((q :: a).length : Nat) : Int) + (wrap64 (((r.length - z.length : Nat) : Int) + 1)))) else none)) = _
  rw [if_neg hc1, if_pos hc2, hw3, strOf_app]
  exact hK
theorem uq_escn (q : UInt8) (hq : q ≠ 92) (r : L) (he : escS r = none) (a acc : L) : UQ q a (92 :: r) acc := by
  intro hl hacc
  rw [unq_esc_none hq he]
  obtain ⟨M, hM⟩ := esc_q r (by simp only [List.length_append, List.length_cons] at hl; omega)
  refine ⟨M + 40, fun k hk => ?_⟩
  obtain ⟨k, rfl⟩ : ∃ m, k = m + 20 := ⟨k - 20, by omega⟩
  have hM : gussetref01_escape.f (k + 18) (B r) = some (escP r (escS r)) := hM (k + 18) (by omega)
  rw [he] at hM
  show gussetref01_Unquote.l0 (k + 20) _ _ _ = _
  rw [uq_esc1 q hq r a acc hl k _ hM]
  rfl
theorem uq_bad (q c : UInt8) (r : L) (h1 : c ≠ q) (h2 : c ≠ 92) (h3 : BadQ (c :: r)) (a acc : L) : UQ q a (c :: r) acc := by
  intro hl hacc
  rw [unq_none h1 h2 h3]
  refine ⟨40, fun k hk => ?_⟩
  obtain ⟨k, rfl⟩ : ∃ m, k = m + 20 := ⟨k - 20, by omega⟩
  show gussetref01_Unquote.l0 (k + 20) _ _ _ = _
  rw [unqq_st q a acc c r h1 hl k, decide_eq_true ((unqq_bad c r).2 h3)]
  show gussetref01_Unquote.j2 (k + 18 + 1) _ _ _ _ _ _ true = _
  rw [gussetref01_Unquote.j2, if_pos rfl]
  rfl
theorem uq_step (q c : UInt8) (r : L) (h1 : c ≠ q) (h2 : c ≠ 92) (h3 : ¬ BadQ (c :: r)) (ih : ∀ a acc, UQ q a ((c :: r).drop (dec (c :: r)).2) acc) (a acc : L) : UQ q a (c :: r) acc := by
  intro hl hacc
  have hb : ¬ Bad (c :: r) := fun h => h3 (Or.inr (Or.inr h))
  have hw := dec_width (l := c :: r) (by simp)
  have hh1 : (headP (c :: r)).1 = (((dec (c :: r)).2 : Nat) : Int) := by
    unfold headP
    rw [if_neg hb]
  have htl : ((c :: r).take (dec (c :: r)).2).length = (dec (c :: r)).2 := by rw [List.length_take]; omega
  have h4 : (dec (c :: r)).2 ≤ 4 := by
    have := enc_le (dec (c :: r)).1
    rw [(enc_dec (l := c :: r) (by simp) hb).1, htl] at this
    exact this
  have hsp : q :: (a ++ (c :: r).take (dec (c :: r)).2) ++ (c :: r).drop (dec (c :: r)).2 = q :: a ++ c :: r := by rw [← List.cons_append, List.append_assoc, List.take_append_drop]
  have hp : (q :: (a ++ (c :: r).take (dec (c :: r)).2)).length = (q :: a).length + (dec (c :: r)).2 := by rw [← List.cons_append, List.length_append, htl]
  have hih := ih (a ++ (c :: r).take (dec (c :: r)).2) (acc ++ (c :: r).take (dec (c :: r)).2) (by rw [hsp]; exact hl) (by rw [hp, List.length_append, htl]; omega)
  rw [hsp] at hih
  rw [unq_step h1 h2 h3, unqP_map]
  obtain ⟨K, hK⟩ := hih
  have hlen : (q :: a ++ c :: r).length = (q :: a).length + (c :: r).length := by simp only [List.length_append]
  have hc2 : (bytesOf (B acc)).length + (B ((c :: r).take (dec (c :: r)).2)).size < 140737488355328 := by rw [bytes_len, B_size, htl]; omega
  have hw2 : wrap64 ((((q :: a).length : Nat) : Int) + (((dec (c :: r)).2 : Nat) : Int)) = (((q :: a).length + (dec (c :: r)).2 : Nat) : Int) := wsum _ _ (by omega) (by omega)
  refine ⟨K + 40, fun k hk => ?_⟩
  obtain ⟨k, rfl⟩ : ∃ m, k = m + 20 := ⟨k - 20, by omega⟩
  have hK := hK (k + 18) (by omega)
  rw [hp] at hK
  show gussetref01_Unquote.l0 (k + 20) _ _ _ = _
  rw [unqq_st q a acc c r h1 hl k, decide_eq_false (fun h => h3 ((unqq_bad c r).1 h))]
  show gussetref01_Unquote.j2 (k + 18 + 1) _ _ _ _ _ _ false = _
  rw [gussetref01_Unquote.j2, if_neg (by decide), if_neg (unqq_n92 c r h2), if_pos hc2, hh1, hw2, strOf_app]
  exact hK
theorem unqq_l0 (q : UInt8) (hq : q ≠ 92) (l : L) : ∀ (a acc : L), UQ q a l acc :=
  unq_ind (q := q) (P := fun l => ∀ a acc, UQ q a l acc) (uq_nil q) (fun r a acc => uq_end q r a acc) (fun r t z h1 h2 h3 => uq_esc q h1 r t z h2 h3) (fun r h1 h2 => uq_escn q h1 r h2) (fun c r h1 h2 h3 => uq_bad q c r h1 h2 h3) (fun c r h1 h2 h3 h4 => uq_step q c r h1 h2 h3 h4) _ l (Nat.le_refl _)
theorem unq_q (c : UInt8) (r : L) (hc : c = 34 ∨ c = 39) (hl : (c :: r).length ≤ 1073741824) : Ev (fun k => gussetref01_Unquote.f k (B (c :: r))) (unqP (c :: r).length [] (unqS c r)) := by
  have hne : ¬ ((B (c :: r)).toList = ([] : List UInt8)) := by rw [B_toList]; simp
  have hb : bt (B (c :: r)) 0 = (c.toNat : Int) := B_bt _ 0
  have h34 : ((c.toNat : Int) = 34) ↔ c = 34 := u8_eq (n := 34) (by omega)
  have h39 : ((c.toNat : Int) = 39) ↔ c = 39 := u8_eq (n := 39) (by omega)
  have hl0 := unqq_l0 c (by rcases hc with rfl | rfl <;> decide) r [] [] hl (by simp)
  have hj : Ev (fun k => gussetref01_Unquote.j0 k (B (c :: r)) false) (unqP (c :: r).length [] (unqS c r)) := by
    refine Ev.step (f := fun k => gussetref01_Unquote.l0 k (B (c :: r)) ([] : List Int) 1) (fun k => ?_) hl0
    rw [gussetref01_Unquote.j0, if_neg (by decide)]
  unfold gussetref01_Unquote.f
  simp only [if_neg hne, if_pos (show (0 : Int) < ((B (c :: r)).size : Int) by rw [B_size, List.length_cons]; omega), hb]
  by_cases c1 : c = 34
  ·
   simp only [if_pos (h34.2 c1)]
   exact hj
  have c2 : c = 39 := hc.resolve_left c1
  have hn : ((c.toNat : Int) != 39) = false := bne_eq_false_iff_eq.2 (h39.2 c2)
  simp only [if_neg (fun e => c1 (h34.1 e)), hn]
  exact hj
end Go.Proofs.YtbnpgobjbokboaaDoor.Lx
namespace Go.Proofs.YtbnpgobjbokboaaDoor.Lx
open Go.RowKit Go.Proofs.YtbnpgobjbokboaaDoor.PLex Go.Proofs.YtbnpgobjbokboaaDoorW.PrintWords Go.Proofs.YtbnpgobjbokboaaDoorW.PrintLast
set_option linter.unusedVariables false
set_option linter.unusedSimpArgs false
theorem signsq_b : gussetref04_signs.f = some (signs.map B) := rfl
theorem signq_l0 (l : L) (xs : List L) (hx : xs.length ≤ 1000) : ∀ (d j k : Nat), xs.length - j = d → j ≤ xs.length → d < k →
    gussetref04_next.l0 k (B l) (xs.map B) (j : Int) = some (tokP (match (xs.drop j).find? (fun g => g.isPrefixOf l) with | none => .error 40 | some g => .ok (⟨5, g, 0⟩, g.length))) := by
  intro d
  induction d with
  | zero =>
    intro j k hd hj hk
    obtain ⟨k, rfl⟩ : ∃ m, k = m + 1 := ⟨k - 1, by omega⟩
    rw [gussetref04_next.l0, if_neg (by rw [List.length_map]; omega), List.drop_of_length_le (by omega)]
    rfl
  | succ d ih =>
    intro j k hd hj hk
    obtain ⟨k, rfl⟩ : ∃ m, k = m + 1 := ⟨k - 1, by omega⟩
    have hlt : j < xs.length := by omega
    rw [gussetref04_next.l0, if_pos (by rw [List.length_map]; omega), if_pos (by omega), rdOf_b xs j hlt, B_size, B_size, List.drop_eq_getElem_cons hlt]
    have hno : ¬ xs[j].isPrefixOf l = true → gussetref04_next.l0 k (B l) (xs.map B) (wrap64 ((j : Int) + 1)) = some (tokP (match (xs[j] :: xs.drop (j + 1)).find? (fun g => g.isPrefixOf l) with | none => .error 40 | some g => .ok (⟨5, g, 0⟩, g.length))) := fun he => by
      have hf : (xs[j] :: xs.drop (j + 1)).find? (fun g => g.isPrefixOf l) = (xs.drop (j + 1)).find? (fun g => g.isPrefixOf l) := List.find?_cons_of_neg (p := fun g : L => g.isPrefixOf l) he
      rw [wrap_1 _ (by omega), ih (j + 1) k (by omega) (by omega) (by omega), hf]
    by_cases hg : xs[j].length ≤ l.length
    rotate_left
    ·
     rw [if_neg (by omega)]
     exact hno (fun hp => hg (by rw [List.isPrefixOf_iff_prefix] at hp; exact hp.length_le))
    rw [if_pos (by omega), if_pos (by omega), if_pos (by omega), Int.toNat_natCast, B_take, B_toList, B_toList]
    by_cases he : l.take xs[j].length = xs[j]
    rotate_left
    ·
     rw [if_neg he]
     exact hno (fun hp => he (by rw [List.isPrefixOf_iff_prefix, List.prefix_iff_eq_take] at hp; exact hp.symm))
    have hp : xs[j].isPrefixOf l = true := by rw [List.isPrefixOf_iff_prefix, List.prefix_iff_eq_take]; exact he.symm
    have hf : (xs[j] :: xs.drop (j + 1)).find? (fun g => g.isPrefixOf l) = some xs[j] := List.find?_cons_of_pos (p := fun g : L => g.isPrefixOf l) hp
    rw [if_pos he, hf]
    rfl
theorem nextq_word (s : Bool) (l : L) (n k : Nat) : ((gussetref04_word.f (k + 20) (B (l.take n))).bind fun t => (if t = true then (some ((2 : Int), B (l.take n), (0 : Int), (0 : Int), (n : Int), (0 : Int))) else (some (1, B (l.take n), 0, 0, (n : Int), 0)))) = some (tokP (.ok (⟨if l.take n ∈ words then 2 else 1, l.take n, 0⟩, n))) := by
  rw [wordq_b, Option.bind_some]
  by_cases h : l.take n ∈ words
  rotate_left
  ·
   rw [if_neg (by simpa using h), if_neg h]
   rfl
  rw [if_pos (decide_eq_true h), if_pos h]
  rfl
def AsTok (x : Int × ByteArray × Int × Int × Int × Int) (r : Except Nat (T × Nat)) : Prop :=
  match r with
  | .error e => x.2.2.2.2.2 = (e : Int)
  | .ok p => x = tokP (.ok p)
theorem asTok_tokP (r : Except Nat (T × Nat)) : AsTok (tokP r) r := by
  cases r with
  | error e => rfl
  | ok p => rfl
theorem asTok_num (s : Bool) (l : L) : AsTok ((3 : Int), (⟨#[]⟩ : ByteArray), (numQ (numS s l)).1, (0 : Int), (numQ (numS s l)).2.1, (numQ (numS s l)).2.2) (numS s l) := by
  unfold numS
  split
  ·
   rfl
  split
  rotate_left
  ·
   rfl
  rfl
theorem nextq_j0 (s : Bool) (c : UInt8) (r : L) (h0 : nameS s (c :: r) = 0) (hd : dig c = false) (hl : (c :: r).length ≤ 1073741824) (d : Bool) (hd2 : decide (c = 34 ∨ c = 39) = d) : Ev (fun k => gussetref04_next.j0 k (B (c :: r)) d) (tokP (tokS s (c :: r))) := by
  cases d with
  | true =>
    have hq := of_decide_eq_true hd2
    refine Ev.step (f := fun k => (gussetref01_Unquote.f k (B (c :: r))).bind fun bt262 => (if bt262.2.2 = 0 then (some ((4 : Int), bt262.1, (0 : Int), (0 : Int), bt262.2.1, (0 : Int))) else (some (0, (⟨#[]⟩ : ByteArray), 0, 0, 0, 40)))) (fun k => ?_) ?_
    ·
     rw [gussetref04_next.j0, if_pos rfl]
    refine Ev.bind (f := fun _ bt262 => (if bt262.2.2 = 0 then (some ((4 : Int), bt262.1, (0 : Int), (0 : Int), bt262.2.1, (0 : Int))) else (some (0, (⟨#[]⟩ : ByteArray), 0, 0, 0, 40)))) (unq_q c r hq hl) ?_
    rw [tok_text h0 hd hq]
    cases hu : unqS c r with
    | none => exact Ev.now _
    | some p => exact Ev.now _
  | false =>
    have hq := of_decide_eq_false hd2
    refine ⟨60, fun k hk => ?_⟩
    obtain ⟨k, rfl⟩ : ∃ m, k = m + 1 := ⟨k - 1, by omega⟩
    show gussetref04_next.j0 (k + 1) (B (c :: r)) false = _
    rw [gussetref04_next.j0, if_neg (by decide), signsq_b, Option.bind_some, tok_sign h0 hd hq]
    exact signq_l0 (c :: r) signs (by decide) 28 0 k rfl (by decide) (by omega)
theorem next_q (s : Bool) (l : L) (hne : l ≠ []) (hl : l.length ≤ 1073741824) : ∃ x, Ev (fun k => gussetref04_next.f k (B l) s) x ∧ AsTok x (tokS s l) := by
  unfold gussetref04_next.f
  have hn := name_q s l hl
  by_cases h0 : nameS s l = 0
  rotate_left
  ·
   refine ⟨tokP (tokS s l), Ev.bind (f := fun k t256 => _) hn ?_, asTok_tokP _⟩
   have hle := nameS_le s l
   simp only [if_pos (show ((nameS s l : Nat) : Int) > 0 by omega), if_pos (show (0 : Int) ≤ ((nameS s l : Nat) : Int) by omega), if_pos (show ((nameS s l : Nat) : Int) ≤ ((B l).size : Int) by rw [B_size]; omega), Int.toNat_natCast, B_take, tok_name h0]
   refine ⟨20, fun k hk => ?_⟩
   obtain ⟨k, rfl⟩ : ∃ m, k = m + 20 := ⟨k - 20, by omega⟩
   exact nextq_word s l (nameS s l) k
  match l with
  | [] => exact absurd rfl hne
  | c :: r =>
    have hb : bt (B (c :: r)) 0 = (c.toNat : Int) := B_bt _ 0
    have hz : (0 : Int) < ((B (c :: r)).size : Int) := by rw [B_size, List.length_cons]; omega
    by_cases hd : dig c = true
    ·
     refine ⟨((3 : Int), (⟨#[]⟩ : ByteArray), (numQ (numS s (c :: r))).1, (0 : Int), (numQ (numS s (c :: r))).2.1, (numQ (numS s (c :: r))).2.2), Ev.bind (f := fun k t256 => _) hn ?_, ?_⟩
     rotate_left
     ·
      rw [tok_num h0 hd]
      exact asTok_num s _
     rw [h0]
     simp only [if_neg (show ¬ ((0 : Nat) : Int) > 0 by omega), if_pos hz, hb, digit_q, Option.bind_some, hd, if_true]
     exact Ev.bind (f := fun _ bt259 => some ((3 : Int), (⟨#[]⟩ : ByteArray), bt259.1, (0 : Int), bt259.2.1, bt259.2.2)) (number_q s c r hd hl) (Ev.now _)
    have hd : dig c = false := by simpa using hd
    have h34 : ((c.toNat : Int) = 34) ↔ c = 34 := u8_eq (n := 34) (by omega)
    have h39 : ((c.toNat : Int) = 39) ↔ c = 39 := u8_eq (n := 39) (by omega)
    refine ⟨tokP (tokS s (c :: r)), Ev.bind (f := fun k t256 => _) hn ?_, asTok_tokP _⟩
    rw [h0]
    simp only [if_neg (show ¬ ((0 : Nat) : Int) > 0 by omega), if_pos hz, hb, digit_q, Option.bind_some, hd, if_neg (show ¬ (false = true) by decide)]
    by_cases c1 : c = 34
    ·
     simp only [if_pos (h34.2 c1)]
     exact nextq_j0 s c r h0 hd hl true (decide_eq_true (Or.inl c1))
    simp only [if_neg (fun e => c1 (h34.1 e))]
    refine nextq_j0 s c r h0 hd hl _ ?_
    rw [Bool.eq_iff_iff, decide_eq_true_eq, beq_iff_eq, h39]
    exact ⟨fun h => h.resolve_left c1, Or.inr⟩
theorem ref_one (s : Bool) (l a r : L) (b : Bool) (acc : List S36) (hl : (a ++ l).length ≤ 1073741824) (h : skipS l = (r, b)) (x : List S36 × Int × Int)
    (hk : Ev (fun k => if b = true then (if (((a ++ l).length - r.length : Nat) : Int) = ((a ++ l).length : Int) then (some (acc, 0, 0)) else ((gussetref04_next.f k (B r) s).bind fun bt275 => (if bt275.2.2.2.2.2 = 0 then (gussetref04_Lex.l0 k (B (a ++ l)) s (acc ++ [(⟨bt275.1, bt275.2.1, bt275.2.2.1, (((a ++ l).length - r.length : Nat) : Int)⟩ : S36)]) (wrap64 ((((a ++ l).length - r.length : Nat) : Int) + bt275.2.2.2.2.1))) else (some (([] : List S36), (((a ++ l).length - r.length : Nat) : Int), bt275.2.2.2.2.2))))) else (some (([] : List S36), (((a ++ l).length - r.length : Nat) : Int), 40))) x)
    (hacc : acc.length ≤ a.length) : Ev (fun k => gussetref04_Lex.l0 k (B (a ++ l)) s acc (a.length : Int)) x := by
  have hlr : r.length ≤ l.length := by have := skip_le l; rw [h] at this; exact this
  have hal : (a ++ l).length = a.length + l.length := List.length_append
  have hw : wrap64 (((a.length : Nat) : Int) + ((l.length - r.length : Nat) : Int)) = (((a ++ l).length - r.length : Nat) : Int) := by
    rw [wsum _ _ (by omega) (by omega)]
    congr 1
    omega
  refine Ev.step (f := fun k => (gussetref04_past.f k (B l)).bind fun bt273 => (if bt273.2 = true then (if (wrap64 ((a.length : Int) + bt273.1)) = ((B (a ++ l)).size : Int) then (some (acc, 0, 0)) else (if 0 ≤ (wrap64 ((a.length : Int) + bt273.1)) then (if (wrap64 ((a.length : Int) + bt273.1)) ≤ ((B (a ++ l)).size : Int) then ((gussetref04_next.f k ((B (a ++ l)).extract ((wrap64 ((a.length : Int) + bt273.1)) : Int).toNat (B (a ++ l)).size) s).bind fun bt275 => (if bt275.2.2.2.2.2 = 0 then (if acc.length < 3518437208883 then (gussetref04_Lex.l0 k (B (a ++ l)) s (acc ++ [(⟨bt275.1, bt275.2.1, bt275.2.2.1, wrap64 ((a.length : Int) + bt273.1)⟩ : S36)]) (wrap64 ((wrap64 ((a.length : Int) + bt273.1)) + bt275.2.2.2.2.1))) else (none)) else (some (([] : List S36), wrap64 ((a.length : Int) + bt273.1), bt275.2.2.2.2.2)))) else (none)) else (none))) else (some (([] : List S36), wrap64 ((a.length : Int) + bt273.1), 40)))) (fun k => ?_) ?_
  ·
   rw [gussetref04_Lex.l0, if_pos (by omega), if_pos (by rw [B_size]; omega), Int.toNat_natCast, B_drop, drop_len]
  refine Ev.bind (f := fun k bt273 => _) (past_f l (by omega)) ?_
  rw [h]
  unfold pastP
  simp only
  rw [hw]
  cases b with
  | false => exact hk
  | true =>
  obtain ⟨y, hy⟩ := skip_split h
  have hd : (a ++ l).drop (a ++ y).length = r := by rw [hy, ← List.append_assoc]; exact drop_len _ _
  have hll : (a ++ l).length = (a ++ y).length + r.length := by rw [hy]; simp only [List.length_append]; omega
  have hlx : (a ++ l).length - r.length = (a ++ y).length := by omega
  have hD : (B (a ++ l)).extract ((((a ++ l).length - r.length : Nat) : Int)).toNat (B (a ++ l)).size = B r := by rw [Int.toNat_natCast, B_drop, hlx, hd]
  simp only [hD]
  simp only [B_size, if_true, if_pos (show (0 : Int) ≤ (((a ++ l).length - r.length : Nat) : Int) by omega), if_pos (show (((a ++ l).length - r.length : Nat) : Int) ≤ (((a ++ l).length : Nat) : Int) by omega), if_pos (show acc.length < 3518437208883 by omega)]
  simp only [if_true] at hk
  exact hk
theorem ref_l0 (s : Bool) (l : L) : ∀ (a : L) (acc : List S36), (a ++ l).length ≤ 1073741824 → acc.length ≤ a.length → Ev (fun k => gussetref04_Lex.l0 k (B (a ++ l)) s acc (a.length : Int)) (srcP (a ++ l).length acc (lexS s l)) := by
  refine lex_ind s (P := fun l => ∀ (a : L) (acc : List S36), (a ++ l).length ≤ 1073741824 → acc.length ≤ a.length → Ev (fun k => gussetref04_Lex.l0 k (B (a ++ l)) s acc (a.length : Int)) (srcP (a ++ l).length acc (lexS s l))) ?_ ?_ ?_ ?_ _ l (Nat.le_refl _)
  ·
   intro l r h a acc hl ha
   refine ref_one s l a r false acc hl h _ ?_ ha
   rw [lex_open h]
   simp only [if_neg (show ¬ (false = true) by decide)]
   exact Ev.now _
  ·
   intro l h a acc hl ha
   refine ref_one s l a [] true acc hl h _ ?_ ha
   rw [lex_done h]
   simp only [if_true, List.length_nil, Nat.sub_zero]
   have : srcP (a ++ l).length acc (.ok []) = (acc, 0, 0) := by simp [srcP]
   rw [this]
   exact Ev.now _
  ·
   intro l r e h hr ht a acc hl ha
   have hrl := List.length_pos_iff.2 hr
   have hlr : r.length ≤ l.length := by have := skip_le l; rw [h] at this; exact this
   have hal : (a ++ l).length = a.length + l.length := List.length_append
   obtain ⟨x, hx, hq⟩ := next_q s r hr (by omega)
   rw [ht] at hq
   have hq : x.2.2.2.2.2 = (e : Int) := hq
   have he := tok_err ht
   refine ref_one s l a r true acc hl h _ ?_ ha
   simp only [if_true, if_neg (show ¬ (((a ++ l).length - r.length : Nat) : Int) = ((a ++ l).length : Int) by omega)]
   refine Ev.bind (f := fun k bt275 => _) hx ?_
   rw [lex_bad h hr ht]
   simp only [hq, if_neg (show ¬ ((e : Nat) : Int) = 0 by omega)]
   exact Ev.now _
  intro l r t n h hr ht ih a acc hl ha
  have hrl := List.length_pos_iff.2 hr
  have hlr : r.length ≤ l.length := by have := skip_le l; rw [h] at this; exact this
  have hal : (a ++ l).length = a.length + l.length := List.length_append
  obtain ⟨t1, t2, t3⟩ := tok_len ht
  obtain ⟨y, hy⟩ := skip_split h
  obtain ⟨x, hx, hq⟩ := next_q s r hr (by omega)
  rw [ht] at hq
  have hq : x = tokP (.ok (t, n)) := hq
  subst hq
  have hih := ih (a ++ y ++ r.take n) (acc ++ [tok36 (a ++ l).length (t, r.length)]) (by rw [List.append_assoc, List.take_append_drop, List.append_assoc, ← hy]; exact hl) (by simp only [List.length_append, List.length_take, List.length_cons, List.length_nil]; omega)
  rw [List.append_assoc (a ++ y), List.take_append_drop, List.append_assoc a y r, ← hy] at hih
  have hw : wrap64 ((((a ++ l).length - r.length : Nat) : Int) + ((n : Nat) : Int)) = ((a ++ y ++ r.take n).length : Nat) := by
    rw [wsum _ _ (by omega) (by omega)]
    have : (a ++ y ++ r.take n).length = (a ++ y).length + n := by rw [List.length_append, List.length_take]; omega
    have h3 : (a ++ l).length = (a ++ y).length + r.length := by rw [hy]; simp only [List.length_append]; omega
    rw [this]
    congr 1
    omega
  refine ref_one s l a r true acc hl h _ ?_ ha
  simp only [if_true, if_neg (show ¬ (((a ++ l).length - r.length : Nat) : Int) = ((a ++ l).length : Int) by omega)]
  refine Ev.bind (f := fun k bt275 => _) hx ?_
  rw [lex_step h hr ht, srcP_map]
  show Ev (fun k => if (0 : Int) = 0 then (gussetref04_Lex.l0 k (B (a ++ l)) s (acc ++ [tok36 (a ++ l).length (t, r.length)]) (wrap64 ((((a ++ l).length - r.length : Nat) : Int) + ((n : Nat) : Int)))) else _) _
  simp only [if_true]
  rw [hw]
  exact hih
theorem ref_ev (s : Bool) (l : L) (hl : l.length ≤ 1073741824) : Ev (fun k => gussetref04_Lex.f k (B l) s) (srcP l.length [] (lexS s l)) := by
  unfold gussetref04_Lex.f
  exact ref_l0 s l [] [] hl (Nat.le_refl _)
end Go.Proofs.YtbnpgobjbokboaaDoor.Lx
