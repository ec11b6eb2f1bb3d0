/- HO, as this claim needs it. -/
import Derived.Test.YtjcajpkgamolkaaDoorHJq
import Derived.Test.YtjcajpkgamolkaaDoorHLq
import Derived.Test.YtjcajpkgamolkaaDoorHKq
import Derived.Test.YtjcajpkgamolkaaDoorPTypx0q
import Derived.Test.YtjcajpkgamolkaaDoorPTypx1q
import Derived.Test.YtjcajpkgamolkaaDoorPTypx6q
import Derived.Test.YtjcajpkgamolkaaDoorHVq
import Derived.Test.YtjcajpkgamolkaaDoorPTypx12q
namespace Go.Proofs.YtjcajpkgamolkaaDoor.Ty
open Go.RowKit Go.Proofs.YtjcajpkgamolkaaDoor.PTyp Go.Proofs.YtjcajpkgamolkaaDoorW.PrintWords Go.Proofs.YtjcajpkgamolkaaDoorW.PrintLast Go.Proofs.YtjcajpkgamolkaaDoorW.PrintMore
set_option linter.unusedVariables false
set_option linter.unusedSimpArgs false
def Slot77 (c : Array Value) (i : Nat) : Prop := c[i * 4]? = some (.int .i64 77) ∧ c[i * 4 + 1]? = some (.int .i64 0) ∧ c[i * 4 + 2]? = some (.slice none 0 0) ∧ c[i * 4 + 3]? = some (.slice none 0 0)
def SlotSame (c' c : Array Value) (i : Nat) : Prop := c'[i * 4]? = c[i * 4]? ∧ c'[i * 4 + 1]? = c[i * 4 + 1]? ∧ c'[i * 4 + 2]? = c[i * 4 + 2]? ∧ c'[i * 4 + 3]? = c[i * 4 + 3]?
structure Wr (b g : Nat) (w w' : World) : Prop where
  below : Below b w w'
  high : ∀ k, g ≤ k → k < w.heap.size → w'.heap[k]? = w.heap[k]?
  str : ∀ k (cur : Array Value), b ≤ k → k < g → w.heap[k]? = some (.cells cur 9 (0, 0)) → ∃ cur' : Array Value, w'.heap[k]? = some (.cells cur' 9 (0, 0)) ∧ cur'.size = cur.size ∧ ∀ (i : Nat) (s : ByteArray), cur[i]? = some (Value.string s) → ∃ s' : ByteArray, cur'[i]? = some (Value.string s')
  typ : ∀ k (cur : Array Value), b ≤ k → k < g → w.heap[k]? = some (.cells cur 25 (0, 0)) → ∃ cur' : Array Value, w'.heap[k]? = some (.cells cur' 25 (0, 0)) ∧ cur'.size = cur.size ∧ ∀ i, SlotSame cur' cur i ∨ Slot77 cur' i
theorem SlotSame.refl (c : Array Value) (i : Nat) : SlotSame c c i := ⟨rfl, rfl, rfl, rfl⟩
theorem Wr.refl (b g : Nat) (w : World) : Wr b g w w := ⟨Below.refl _ _, fun _ _ _ => rfl, fun k cur _ _ h => ⟨cur, h, rfl, fun _ s h => ⟨s, h⟩⟩, fun k cur _ _ h => ⟨cur, h, rfl, fun _ => .inl (SlotSame.refl _ _)⟩⟩
theorem Wr.trans {b g : Nat} {w1 w2 w3 : World} (h1 : Wr b g w1 w2) (h2 : Wr b g w2 w3) : Wr b g w1 w3 := by
  refine ⟨h1.below.trans h2.below, fun k hk hs => (h2.high k hk (Nat.lt_of_lt_of_le hs h1.below.size)).trans (h1.high k hk hs), fun k cur hb hg h => ?_, fun k cur hb hg h => ?_⟩
  · obtain ⟨c1, e1, s1, q1⟩ := h1.str k cur hb hg h
    obtain ⟨c2, e2, s2, q2⟩ := h2.str k c1 hb hg e1
    refine ⟨c2, e2, s2.trans s1, fun i s hi => ?_⟩
    obtain ⟨s', hs'⟩ := q1 i s hi
    exact q2 i s' hs'
  · obtain ⟨c1, e1, s1, q1⟩ := h1.typ k cur hb hg h
    obtain ⟨c2, e2, s2, q2⟩ := h2.typ k c1 hb hg e1
    refine ⟨c2, e2, s2.trans s1, fun i => ?_⟩
    rcases q2 i with p2 | p2
    · rcases q1 i with p1 | p1
      · exact .inl ⟨p2.1.trans p1.1, p2.2.1.trans p1.2.1, p2.2.2.1.trans p1.2.2.1, p2.2.2.2.trans p1.2.2.2⟩
      · exact .inr ⟨p2.1.trans p1.1, p2.2.1.trans p1.2.1, p2.2.2.1.trans p1.2.2.1, p2.2.2.2.trans p1.2.2.2⟩
    · exact .inr p2
theorem Wr.of_below {b g : Nat} {w w' : World} (h : Below w.heap.size w w') (hb : b ≤ w.heap.size) (hg : g ≤ w.heap.size) : Wr b g w w' :=
  ⟨h.mono hb, fun k _ hs => h.block k hs, fun k cur _ hk e => ⟨cur, (h.block k (by omega)).trans e, rfl, fun _ s h => ⟨s, h⟩⟩, fun k cur _ hk e => ⟨cur, (h.block k (by omega)).trans e, rfl, fun _ => .inl (SlotSame.refl _ _)⟩⟩
theorem heap_set {w : World} {k o : Nat} {cur : Array Value} {e : TypeId} {fr : Nat × Nat} (h : w.heap[k]? = some (.cells cur e fr)) (v : Value) : (w.setCell ⟨k, o, none⟩ v).heap[k]? = some (.cells (cur.setIfInBounds o v) e fr) := by
  simp [World.setCell, Array.getElem?_modify, h]
theorem Wr.text {b g : Nat} {w : World} {k : Nat} {cur : Array Value} (hb : b ≤ k) (hk : k < g) (h : w.heap[k]? = some (.cells cur 9 (0, 0))) (o : Nat) (s : ByteArray) : Wr b g w (w.setCell ⟨k, o, none⟩ (.string s)) := by
  refine ⟨(Below.refl b w).setCell hb _, fun j hj _ => Below.heap_setCell _ _ _ _ (show j ≠ k by omega), fun j c _ hj e => ?_, fun j c _ hj e => ?_⟩
  · by_cases hjk : j = k
    · subst hjk
      rw [h] at e; injection e with e; injection e with e; subst e
      refine ⟨_, heap_set h _, by simp, fun i t hi => ?_⟩
      rw [Array.getElem?_setIfInBounds]
      split
      · split
        · exact ⟨s, rfl⟩
        · rename_i h1 h2; subst h1; rw [Array.getElem?_eq_none (by omega)] at hi; cases hi
      · exact ⟨t, hi⟩
    · exact ⟨c, (Below.heap_setCell _ _ _ _ (show j ≠ k from hjk)).trans e, rfl, fun _ s h => ⟨s, h⟩⟩
  · by_cases hjk : j = k
    · subst hjk
      rw [h] at e; injection e with e; injection e with _ e; cases e
    · exact ⟨c, (Below.heap_setCell _ _ _ _ (show j ≠ k from hjk)).trans e, rfl, fun _ => .inl (SlotSame.refl _ _)⟩
def put77 (w : World) (k i : Nat) : World := (((w.setCell ⟨k, i * 4, none⟩ (.int .i64 77)).setCell ⟨k, i * 4 + 1, none⟩ (.int .i64 0)).setCell ⟨k, i * 4 + 2, none⟩ (.slice none 0 0)).setCell ⟨k, i * 4 + 3, none⟩ (.slice none 0 0)
theorem Wr.slot {b g : Nat} {w : World} {k i : Nat} {cur : Array Value} (hb : b ≤ k) (hk : k < g) (h : w.heap[k]? = some (.cells cur 25 (0, 0))) (hi : i * 4 + 3 < cur.size) : Wr b g w (put77 w k i) := by
  have hp : (put77 w k i).heap[k]? = some (.cells ((((cur.setIfInBounds (i * 4) (.int .i64 77)).setIfInBounds (i * 4 + 1) (.int .i64 0)).setIfInBounds (i * 4 + 2) (.slice none 0 0)).setIfInBounds (i * 4 + 3) (.slice none 0 0)) 25 (0, 0)) := heap_set (heap_set (heap_set (heap_set h _) _) _) _
  have hf : ∀ j, j ≠ k → (put77 w k i).heap[j]? = w.heap[j]? := fun j hj => by
    unfold put77
    rw [Below.heap_setCell _ _ _ _ (show j ≠ k from hj), Below.heap_setCell _ _ _ _ (show j ≠ k from hj), Below.heap_setCell _ _ _ _ (show j ≠ k from hj), Below.heap_setCell _ _ _ _ (show j ≠ k from hj)]
  refine ⟨((((Below.refl b w).setCell hb _).setCell hb _).setCell hb _).setCell hb _, fun j hj _ => hf j (by omega), fun j c _ hj e => ?_, fun j c _ hj e => ?_⟩
  · by_cases hjk : j = k
    · subst hjk
      rw [h] at e; injection e with e; injection e with _ e; cases e
    · exact ⟨c, (hf j hjk).trans e, rfl, fun _ s h => ⟨s, h⟩⟩
  · by_cases hjk : j = k
    · subst hjk
      rw [h] at e; injection e with e; injection e with e; subst e
      refine ⟨_, hp, by simp, fun m => ?_⟩
      by_cases hm : m = i
      · subst hm
        refine .inr ⟨?_, ?_, ?_, ?_⟩
        · rw [Array.getElem?_setIfInBounds_ne (by omega), Array.getElem?_setIfInBounds_ne (by omega), Array.getElem?_setIfInBounds_ne (by omega), Array.getElem?_setIfInBounds_self_of_lt (by omega)]
        · rw [Array.getElem?_setIfInBounds_ne (by omega), Array.getElem?_setIfInBounds_ne (by omega), Array.getElem?_setIfInBounds_self_of_lt (by simp; omega)]
        · rw [Array.getElem?_setIfInBounds_ne (by omega), Array.getElem?_setIfInBounds_self_of_lt (by simp; omega)]
        · rw [Array.getElem?_setIfInBounds_self_of_lt (by simp; omega)]
      · refine .inl ⟨?_, ?_, ?_, ?_⟩ <;>
          rw [Array.getElem?_setIfInBounds_ne (by omega), Array.getElem?_setIfInBounds_ne (by omega), Array.getElem?_setIfInBounds_ne (by omega), Array.getElem?_setIfInBounds_ne (by omega)]
    · exact ⟨c, (hf j hjk).trans e, rfl, fun _ => .inl (SlotSame.refl _ _)⟩
def SRow (b g : Nat) (w : World) (A : Option Addr) (n : Nat) : Prop := 0 < n → ∃ k cur, A = some ⟨k, 0, none⟩ ∧ b ≤ k ∧ k < g ∧ w.heap[k]? = some (.cells cur 9 (0, 0)) ∧ n ≤ cur.size ∧ ∀ i, i < n → ∃ s, cur[i]? = some (.string s)
def TRow (b g : Nat) (P : Option Addr → Nat → Option Addr → Nat → Prop) (w : World) (A : Option Addr) (n : Nat) : Prop := 0 < n → ∃ k cur, A = some ⟨k, 0, none⟩ ∧ b ≤ k ∧ k < g ∧ w.heap[k]? = some (.cells cur 25 (0, 0)) ∧ n * 4 ≤ cur.size ∧ ∀ i, i < n → ∃ (f0 f1 : Int) (B2 : Option Addr) (m2 e2 : Nat) (B3 : Option Addr) (m3 e3 : Nat), cur[i * 4]? = some (.int .i64 f0) ∧ cur[i * 4 + 1]? = some (.int .i64 f1) ∧ cur[i * 4 + 2]? = some (.slice B2 m2 e2) ∧ cur[i * 4 + 3]? = some (.slice B3 m3 e3) ∧ P B2 m2 B3 m3
def Sp (b g : Nat) : Nat → World → Option Addr → Nat → Option Addr → Nat → Prop
  | 0, _, _, _, _, _ => False
  | d + 1, w, A2, n2, A3, n3 => n2 ≤ 1000000000000 ∧ n3 ≤ 1000000000000 ∧ SRow b g w A2 n2 ∧ TRow b g (Sp b g d w) w A3 n3
theorem SRow.keep {b g : Nat} {w w' : World} {A : Option Addr} {n : Nat} (h : SRow b g w A n) (hw : Wr b g w w') : SRow b g w' A n := by
  intro hn
  obtain ⟨k, cur, e, hb, hg, hh, hs, hc⟩ := h hn
  obtain ⟨cur', e', s', q'⟩ := hw.str k cur hb hg hh
  exact ⟨k, cur', e, hb, hg, e', by omega, fun i hi => by obtain ⟨s, hs⟩ := hc i hi; exact q' i s hs⟩
theorem sp_zero (b g d : Nat) (w : World) : Sp b g (d + 1) w none 0 none 0 := ⟨Nat.zero_le _, Nat.zero_le _, fun h => absurd h (by decide), fun h => absurd h (by decide)⟩
theorem Sp.keep {b g : Nat} : ∀ {d : Nat} {w w' : World} {A2 A3 : Option Addr} {n2 n3 : Nat}, Sp b g d w A2 n2 A3 n3 → Wr b g w w' → Sp b g d w' A2 n2 A3 n3
  | 0, _, _, _, _, _, _, h, _ => h
  | d + 1, w, w', A2, A3, n2, n3, h, hw => by
    obtain ⟨h1, h2, h3, h4⟩ := h
    refine ⟨h1, h2, h3.keep hw, fun hn => ?_⟩
    obtain ⟨k, cur, e, hb, hg, hh, hs, hc⟩ := h4 hn
    obtain ⟨cur', e', s', q'⟩ := hw.typ k cur hb hg hh
    refine ⟨k, cur', e, hb, hg, e', by omega, fun i hi => ?_⟩
    obtain ⟨f0, f1, B2, m2, e2, B3, m3, e3, c0, c1, c2, c3, hp⟩ := hc i hi
    rcases q' i with p | p
    · exact ⟨f0, f1, B2, m2, e2, B3, m3, e3, p.1.trans c0, p.2.1.trans c1, p.2.2.1.trans c2, p.2.2.2.trans c3, hp.keep hw⟩
    · refine ⟨77, 0, none, 0, 0, none, 0, 0, p.1, p.2.1, p.2.2.1, p.2.2.2, ?_⟩
      cases d with
      | zero => exact hp.elim
      | succ d => exact sp_zero _ _ _ _
theorem fixR25 {n : Nat} {w : World} {base : Nat} {ok : Nat → Prop} {v : Value} {xs : List Ty} (h : (Kd.upto F25 4 [9, 25] n).R 25 w base ok v xs) : k25.R 25 w base ok v xs := by
  obtain ⟨h0, inner, ho, hr⟩ := h
  rw [sz25 n] at ho hr
  exact ⟨h0, inner, ho, hr.imp_ (fun _ _ hp => ⟨n, hp⟩)⟩
theorem k25_openM {w : World} {base : Nat} {ok : Nat → Prop} {x : Ty} {cs : List Value} (h : k25.M w base ok x cs) : ∃ v2 v3, cs = [.int .i64 x.f0, .int .i64 x.f1, v2, v3] ∧ Kd.string.R 9 w base ok v2 x.f2 ∧ k25.R 25 w base ok v3 x.f3 := by
  obtain ⟨n, h⟩ := h
  cases n with
  | zero => exact h.elim
  | succ n =>
    obtain ⟨_, _, rfl, rfl, ⟨_, _, rfl, rfl, ⟨_, _, rfl, ⟨v2, rfl, g2⟩, ⟨v3, rfl, g3⟩⟩⟩⟩ := h
    exact ⟨v2, v3, rfl, g2, fixR25 g3⟩
theorem srow_of {b : Nat} {w : World} {ok : Nat → Prop} {v : Value} {xs : List ByteArray} (h : Kd.string.R 9 w b ok v xs) : ∃ A c, v = .slice A xs.length c ∧ SRow b w.heap.size w A xs.length := by
  obtain ⟨_, inner, ho, hr⟩ := h
  rcases ho.2 with ⟨e, h0⟩ | ⟨g, cap, cur, e, hg, hh, hc1, hc2, hc3, hc4⟩
  · exact ⟨none, 0, by rw [e, h0], fun hp => by omega⟩
  · refine ⟨_, _, e, fun hp => ⟨g, cur, rfl, hg, blk_lt hh, hh, by have : Kd.string.sz = 1 := rfl; rw [this] at hc3; omega, fun i hi => ?_⟩⟩
    have hM := hr.2 i xs[i] (List.getElem?_eq_getElem hi)
    have e1 : (inner.drop (i * 1)).take 1 = [.string xs[i]] := hM
    refine ⟨xs[i], ?_⟩
    have e2 : inner[i]? = some (.string xs[i]) := by
      have := congrArg (fun l : List Value => l[0]?) e1
      simpa using this
    rw [← hc4, List.getElem?_take] at e2
    have : Kd.string.sz = 1 := rfl
    rw [this, if_pos (by omega)] at e2
    simpa using e2
theorem sp_of {b : Nat} : ∀ (d : Nat) (t : Ty) (w : World) (ok2 ok3 : Nat → Prop) (v2 v3 : Value), wT t ≤ d → d ≤ 1000000000000 → Kd.string.R 9 w b ok2 v2 t.f2 → k25.R 25 w b ok3 v3 t.f3 → ∃ A2 c2 A3 c3, v2 = .slice A2 t.f2.length c2 ∧ v3 = .slice A3 t.f3.length c3 ∧ Sp b w.heap.size d w A2 t.f2.length A3 t.f3.length
  | 0, t, w, _, _, _, _, hd, _, _, _ => by have := wT_pos t; omega
  | d + 1, t, w, ok2, ok3, v2, v3, hd, hm, r2, r3 => by
    have hw := wT_is t
    have hl := wTs_len t.f3
    obtain ⟨A2, c2, e2, s2⟩ := srow_of r2
    obtain ⟨A3, c3, e3⟩ := Kd.R_slice r3
    refine ⟨A2, c2, A3, c3, e2, e3, by omega, by omega, s2, fun hp => ?_⟩
    obtain ⟨_, inner, ho, hr⟩ := r3
    rcases ho.2 with ⟨e, h0⟩ | ⟨g, cap, cur, e, hg, hh, hc1, hc2, hc3, hc4⟩
    · omega
    · rw [e3] at e; injection e with e _ _; subst e
      have hz : k25.sz = 4 := rfl
      rw [hz] at hc3 hc4
      refine ⟨g, cur, rfl, hg, blk_lt hh, hh, by omega, fun i hi => ?_⟩
      have hM := hr.2 i t.f3[i] (List.getElem?_eq_getElem hi)
      obtain ⟨u2, u3, eM, q2, q3⟩ := k25_openM hM
      have hx := wTs_mem (List.getElem_mem hi)
      obtain ⟨B2, e2', B3, e3', rfl, rfl, hS⟩ := sp_of d t.f3[i] w _ _ u2 u3 (by omega) (by omega) q2 q3
      have hc : ∀ j u, j < 4 → ((inner.drop (i * k25.sz)).take k25.sz)[j]? = some u → cur[i * 4 + j]? = some u := by
        intro j u hj hu
        rw [hz, List.getElem?_take, if_pos hj, List.getElem?_drop, ← hc4, List.getElem?_take, if_pos (by omega)] at hu
        simpa using hu
      rw [eM] at hc
      exact ⟨_, _, B2, _, e2', B3, _, e3', hc 0 _ (by omega) rfl, hc 1 _ (by omega) rfl, hc 2 _ (by omega) rfl, hc 3 _ (by omega) rfl, hS⟩
end Go.Proofs.YtjcajpkgamolkaaDoor.Ty
namespace Go.Proofs.YtjcajpkgamolkaaDoor.Ty
open Go.RowKit Go.Proofs.YtjcajpkgamolkaaDoor.PTyp Go.Proofs.YtjcajpkgamolkaaDoorW.PrintWords Go.Proofs.YtjcajpkgamolkaaDoorW.PrintLast Go.Proofs.YtjcajpkgamolkaaDoorW.PrintMore
set_option linter.unusedVariables false
set_option linter.unusedSimpArgs false
theorem SRow.at {b g : Nat} {w : World} {A : Option Addr} {n : Nat} (h : SRow b g w A n) {i : Nat} (hi : i < n) : ∃ ad s, A = some ad ∧ w.cell? (ad.add i) = some (.string s) ∧ w.frozen? (ad.add i) = false ∧ ∀ u, Wr b g w (w.setCell (ad.add i) (.string u)) := by
  obtain ⟨k, cur, e, hb, hg, hh, hs, hc⟩ := h (by omega)
  obtain ⟨s, hx⟩ := hc i hi
  have ea : (⟨k, 0, none⟩ : Addr).add i = ⟨k, i, none⟩ := add_plain _ _
  refine ⟨_, s, e, ?_, ?_, fun u => ?_⟩
  · rw [ea]; exact (blk_cell hh i).trans hx
  · rw [ea]; exact blk_frozen hh i
  · rw [ea]; exact Wr.text hb hg hh i u
theorem TRow.at {b g : Nat} {P : Option Addr → Nat → Option Addr → Nat → Prop} {w : World} {A : Option Addr} {n : Nat} (h : TRow b g P w A n) {i : Nat} (hi : i < n) : ∃ (ad : Addr) (f0 f1 : Int) (B2 : Option Addr) (m2 e2 : Nat) (B3 : Option Addr) (m3 e3 : Nat), A = some ad ∧ (w.cell? (ad.add (i * 4)) = some (.int .i64 f0) ∧ w.cell? ⟨(ad.add (i * 4)).block, (ad.add (i * 4)).off + 1, none⟩ = some (.int .i64 f1) ∧ w.cell? ⟨(ad.add (i * 4)).block, (ad.add (i * 4)).off + 2, none⟩ = some (.slice B2 m2 e2) ∧ w.cell? ⟨(ad.add (i * 4)).block, (ad.add (i * 4)).off + 3, none⟩ = some (.slice B3 m3 e3)) ∧ (w.frozen? (ad.add (i * 4)) = false ∧ w.frozen? ⟨(ad.add (i * 4)).block, (ad.add (i * 4)).off + 1, none⟩ = false ∧ w.frozen? ⟨(ad.add (i * 4)).block, (ad.add (i * 4)).off + 2, none⟩ = false ∧ w.frozen? ⟨(ad.add (i * 4)).block, (ad.add (i * 4)).off + 3, none⟩ = false) ∧ P B2 m2 B3 m3 ∧ Wr b g w ((((w.setCell (ad.add (i * 4)) (.int .i64 77)).setCell ⟨(ad.add (i * 4)).block, (ad.add (i * 4)).off + 1, none⟩ (.int .i64 0)).setCell ⟨(ad.add (i * 4)).block, (ad.add (i * 4)).off + 2, none⟩ (.slice none 0 0)).setCell ⟨(ad.add (i * 4)).block, (ad.add (i * 4)).off + 3, none⟩ (.slice none 0 0)) ∧ ((w.setCell (ad.add (i * 4)) (.int .i64 77)).cell? ⟨(ad.add (i * 4)).block, (ad.add (i * 4)).off + 1, none⟩ = some (.int .i64 f1) ∧ ((w.setCell (ad.add (i * 4)) (.int .i64 77)).setCell ⟨(ad.add (i * 4)).block, (ad.add (i * 4)).off + 1, none⟩ (.int .i64 0)).cell? ⟨(ad.add (i * 4)).block, (ad.add (i * 4)).off + 2, none⟩ = some (.slice B2 m2 e2) ∧ (((w.setCell (ad.add (i * 4)) (.int .i64 77)).setCell ⟨(ad.add (i * 4)).block, (ad.add (i * 4)).off + 1, none⟩ (.int .i64 0)).setCell ⟨(ad.add (i * 4)).block, (ad.add (i * 4)).off + 2, none⟩ (.slice none 0 0)).cell? ⟨(ad.add (i * 4)).block, (ad.add (i * 4)).off + 3, none⟩ = some (.slice B3 m3 e3)) ∧ ((w.setCell (ad.add (i * 4)) (.int .i64 77)).frozen? ⟨(ad.add (i * 4)).block, (ad.add (i * 4)).off + 1, none⟩ = false ∧ ((w.setCell (ad.add (i * 4)) (.int .i64 77)).setCell ⟨(ad.add (i * 4)).block, (ad.add (i * 4)).off + 1, none⟩ (.int .i64 0)).frozen? ⟨(ad.add (i * 4)).block, (ad.add (i * 4)).off + 2, none⟩ = false ∧ (((w.setCell (ad.add (i * 4)) (.int .i64 77)).setCell ⟨(ad.add (i * 4)).block, (ad.add (i * 4)).off + 1, none⟩ (.int .i64 0)).setCell ⟨(ad.add (i * 4)).block, (ad.add (i * 4)).off + 2, none⟩ (.slice none 0 0)).frozen? ⟨(ad.add (i * 4)).block, (ad.add (i * 4)).off + 3, none⟩ = false) := by
  obtain ⟨k, cur, e, hb, hg, hh, hs, hc⟩ := h (by omega)
  obtain ⟨f0, f1, B2, m2, e2, B3, m3, e3, c0, c1, c2, c3, hp⟩ := hc i hi
  have ea : (⟨k, 0, none⟩ : Addr).add (i * 4) = ⟨k, i * 4, none⟩ := add_plain _ _
  have h1 := heap_set (o := i * 4) hh (.int .i64 77)
  have h2 := heap_set (o := i * 4 + 1) h1 (.int .i64 0)
  have h3 := heap_set (o := i * 4 + 2) h2 (.slice none 0 0)
  refine ⟨_, f0, f1, B2, m2, e2, B3, m3, e3, e, ?_, ?_, hp, ?_, ?_, ?_⟩
  · rw [ea]; exact ⟨(blk_cell hh _).trans c0, (blk_cell hh _).trans c1, (blk_cell hh _).trans c2, (blk_cell hh _).trans c3⟩
  · rw [ea]; exact ⟨blk_frozen hh _, blk_frozen hh _, blk_frozen hh _, blk_frozen hh _⟩
  · rw [ea]; exact Wr.slot hb hg hh (by omega)
  · rw [ea]
    refine ⟨(blk_cell h1 _).trans ?_, (blk_cell h2 _).trans ?_, (blk_cell h3 _).trans ?_⟩
    · show _ = _; rw [Array.getElem?_setIfInBounds_ne (show i * 4 ≠ i * 4 + 1 by omega)]; exact c1
    · rw [Array.getElem?_setIfInBounds_ne (show i * 4 + 1 ≠ i * 4 + 2 by omega), Array.getElem?_setIfInBounds_ne (show i * 4 ≠ i * 4 + 2 by omega)]; exact c2
    · rw [Array.getElem?_setIfInBounds_ne (show i * 4 + 2 ≠ i * 4 + 3 by omega), Array.getElem?_setIfInBounds_ne (show i * 4 + 1 ≠ i * 4 + 3 by omega), Array.getElem?_setIfInBounds_ne (show i * 4 ≠ i * 4 + 3 by omega)]; exact c3
  · rw [ea]; exact ⟨blk_frozen h1 _, blk_frozen h2 _, blk_frozen h3 _⟩
set_option maxHeartbeats 4000000 in
set_option maxRecDepth 100000 in
theorem spoil_calls (b g : Nat) (hbg : b ≤ g) (d : Nat) : ∀ (f0 f1 : Int) (A2 : Option Addr) (n2 c2 : Nat) (A3 : Option Addr) (n3 c3 : Nat) (w : World), g ≤ w.heap.size → Sp b g d w A2 n2 A3 n3 →
    Calls Tryd.prog 27 #[.agg #[.int .i64 f0, .int .i64 f1, .slice A2 n2 c2, .slice A3 n3 c3]] w fun e w' => e = .returned (.tuple #[]) ∧ Wr b g w w' := by
  have hu25 := Tryd.underlying25
  induction d with
  | zero => intro f0 f1 A2 n2 c2 A3 n3 c3 w hg hs; exact hs.elim
  | succ d ih =>
    intro f0 f1 A2 n2 c2 A3 n3 c3 w hg hs
    have IH := Aside0.mk ih
    have HBG := Aside0.mk hbg
    have HG := Aside0.mk hg
    have BX := Aside0.mk (heap_alloc_new w (.cells #[.int .i64 f0, .int .i64 f1, .slice A2 n2 c2, .slice A3 n3 c3] 25))
    have HW := Aside0.mk (Wr.of_below (b := b) (g := g) (below_alloc (Below.refl w.heap.size w) (.cells #[.int .i64 f0, .int .i64 f1, .slice A2 n2 c2, .slice A3 n3 c3] 25)) (by omega) hg)
    have hn2 := hs.1
    have hn3 := hs.2.1
    have HS := Aside0.mk hs
    clear ih hbg hg hs
    obtain ⟨⟨t0, t1, t2, t3⟩, _⟩ := box4T BX.out
    go_enter Tryd.func27, Tryd.ntmps27
    go_wp2
    go_loopw [2] (fun v2 W => ∃ i : Nat, v2 = .int .i64 i ∧ i ≤ n2 ∧ Aside0 (Wr b g w W) ∧ Aside0 (W.heap[w.heap.size]? = some (.cells #[.int .i64 f0, .int .i64 f1, .slice A2 n2 c2, .slice A3 n3 c3] 25))) (fun v2 _ => n2 + 1 - (RowKit.intOf v2).toNat)
    case atStart => exact ⟨0, rfl, Nat.zero_le _, HW, BX⟩
    case round =>
      clear HW BX t0 t1 t2 t3
      obtain ⟨i, rfl, hin, HW, BX⟩ := hrel
      have hge : ((0 : Int) ≤ (i : Int)) = True := by simp
      have hib : i ≤ 1000000000000 := by omega
      obtain ⟨⟨t0, t1, t2, t3⟩, _⟩ := box4T BX.out
      by_cases hi : i < n2
      · have hlt : ((i : Int) < (n2 : Int)) = True := eq_true (by omega)
        have hlt1 : (i < n2) = True := eq_true hi
        obtain ⟨ad, s, e, q, fr, hx⟩ := SRow.at (HS.out.keep HW.out).2.2.1 hi
        subst e
        have HX := Aside0.mk (hx ⟨#[115, 112, 111, 105, 108, 116]⟩)
        clear hx
        go_wp2
        go_roundw
        case measure => simp [RowKit.intOf]; omega
        case rel => exact ⟨i + 1, by go_num, hi, ⟨HW.out.trans HX.out⟩, ⟨(HX.out.high _ HG.out (blk_lt BX.out)).trans BX.out⟩⟩
      · have hlt : ((i : Int) < (n2 : Int)) = False := eq_false (by omega)
        have hlt1 : (i < n2) = False := eq_false hi
        clear hge hib hin hi
        go_wp2
        go_loopw [3] (fun v3 W => ∃ i : Nat, v3 = .int .i64 i ∧ i ≤ n3 ∧ Aside0 (Wr b g w W) ∧ Aside0 (W.heap[w.heap.size]? = some (.cells #[.int .i64 f0, .int .i64 f1, .slice A2 n2 c2, .slice A3 n3 c3] 25))) (fun v3 _ => n3 + 1 - (RowKit.intOf v3).toNat)
        case atStart => exact ⟨0, rfl, Nat.zero_le _, HW, BX⟩
        case round =>
          clear HW BX t0 t1 t2 t3 hlt hlt1
          obtain ⟨j, rfl, hjn, HW, BX⟩ := hrel
          have hge : ((0 : Int) ≤ (j : Int)) = True := by simp
          have hjb : j ≤ 1000000000000 := by omega
          obtain ⟨⟨t0, t1, t2, t3⟩, _⟩ := box4T BX.out
          by_cases hj : j < n3
          · have hlt : ((j : Int) < (n3 : Int)) = True := eq_true (by omega)
            have hlt1 : (j < n3) = True := eq_true hj
            obtain ⟨ad, e0, e1, B2, m2, d2, B3, m3, d3, e, ⟨q0, q1, q2, q3⟩, _, hp, _, _⟩ := TRow.at (HS.out.keep HW.out).2.2.2 hj
            subst e
            have HP := Aside0.mk hp
            clear hp
            go_wp2_with (go_at_call 27; refine holdT_ ?_)
            unfold HeldT
            refine (IH.out e0 e1 B2 m2 d2 B3 m3 d3 _ (Nat.le_trans HG.out (Nat.le_of_lt (Nat.lt_of_lt_of_le (blk_lt BX.out) (Nat.le_refl _)))) HP.out).mono ?_
            rintro e w1 ⟨rfl, hw⟩
            have nBX := Aside0.mk ((hw.high _ HG.out (blk_lt BX.out)).trans BX.out)
            have nHW := Aside0.mk (HW.out.trans hw)
            clear HW BX q0 q1 q2 q3 t0 t1 t2 t3 HP hw
            have HW := nHW
            have BX := nBX
            clear nHW nBX
            obtain ⟨⟨t0, t1, t2, t3⟩, _⟩ := box4T BX.out
            obtain ⟨ad', x0, x1, C2, k2, l2, C3, k3, l3, e, ⟨q0, q1, q2, q3⟩, ⟨r0, r1, r2, r3⟩, _, hx, ⟨g1, g2, g3⟩, ⟨y1, y2, y3⟩⟩ := TRow.at (HS.out.keep HW.out).2.2.2 hj
            injection e with e
            subst e
            have HX := Aside0.mk hx
            clear hx
            go_wp2
            go_roundw
            case measure => simp [RowKit.intOf]; omega
            case rel => exact ⟨j + 1, by go_num, hj, ⟨HW.out.trans HX.out⟩, ⟨(HX.out.high _ HG.out (blk_lt BX.out)).trans BX.out⟩⟩
          · have hlt : ((j : Int) < (n3 : Int)) = False := eq_false (by omega)
            have hlt1 : (j < n3) = False := eq_false hj
            go_wp2
            exact bodyPost_end (results_none rfl _ _ _) rfl ⟨rfl, HW.out⟩
end Go.Proofs.YtjcajpkgamolkaaDoor.Ty
namespace Go.Proofs.YtjcajpkgamolkaaDoor.Ty
open Go.RowKit Go.Proofs.YtjcajpkgamolkaaDoor.PTyp Go.Proofs.YtjcajpkgamolkaaDoorW.PrintWords Go.Proofs.YtjcajpkgamolkaaDoorW.PrintLast Go.Proofs.YtjcajpkgamolkaaDoorW.PrintMore
set_option linter.unusedVariables false
set_option linter.unusedSimpArgs false
end Go.Proofs.YtjcajpkgamolkaaDoor.Ty
namespace Go.Proofs.YtjcajpkgamolkaaDoor.Ty
open Go.RowKit Go.Proofs.YtjcajpkgamolkaaDoor.PTyp Go.Proofs.YtjcajpkgamolkaaDoorW.PrintWords Go.Proofs.YtjcajpkgamolkaaDoorW.PrintLast Go.Proofs.YtjcajpkgamolkaaDoorW.PrintMore
set_option linter.unusedVariables false
set_option linter.unusedSimpArgs false
theorem same_ev5 (a : Ty) (wa : wT a ≤ 1099511627776) : Ev (fun k => gussetlaw14_same.f k a.f0 a.f1 a.f2 a.f3 a.f0 a.f1 a.f2 a.f3) true := by
  unfold gussetlaw14_same.f
  refine Ev.bind (f := fun k _ => _) (rcmp_ev a a wa wa) ?_
  rw [cmpT_self]
  exact Ev.now _
theorem RowsK.now {w0 W : World} {g : Nat} {t : Ty} {A2 A3 : Option Addr} {c2 c3 : Nat} (h : RowsK w0 W g t A2 c2 A3 c3) (hW : Below w0.heap.size w0 W) : RowsT W t A2 c2 A3 c3 := h.stay hW hW (fun _ _ _ => rfl)
end Go.Proofs.YtjcajpkgamolkaaDoor.Ty
