/- The heap of the program, told: what stands in the blocks; which blocks are its own; what stays and what turns. -/
import Derived.Test.YtjbolkkbehfnmaaDoorPValx0
namespace Go.Proofs.YtjbolkkbehfnmaaDoor.Val
open Go.RowKit Go.Proofs.YtjbolkkbehfnmaaDoor.PVal Go.Proofs.YtjbolkkbehfnmaaDoorW.PrintWords Go.Proofs.YtjbolkkbehfnmaaDoorW.PrintLast Go.Proofs.YtjbolkkbehfnmaaDoorW.PrintMore
set_option linter.unusedVariables false
set_option linter.unusedSimpArgs false

/-- Between w and w' only blocks of O have turned; new ones stand behind. -/
structure Chg (O : Nat → Prop) (w w' : World) : Prop where
  os : w'.os = w.os
  tape : w'.tape = w.tape
  output : w'.output = w.output
  size : w.heap.size ≤ w'.heap.size
  block : ∀ k, k < w.heap.size → ¬ O k → w'.heap[k]? = w.heap[k]?
def No : Nat → Prop := fun _ => False
theorem Chg.refl (O : Nat → Prop) (w : World) : Chg O w w := ⟨rfl, rfl, rfl, Nat.le_refl _, fun _ _ _ => rfl⟩
theorem Chg.trans {O Q : Nat → Prop} {a b c : World} (h : Chg O a b) (k : Chg Q b c) : Chg (fun x => O x ∨ (Q x ∧ x < a.heap.size)) a c :=
  ⟨k.os.trans h.os, k.tape.trans h.tape, k.output.trans h.output, Nat.le_trans h.size k.size, fun i hi ho => (k.block i (Nat.lt_of_lt_of_le hi h.size) (fun q => ho (Or.inr ⟨q, hi⟩))).trans (h.block i hi (fun q => ho (Or.inl q)))⟩
theorem Chg.mono {O Q : Nat → Prop} {a b : World} (h : Chg O a b) (hq : ∀ k, k < a.heap.size → O k → Q k) : Chg Q a b := ⟨h.os, h.tape, h.output, h.size, fun i hi ho => h.block i hi (fun q => ho (hq i hi q))⟩
theorem Chg.of_below {O : Nat → Prop} {a b : World} (h : Below a.heap.size a b) : Chg O a b := ⟨h.os, h.tape, h.output, h.size, fun i hi _ => h.block i hi⟩
theorem Chg.below {O : Nat → Prop} {B : Nat} {a b : World} (h : Chg O a b) (hB : B ≤ a.heap.size) (ho : ∀ k, O k → B ≤ k) : Below B a b := ⟨h.os, h.tape, h.output, h.size, fun i hi => h.block i (by omega) (fun q => by have := ho i q; omega)⟩
theorem Chg.of_grown {a b : World} {row : Option Nat} {O : Nat → Prop} (h : a.grownBy b row) (hr : ∀ k, row = some k → O k) : Chg O a b := ⟨h.os, h.tape, h.output, h.size, fun i hi ho => h.block i hi (fun e => ho (hr i e.symm))⟩
theorem Chg.alloc (O : Nat → Prop) (w : World) (o : Obj) : Chg O w (w.alloc o) := Chg.of_grown (World.grownBy_alloc w o none) (by simp)
theorem Chg.drewN (O : Nat → Prop) (w : World) (n : Nat) : Chg O w (w.drewN n) := Chg.of_below (pw_below_drewN (Below.refl _ _) n)
theorem Chg.setCell {O : Nat → Prop} (w : World) (a : Addr) (u : Value) (h : O a.block) : Chg O w (w.setCell a u) :=
  ⟨rfl, rfl, rfl, by simp [World.setCell], fun k _ ho => Below.heap_setCell w a u k (fun e => ho (e ▸ h))⟩
theorem Chg.cell {O : Nat → Prop} {a b : World} (h : Chg O a b) {p : Addr} {v : Value} (hc : a.cell? p = some v) (ho : ¬ O p.block) : b.cell? p = some v :=
  (World.cell?_of_block (h.block p.block (World.block_lt_of_cell? a p hc) ho)).trans hc
theorem Chg.blk {O : Nat → Prop} {a b : World} (h : Chg O a b) {k : Nat} {o : Obj} (hc : a.heap[k]? = some o) (ho : ¬ O k) : b.heap[k]? = some o :=
  (h.block k (Array.getElem?_eq_some_iff.1 hc).1 ho).trans hc

/-- What a place of the heap holds. -/
inductive Th where
  | arr (l : List S32)
  | obj (kv : List (ByteArray × S32))
instance : Inhabited Th := ⟨.arr []⟩
def thEnc : Bool × Nat → Value := fun x => if x.1 = true then .iface 55 (.pointer (some ⟨x.2, 0, none⟩)) else .iface 61 (.pointer (some ⟨x.2, 0, none⟩))
theorem thEnc_one (x : Bool × Nat) : (thEnc x).oneCell' = true := by
  unfold thEnc
  split <;> rfl
def kTh : Kd (Bool × Nat) := Kd.scalar thEnc thEnc_one
/-- A row without rows inside hangs on its own block alone. -/
theorem own_only {α : Type} {d : Kd α} {e base : Nat} {ok : Nat → Prop} {w : World} {v : Value} {xs : List α} (hd : ∀ {ok1 ok2 : Nat → Prop} {x : α} {cs : List Value}, d.M w base ok1 x cs → d.M w base ok2 x cs) (h : d.R e w base ok v xs) : d.R e w base (fun k => ok k ∧ some k = v.ownBlock) v xs :=
  ⟨fun k hk => ⟨h.1 k hk, hk.symm⟩, h.2.imp_ (fun _ _ hp => hd hp)⟩
theorem kTh_only {e base : Nat} {ok : Nat → Prop} {w : World} {v : Value} {xs : List (Bool × Nat)} (h : kTh.R e w base ok v xs) : kTh.R e w base (fun k => ok k ∧ some k = v.ownBlock) v xs := own_only (fun h => h) h
theorem k32_any {w : World} {base : Nat} {ok1 ok2 : Nat → Prop} {x : S32} {cs : List Value} (h : k32.M w base ok1 x cs) : k32.M w base ok2 x cs := by
  rw [k32_openM h]
  exact k32_mkM w base ok2 x
theorem k32_only {e base : Nat} {ok : Nat → Prop} {w : World} {v : Value} {xs : List S32} (h : k32.R e w base ok v xs) : k32.R e w base (fun k => ok k ∧ some k = v.ownBlock) v xs := own_only k32_any h
def enc (x : S32) : Value := .agg #[.int .i64 x.f0, .int .i64 x.f1, .string x.f2]
/-- The entries of a map's block, one behind the other. -/
def Ents (es : Array MapEntry) (kv : List (ByteArray × S32)) : Prop := es.toList.map (fun e => (e.key, e.val)) = kv.map (fun p => (Value.string p.1, enc p.2))
/-- A thing, and that all its blocks are in O. -/
def PT (w : World) (O : Nat → Prop) (x : Bool × Nat) : Th → Prop
  | .arr l => x.1 = false ∧ O x.2 ∧ ∃ v, w.heap[x.2]? = some (.cells #[v] 65 (0, 0)) ∧ k32.R 32 w 0 O v l
  | .obj kv => x.1 = true ∧ O x.2 ∧ ∃ m es c, w.heap[x.2]? = some (.cells #[.map (some m)] 60 (0, 0)) ∧ O m ∧ w.heap[m]? = some (.map es c) ∧ Ents es kv
theorem PT.step {w w' : World} {O : Nat → Prop} {x : Bool × Nat} {t : Th} (h : PT w O x t) (hm : ∀ k, O k → k < w.heap.size → w'.heap[k]? = w.heap[k]?) : PT w' O x t := by
  cases t with
  | arr l =>
    obtain ⟨h1, h2, v, hb, hr⟩ := h
    exact ⟨h1, h2, v, (hm _ h2 (Array.getElem?_eq_some_iff.1 hb).1).trans hb, Kd.R_step hr hm⟩
  | obj kv =>
    obtain ⟨h1, h2, m, es, c, hb, hm1, he, hk⟩ := h
    exact ⟨h1, h2, m, es, c, (hm _ h2 (Array.getElem?_eq_some_iff.1 hb).1).trans hb, hm1, (hm _ hm1 (Array.getElem?_eq_some_iff.1 he).1).trans he, hk⟩
theorem PT.mono {w : World} {O Q : Nat → Prop} {x : Bool × Nat} {t : Th} (h : PT w O x t) (hq : ∀ k, O k → k < w.heap.size → Q k) : PT w Q x t := by
  cases t with
  | arr l =>
    obtain ⟨h1, h2, v, hb, hr⟩ := h
    exact ⟨h1, hq _ h2 (Array.getElem?_eq_some_iff.1 hb).1, v, hb, Kd.R_mono (Kd.R_bound hr) (fun k hk => hq k hk.1 hk.2.2.1)⟩
  | obj kv =>
    obtain ⟨h1, h2, m, es, c, hb, hm1, he, hk⟩ := h
    exact ⟨h1, hq _ h2 (Array.getElem?_eq_some_iff.1 hb).1, m, es, c, hb, hq _ hm1 (Array.getElem?_eq_some_iff.1 he).1, he, hk⟩

/-- The heap at block p: its things' row v, the things' places xs, their blocks Os; all its blocks are in O. -/
structure HPw (w : World) (O : Nat → Prop) (p : Nat) (v : Value) (xs : List (Bool × Nat)) (Os : Nat → Nat → Prop) (D : List Th) : Prop where
  hdr : w.heap[p]? = some (.cells #[v] 52 (0, 0))
  po : O p
  row : kTh.R 75 w 0 O v xs
  len : xs.length = D.length
  th : ∀ i t, D[i]? = some t → PT w (Os i) (xs.getD i (false, 0)) t
  sub : ∀ i k, Os i k → O k ∧ k < w.heap.size
  dis : ∀ i j k, i ≠ j → Os i k → ¬ Os j k
  nop : ∀ i, ¬ Os i p
  nor : ∀ i k, v.ownBlock = some k → ¬ Os i k
def HP (w : World) (O : Nat → Prop) (p : Nat) (D : List Th) : Prop := ∃ v xs Os, HPw w O p v xs Os D
section
variable {w w' : World} {O Q : Nat → Prop} {p : Nat} {v : Value} {xs : List (Bool × Nat)} {Os : Nat → Nat → Prop} {D : List Th}
theorem HPw.plt (h : HPw w O p v xs Os D) : p < w.heap.size := (Array.getElem?_eq_some_iff.1 h.hdr).1
theorem HPw.row_lt (h : HPw w O p v xs Os D) {k : Nat} (hk : v.ownBlock = some k) : k < w.heap.size ∧ O k := ⟨Kd.R_lt h.row k hk, h.row.1 k hk⟩
theorem HPw.row_ne (h : HPw w O p v xs Os D) : v.ownBlock ≠ some p := fun e => Kd.R_ne h.row h.hdr (by decide) e.symm
/-- It stays where none of its blocks turns. -/
theorem HPw.step (h : HPw w O p v xs Os D) (hm : ∀ k, O k → k < w.heap.size → w'.heap[k]? = w.heap[k]?) (hs : w.heap.size ≤ w'.heap.size) : HPw w' O p v xs Os D where
  hdr := (hm p h.po h.plt).trans h.hdr
  po := h.po
  row := Kd.R_step h.row hm
  len := h.len
  th := fun i t ht => (h.th i t ht).step (fun k hk hlt => hm k (h.sub i k hk).1 hlt)
  sub := fun i k hk => ⟨(h.sub i k hk).1, Nat.lt_of_lt_of_le (h.sub i k hk).2 hs⟩
  dis := h.dis
  nop := h.nop
  nor := h.nor
theorem HPw.keep (h : HPw w O p v xs Os D) (hc : Chg Q w w') (hd : ∀ k, O k → k < w.heap.size → ¬ Q k) : HPw w' O p v xs Os D := h.step (fun k hk hlt => hc.block k hlt (hd k hk hlt)) hc.size
theorem HPw.mono (h : HPw w O p v xs Os D) (hq : ∀ k, O k → k < w.heap.size → Q k) : HPw w Q p v xs Os D where
  hdr := h.hdr
  po := hq p h.po h.plt
  row := Kd.R_mono (Kd.R_bound h.row) (fun k hk => hq k hk.1 hk.2.2.1)
  len := h.len
  th := h.th
  sub := fun i k hk => ⟨hq k (h.sub i k hk).1 (h.sub i k hk).2, (h.sub i k hk).2⟩
  dis := h.dis
  nop := h.nop
  nor := h.nor
theorem HP.keep (h : HP w O p D) (hc : Chg Q w w') (hd : ∀ k, O k → k < w.heap.size → ¬ Q k) : HP w' O p D := by
  obtain ⟨v, xs, Os, h⟩ := h
  exact ⟨v, xs, Os, h.keep hc hd⟩
theorem HP.mono (h : HP w O p D) (hq : ∀ k, O k → k < w.heap.size → Q k) : HP w Q p D := by
  obtain ⟨v, xs, Os, h⟩ := h
  exact ⟨v, xs, Os, h.mono hq⟩
/-- What it owns behind a call: what it owned, and what is new. -/
def Grow (O : Nat → Prop) (w w' : World) : Nat → Prop := fun k => (O k ∧ k < w.heap.size) ∨ (w.heap.size ≤ k ∧ k < w'.heap.size)
/-- One thing has turned. -/
theorem HPw.upd (h : HPw w O p v xs Os D) {n : Nat} {t : Th} (hc : Chg (Os n) w w') (ht : PT w' (fun k => Os n k ∨ w.heap.size ≤ k) (xs.getD n (false, 0)) t) :
    HPw w' (Grow O w w') p v xs (fun i k => if i = n then (Os n k ∨ (w.heap.size ≤ k ∧ k < w'.heap.size)) else Os i k) (D.set n t) where
  hdr := hc.blk h.hdr (h.nop n)
  po := Or.inl ⟨h.po, h.plt⟩
  row := Kd.R_mono (Kd.R_step (kTh_only (Kd.R_mono (Kd.R_bound h.row) (ok' := fun k => O k ∧ k < w.heap.size) (fun k hk => ⟨hk.1, hk.2.2.1⟩))) (fun k hk hlt => hc.block k hlt (h.nor n k hk.2.symm))) (fun k hk => Or.inl hk.1)
  len := by rw [List.length_set]; exact h.len
  th := by
    intro i t' hi
    rw [List.getElem?_set] at hi
    by_cases e : n = i
    · subst e
      simp only [if_true] at hi ⊢
      split at hi
      · injection hi with hi
        subst hi
        exact ht.mono (fun k hk hlt => hk.imp id (fun h => ⟨h, hlt⟩))
      · cases hi
    · rw [if_neg e] at hi
      simp only [if_neg (Ne.symm e)]
      exact (h.th i t' hi).step (fun k hk hlt => hc.block k hlt (h.dis i n k (Ne.symm e) hk))
  sub := by
    intro i k hk
    by_cases e : i = n
    · simp only [if_pos e] at hk
      rcases hk with hk | hk
      · exact ⟨Or.inl (h.sub n k hk), Nat.lt_of_lt_of_le (h.sub n k hk).2 hc.size⟩
      · exact ⟨Or.inr hk, hk.2⟩
    · simp only [if_neg e] at hk
      exact ⟨Or.inl (h.sub i k hk), Nat.lt_of_lt_of_le (h.sub i k hk).2 hc.size⟩
  dis := by
    intro i j k hij h1 h2
    by_cases e : i = n
    · simp only [if_pos e] at h1
      simp only [if_neg (show ¬ j = n from fun e2 => hij (e.trans e2.symm))] at h2
      rcases h1 with h1 | h1
      · exact h.dis n j k (e ▸ hij) h1 h2
      · have := (h.sub j k h2).2; omega
    · simp only [if_neg e] at h1
      by_cases e2 : j = n
      · simp only [if_pos e2] at h2
        rcases h2 with h2 | h2
        · exact h.dis i n k e h1 h2
        · have := (h.sub i k h1).2; omega
      · simp only [if_neg e2] at h2
        exact h.dis i j k hij h1 h2
  nop := by
    intro i hk
    by_cases e : i = n
    · simp only [if_pos e] at hk
      rcases hk with hk | hk
      · exact h.nop n hk
      · have := h.plt; omega
    · simp only [if_neg e] at hk
      exact h.nop i hk
  nor := by
    intro i k hv hk
    by_cases e : i = n
    · simp only [if_pos e] at hk
      rcases hk with hk | hk
      · exact h.nor n k hv hk
      · have := (h.row_lt hv).1; omega
    · simp only [if_neg e] at hk
      exact h.nor i k hv hk
end
end Go.Proofs.YtjbolkkbehfnmaaDoor.Val
