/- HA, as this claim needs it. -/
import Derived.Test.YtdheakalfleleaaDoorPOperx0q
import Derived.MapKept
import Derived.ChangeMaps4
import Derived.Deep.QuietTactic
import Derived.BigQuiet
import Derived.StillTailTactics
import Derived.ChangeMaps5
namespace Go.Proofs.YtdheakalfleleaaDoor.Val
open Go.RowKit Go.Proofs.YtdheakalfleleaaDoor.POper Go.Proofs.YtdheakalfleleaaDoorW.PrintWords Go.Proofs.YtdheakalfleleaaDoorW.PrintLast Go.Proofs.YtdheakalfleleaaDoorW.PrintMore
set_option linter.unusedVariables false
set_option linter.unusedSimpArgs false
structure Chg (O : Nat → Prop) (w w' : World) : Prop where
  os : w'.os = w.os
  tape : w'.tape = w.tape
  output : w'.output = w.output
  size : w.heap.size ≤ w'.heap.size
  block : ∀ k, k < w.heap.size → ¬ O k → w'.heap[k]? = w.heap[k]?
def No : Nat → Prop := fun _ => False
theorem Chg.refl (O : Nat → Prop) (w : World) : Chg O w w := ⟨rfl, rfl, rfl, Nat.le_refl _, fun _ _ _ => rfl⟩
theorem Chg.trans {O Q : Nat → Prop} {a b c : World} (h : Chg O a b) (k : Chg Q b c) : Chg (fun x => O x ∨ (Q x ∧ x < a.heap.size)) a c :=
  ⟨k.os.trans h.os, k.tape.trans h.tape, k.output.trans h.output, Nat.le_trans h.size k.size, fun i hi ho => (k.block i (Nat.lt_of_lt_of_le hi h.size) (fun q => ho (Or.inr ⟨q, hi⟩))).trans (h.block i hi (fun q => ho (Or.inl q)))⟩
theorem Chg.mono {O Q : Nat → Prop} {a b : World} (h : Chg O a b) (hq : ∀ k, k < a.heap.size → O k → Q k) : Chg Q a b := ⟨h.os, h.tape, h.output, h.size, fun i hi ho => h.block i hi (fun q => ho (hq i hi q))⟩
theorem Chg.of_below {O : Nat → Prop} {a b : World} (h : Below a.heap.size a b) : Chg O a b := ⟨h.os, h.tape, h.output, h.size, fun i hi _ => h.block i hi⟩
theorem Chg.below {O : Nat → Prop} {B : Nat} {a b : World} (h : Chg O a b) (hB : B ≤ a.heap.size) (ho : ∀ k, O k → B ≤ k) : Below B a b := ⟨h.os, h.tape, h.output, h.size, fun i hi => h.block i (by omega) (fun q => by have := ho i q; omega)⟩
theorem Chg.of_grown {a b : World} {row : Option Nat} {O : Nat → Prop} (h : a.grownBy b row) (hr : ∀ k, row = some k → O k) : Chg O a b := ⟨h.os, h.tape, h.output, h.size, fun i hi ho => h.block i hi (fun e => ho (hr i e.symm))⟩
theorem Chg.alloc (O : Nat → Prop) (w : World) (o : Obj) : Chg O w (w.alloc o) := Chg.of_grown (World.grownBy_alloc w o none) (by simp)
theorem Chg.drewN (O : Nat → Prop) (w : World) (n : Nat) : Chg O w (w.drewN n) := Chg.of_below (pw_below_drewN (Below.refl _ _) n)
theorem Chg.setCell {O : Nat → Prop} (w : World) (a : Addr) (u : Value) (h : O a.block) : Chg O w (w.setCell a u) :=
  ⟨rfl, rfl, rfl, by simp [World.setCell], fun k _ ho => Below.heap_setCell w a u k (fun e => ho (e ▸ h))⟩
theorem Chg.cell {O : Nat → Prop} {a b : World} (h : Chg O a b) {p : Addr} {v : Value} (hc : a.cell? p = some v) (ho : ¬ O p.block) : b.cell? p = some v :=
  (World.cell?_of_block (h.block p.block (World.block_lt_of_cell? a p hc) ho)).trans hc
theorem Chg.blk {O : Nat → Prop} {a b : World} (h : Chg O a b) {k : Nat} {o : Obj} (hc : a.heap[k]? = some o) (ho : ¬ O k) : b.heap[k]? = some o :=
  (h.block k (Array.getElem?_eq_some_iff.1 hc).1 ho).trans hc
inductive Th where
  | arr (l : List S23)
  | obj (kv : List (ByteArray × S23))
instance : Inhabited Th := ⟨.arr []⟩
def thEnc : Bool × Nat → Value := fun x => if x.1 = true then .iface 99 (.pointer (some ⟨x.2, 0, none⟩)) else .iface 93 (.pointer (some ⟨x.2, 0, none⟩))
theorem thEnc_one (x : Bool × Nat) : (thEnc x).oneCell' = true := by
  unfold thEnc
  split <;> rfl
def kTh : Kd (Bool × Nat) := Kd.scalar thEnc thEnc_one
theorem own_only {α : Type} {d : Kd α} {e base : Nat} {ok : Nat → Prop} {w : World} {v : Value} {xs : List α} (hd : ∀ {ok1 ok2 : Nat → Prop} {x : α} {cs : List Value}, d.M w base ok1 x cs → d.M w base ok2 x cs) (h : d.R e w base ok v xs) : d.R e w base (fun k => ok k ∧ some k = v.ownBlock) v xs :=
  ⟨fun k hk => ⟨h.1 k hk, hk.symm⟩, h.2.imp_ (fun _ _ hp => hd hp)⟩
theorem kTh_only {e base : Nat} {ok : Nat → Prop} {w : World} {v : Value} {xs : List (Bool × Nat)} (h : kTh.R e w base ok v xs) : kTh.R e w base (fun k => ok k ∧ some k = v.ownBlock) v xs := own_only (fun h => h) h
def enc (x : S23) : Value := .agg #[.int .i64 x.f0, .int .i64 x.f1, .string x.f2]
def Ents (es : Array MapEntry) (kv : List (ByteArray × S23)) : Prop := es.toList.map (fun e => (e.key, e.val)) = kv.map (fun p => (Value.string p.1, enc p.2))
def PT (w : World) (O : Nat → Prop) (x : Bool × Nat) : Th → Prop
  | .arr l => x.1 = false ∧ O x.2 ∧ ∃ v, w.heap[x.2]? = some (.cells #[v] 96 (0, 0)) ∧ k23.R 23 w 0 O v l
  | .obj kv => x.1 = true ∧ O x.2 ∧ ∃ m es c, w.heap[x.2]? = some (.cells #[.map (some m)] 102 (0, 0)) ∧ O m ∧ w.heap[m]? = some (.map es c) ∧ Ents es kv
theorem PT.step {w w' : World} {O : Nat → Prop} {x : Bool × Nat} {t : Th} (h : PT w O x t) (hm : ∀ k, O k → k < w.heap.size → w'.heap[k]? = w.heap[k]?) : PT w' O x t := by
  cases t with
  | arr l =>
    obtain ⟨h1, h2, v, hb, hr⟩ := h
    exact ⟨h1, h2, v, (hm _ h2 (Array.getElem?_eq_some_iff.1 hb).1).trans hb, Kd.R_step hr hm⟩
  | obj kv =>
    obtain ⟨h1, h2, m, es, c, hb, hm1, he, hk⟩ := h
    exact ⟨h1, h2, m, es, c, (hm _ h2 (Array.getElem?_eq_some_iff.1 hb).1).trans hb, hm1, (hm _ hm1 (Array.getElem?_eq_some_iff.1 he).1).trans he, hk⟩
theorem PT.mono {w : World} {O Q : Nat → Prop} {x : Bool × Nat} {t : Th} (h : PT w O x t) (hq : ∀ k, O k → k < w.heap.size → Q k) : PT w Q x t := by
  cases t with
  | arr l =>
    obtain ⟨h1, h2, v, hb, hr⟩ := h
    exact ⟨h1, hq _ h2 (Array.getElem?_eq_some_iff.1 hb).1, v, hb, Kd.R_mono (Kd.R_bound hr) (fun k hk => hq k hk.1 hk.2.2.1)⟩
  | obj kv =>
    obtain ⟨h1, h2, m, es, c, hb, hm1, he, hk⟩ := h
    exact ⟨h1, hq _ h2 (Array.getElem?_eq_some_iff.1 hb).1, m, es, c, hb, hq _ hm1 (Array.getElem?_eq_some_iff.1 he).1, he, hk⟩
structure HPw (w : World) (O : Nat → Prop) (p : Nat) (v : Value) (xs : List (Bool × Nat)) (Os : Nat → Nat → Prop) (D : List Th) : Prop where
  hdr : w.heap[p]? = some (.cells #[v] 90 (0, 0))
  po : O p
  row : kTh.R 123 w 0 O v xs
  len : xs.length = D.length
  th : ∀ i t, D[i]? = some t → PT w (Os i) (xs.getD i (false, 0)) t
  sub : ∀ i k, Os i k → O k ∧ k < w.heap.size
  dis : ∀ i j k, i ≠ j → Os i k → ¬ Os j k
  nop : ∀ i, ¬ Os i p
  nor : ∀ i k, v.ownBlock = some k → ¬ Os i k
def HP (w : World) (O : Nat → Prop) (p : Nat) (D : List Th) : Prop := ∃ v xs Os, HPw w O p v xs Os D
section
variable {w w' : World} {O Q : Nat → Prop} {p : Nat} {v : Value} {xs : List (Bool × Nat)} {Os : Nat → Nat → Prop} {D : List Th}
theorem HPw.plt (h : HPw w O p v xs Os D) : p < w.heap.size := (Array.getElem?_eq_some_iff.1 h.hdr).1
theorem HPw.row_lt (h : HPw w O p v xs Os D) {k : Nat} (hk : v.ownBlock = some k) : k < w.heap.size ∧ O k := ⟨Kd.R_lt h.row k hk, h.row.1 k hk⟩
theorem HPw.row_ne (h : HPw w O p v xs Os D) : v.ownBlock ≠ some p := fun e => Kd.R_ne h.row h.hdr (by decide) e.symm
theorem HPw.step (h : HPw w O p v xs Os D) (hm : ∀ k, O k → k < w.heap.size → w'.heap[k]? = w.heap[k]?) (hs : w.heap.size ≤ w'.heap.size) : HPw w' O p v xs Os D where
  hdr := (hm p h.po h.plt).trans h.hdr
  po := h.po
  row := Kd.R_step h.row hm
  len := h.len
  th := fun i t ht => (h.th i t ht).step (fun k hk hlt => hm k (h.sub i k hk).1 hlt)
  sub := fun i k hk => ⟨(h.sub i k hk).1, Nat.lt_of_lt_of_le (h.sub i k hk).2 hs⟩
  dis := h.dis
  nop := h.nop
  nor := h.nor
theorem HPw.keep (h : HPw w O p v xs Os D) (hc : Chg Q w w') (hd : ∀ k, O k → k < w.heap.size → ¬ Q k) : HPw w' O p v xs Os D := h.step (fun k hk hlt => hc.block k hlt (hd k hk hlt)) hc.size
theorem HPw.mono (h : HPw w O p v xs Os D) (hq : ∀ k, O k → k < w.heap.size → Q k) : HPw w Q p v xs Os D where
  hdr := h.hdr
  po := hq p h.po h.plt
  row := Kd.R_mono (Kd.R_bound h.row) (fun k hk => hq k hk.1 hk.2.2.1)
  len := h.len
  th := h.th
  sub := fun i k hk => ⟨hq k (h.sub i k hk).1 (h.sub i k hk).2, (h.sub i k hk).2⟩
  dis := h.dis
  nop := h.nop
  nor := h.nor
theorem HP.keep (h : HP w O p D) (hc : Chg Q w w') (hd : ∀ k, O k → k < w.heap.size → ¬ Q k) : HP w' O p D := by
  obtain ⟨v, xs, Os, h⟩ := h
  exact ⟨v, xs, Os, h.keep hc hd⟩
theorem HP.mono (h : HP w O p D) (hq : ∀ k, O k → k < w.heap.size → Q k) : HP w Q p D := by
  obtain ⟨v, xs, Os, h⟩ := h
  exact ⟨v, xs, Os, h.mono hq⟩
def Grow (O : Nat → Prop) (w w' : World) : Nat → Prop := fun k => (O k ∧ k < w.heap.size) ∨ (w.heap.size ≤ k ∧ k < w'.heap.size)
theorem HPw.upd (h : HPw w O p v xs Os D) {n : Nat} {t : Th} (hc : Chg (Os n) w w') (ht : PT w' (fun k => Os n k ∨ w.heap.size ≤ k) (xs.getD n (false, 0)) t) :
    HPw w' (Grow O w w') p v xs (fun i k => if i = n then (Os n k ∨ (w.heap.size ≤ k ∧ k < w'.heap.size)) else Os i k) (D.set n t) where
  hdr := hc.blk h.hdr (h.nop n)
  po := Or.inl ⟨h.po, h.plt⟩
  row := Kd.R_mono (Kd.R_step (kTh_only (Kd.R_mono (Kd.R_bound h.row) (ok' := fun k => O k ∧ k < w.heap.size) (fun k hk => ⟨hk.1, hk.2.2.1⟩))) (fun k hk hlt => hc.block k hlt (h.nor n k hk.2.symm))) (fun k hk => Or.inl hk.1)
  len := by rw [List.length_set]; exact h.len
  th := by
    intro i t' hi
    rw [List.getElem?_set] at hi
    by_cases e : n = i
    · subst e
      simp only [if_true] at hi ⊢
      split at hi
      · injection hi with hi
        subst hi
        exact ht.mono (fun k hk hlt => hk.imp id (fun h => ⟨h, hlt⟩))
      · cases hi
    · rw [if_neg e] at hi
      simp only [if_neg (Ne.symm e)]
      exact (h.th i t' hi).step (fun k hk hlt => hc.block k hlt (h.dis i n k (Ne.symm e) hk))
  sub := by
    intro i k hk
    by_cases e : i = n
    · simp only [if_pos e] at hk
      rcases hk with hk | hk
      · exact ⟨Or.inl (h.sub n k hk), Nat.lt_of_lt_of_le (h.sub n k hk).2 hc.size⟩
      · exact ⟨Or.inr hk, hk.2⟩
    · simp only [if_neg e] at hk
      exact ⟨Or.inl (h.sub i k hk), Nat.lt_of_lt_of_le (h.sub i k hk).2 hc.size⟩
  dis := by
    intro i j k hij h1 h2
    by_cases e : i = n
    · simp only [if_pos e] at h1
      simp only [if_neg (show ¬ j = n from fun e2 => hij (e.trans e2.symm))] at h2
      rcases h1 with h1 | h1
      · exact h.dis n j k (e ▸ hij) h1 h2
      · have := (h.sub j k h2).2; omega
    · simp only [if_neg e] at h1
      by_cases e2 : j = n
      · simp only [if_pos e2] at h2
        rcases h2 with h2 | h2
        · exact h.dis i n k e h1 h2
        · have := (h.sub i k h1).2; omega
      · simp only [if_neg e2] at h2
        exact h.dis i j k hij h1 h2
  nop := by
    intro i hk
    by_cases e : i = n
    · simp only [if_pos e] at hk
      rcases hk with hk | hk
      · exact h.nop n hk
      · have := h.plt; omega
    · simp only [if_neg e] at hk
      exact h.nop i hk
  nor := by
    intro i k hv hk
    by_cases e : i = n
    · simp only [if_pos e] at hk
      rcases hk with hk | hk
      · exact h.nor n k hv hk
      · have := (h.row_lt hv).1; omega
    · simp only [if_neg e] at hk
      exact h.nor i k hv hk
end
end Go.Proofs.YtdheakalfleleaaDoor.Val
namespace Go.Proofs.YtdheakalfleleaaDoor.Val
open Go.RowKit Go.Proofs.YtdheakalfleleaaDoor.POper Go.Proofs.YtdheakalfleleaaDoorW.PrintWords Go.Proofs.YtdheakalfleleaaDoorW.PrintLast Go.Proofs.YtdheakalfleleaaDoorW.PrintMore
open Go.ChangeMaps (setBlock)
set_option linter.unusedVariables false
set_option linter.unusedSimpArgs false
def kvPut : List (ByteArray × S23) → ByteArray → S23 → List (ByteArray × S23)
  | [], n, x => [(n, x)]
  | (k, y) :: r, n, x => if k = n then (k, x) :: r else (k, y) :: kvPut r n x
def kvIdx : List (ByteArray × S23) → ByteArray → Nat → Option Nat
  | [], _, _ => none
  | (k, x) :: r, n, i => if k = n then some i else kvIdx r n (i + 1)
theorem kvIdx_ge : ∀ (kv : List (ByteArray × S23)) (n : ByteArray) (i j : Nat), kvIdx kv n i = some j → i ≤ j
  | [], _, _, _, h => by cases h
  | (k, x) :: r, n, i, j, h => by
    unfold kvIdx at h
    split at h
    · injection h with h; omega
    · have := kvIdx_ge r n (i + 1) j h; omega
theorem kvIdx_some : ∀ (kv : List (ByteArray × S23)) (n : ByteArray) (i j : Nat), kvIdx kv n i = some j → ∃ p, kv[j - i]? = some p ∧ p.1 = n
  | [], _, _, _, h => by cases h
  | (k, x) :: r, n, i, j, h => by
    have hg := kvIdx_ge _ _ _ _ h
    unfold kvIdx at h
    split at h
    · injection h with h
      subst h
      exact ⟨(k, x), by simp, by assumption⟩
    · have := kvIdx_ge r n (i + 1) j h
      obtain ⟨p, hp, hn⟩ := kvIdx_some r n (i + 1) j h
      exact ⟨p, by rw [show j - i = (j - (i + 1)) + 1 by omega]; exact hp, hn⟩
theorem findNow_kv (n : ByteArray) : ∀ (es : List MapEntry) (kv : List (ByteArray × S23)) (i : Nat), es.map (fun e => (e.key, e.val)) = kv.map (fun p => (Value.string p.1, enc p.2)) →
    Instr.findNow .string (.string n) es i = some (match kvIdx kv n i with | some j => some (j, ((kv[j - i]?).map (fun p => enc p.2)).getD undef) | none => none)
  | [], [], _, _ => rfl
  | [], _ :: _, _, h => by cases h
  | _ :: _, [], _, h => by cases h
  | e :: es, (k, x) :: r, i, h => by
    simp only [List.map_cons, List.cons.injEq, Prod.mk.injEq] at h
    obtain ⟨⟨hk, hv⟩, hr⟩ := h
    unfold Instr.findNow
    rw [hk]
    unfold kvIdx
    by_cases e2 : k = n
    · subst e2
      have e3 : (k == k) = true := (MapKept.bytes_beq _ _).2 rfl
      simp [Instr.sameNow, hv, e3]
    · have e3 : (n == k) = false := by
        cases h : n == k
        · rfl
        · exact absurd ((MapKept.bytes_beq _ _).1 h).symm e2
      simp only [Instr.sameNow, e3, if_neg e2]
      rw [findNow_kv n es r (i + 1) hr]
      cases hj : kvIdx r n (i + 1) with
      | none => rfl
      | some j =>
        have := kvIdx_ge r n (i + 1) j hj
        dsimp only
        rw [show j - i = (j - (i + 1)) + 1 by omega]
        rfl
section
variable {w : World} {m : Nat} {es : Array MapEntry} {c : Nat} {kv : List (ByteArray × S23)}
theorem put_idx : ∀ (kv : List (ByteArray × S23)) (n : ByteArray) (x : S23) (i : Nat), kvPut kv n x = match kvIdx kv n i with | some j => kv.set (j - i) (n, x) | none => kv ++ [(n, x)]
  | [], _, _, _ => rfl
  | (k, y) :: r, n, x, i => by
    unfold kvPut kvIdx
    by_cases h : k = n
    · subst h; simp
    · simp only [if_neg h]
      rw [put_idx r n x (i + 1)]
      cases hk : kvIdx r n (i + 1) with
      | none => rfl
      | some j =>
        have := kvIdx_ge r n (i + 1) j hk
        dsimp only
        rw [show j - i = (j - (i + 1)) + 1 by omega]
        rfl
theorem run_put (hb : w.heap[m]? = some (.map es c)) (he : Ents es kv) (n : ByteArray) (x : S23) :
    ∃ es' c', (Instr.mapUpdate 100 (.map (some m)) (.string n) (enc x)).run Tryd.prog w = .ok () (setBlock w m (.map es' c')) ∧ Ents es' (kvPut kv n x) := by
  have hf := MapKept.run_findKey (w := w) Tryd.underlying9 (findNow_kv n es.toList kv 0 he)
  have hc := MapKept.run_checkKey (w := w) (P := Tryd.prog) Tryd.underlying9 (k := .string n) trivial false 9999
  have hs := MapKept.run_keyThatStays (w := w) (P := Tryd.prog) (d := .string) (k := .string n) trivial
  rw [put_idx kv n x 0]
  unfold Instr.mapUpdate
  cases hk : kvIdx kv n 0 with
  | none =>
    rw [hk] at hf
    refine ⟨es.push { key := .string n, val := enc x, born := c }, c + 1, ?_, ?_⟩
    · simp [run_underlying Tryd.underlying100, Result.andThen, MapKept.run_getObj_map hb, hc, hf, MapKept.run_setObj_map _ hb, setBlock]
    · unfold Ents at he ⊢
      simp [he]
  | some j =>
    obtain ⟨p, hp, hpn⟩ := kvIdx_some kv n 0 j hk
    simp only [Nat.sub_zero] at hp
    have hj : es.toList[j]?.map (fun e => (e.key, e.val)) = some (.string n, enc p.2) := by
      rw [← List.getElem?_map, he, List.getElem?_map, hp, ← hpn]
      rfl
    obtain ⟨e, he1, he2⟩ := Option.map_eq_some_iff.1 hj
    simp only [Prod.mk.injEq] at he2
    have he3 : es[j]? = some e := by simpa using he1
    rw [hk] at hf
    simp only [Nat.sub_zero, hp] at hf
    refine ⟨es.modify j fun q => { q with key := .string n, val := enc x }, c, ?_, ?_⟩
    · simp [run_underlying Tryd.underlying100, Result.andThen, MapKept.run_getObj_map hb, hc, hf, MapKept.run_setObj_map _ hb, setBlock, he3, he2.1, hs]
    · unfold Ents at he ⊢
      simp only [Nat.sub_zero]
      apply List.ext_getElem?
      intro q
      have heq := congrArg (fun l => l[q]?) he
      simp only [List.getElem?_map, Array.getElem?_toList] at heq
      simp only [List.getElem?_map, Array.getElem?_toList, Array.getElem?_modify, List.getElem?_set]
      by_cases hq : j = q
      · subst hq
        rw [he3, hp] at heq
        simp [he3, hp, (List.getElem?_eq_some_iff.1 hp).1]
      · simp only [if_neg hq]
        exact heq
end
end Go.Proofs.YtdheakalfleleaaDoor.Val
namespace Go.Proofs.YtdheakalfleleaaDoor.Val
open Go.RowKit Go.Proofs.YtdheakalfleleaaDoor.POper Go.Proofs.YtdheakalfleleaaDoorW.PrintWords Go.Proofs.YtdheakalfleleaaDoorW.PrintLast Go.Proofs.YtdheakalfleleaaDoorW.PrintMore
set_option linter.unusedVariables false
set_option linter.unusedSimpArgs false
def atV (xs : List (Bool × Nat)) (x : S23) (kind : Int) : Value := if x.f0 = kind ∧ 0 ≤ x.f1 ∧ x.f1 < (xs.length : Int) then thEnc (xs.getD x.f1.toNat (false, 0)) else .nilIface
theorem cell_alloc {w : World} {a : Addr} {v : Value} (h : w.cell? a = some v) (o : Obj) : (w.alloc o).cell? a = some v := (Chg.alloc No w o).cell h (fun h => h)
theorem at_th {w : World} {A : Option Addr} {n : Nat} {xs : List (Bool × Nat)} (h : kTh.C w A n xs) (i : Int) (h0 : 0 ≤ i) (h1 : i < n) : ∃ ad, A = some ad ∧ w.cell? (ad.add i.toNat) = some (thEnc (xs.getD i.toNat (false, 0))) := by
  obtain ⟨ad, c, e, _, hK, hc0⟩ := Kd.C_get h (false, 0) i h0 h1
  have hc : ∀ j u, c[j]? = some u → w.cell? (ad.add (i.toNat * 1 + j)) = some u := hc0
  have hK' : c = [thEnc (xs.getD i.toNat (false, 0))] := hK
  subst hK'
  have hq := hc 0 _ rfl
  rw [Nat.mul_one, Nat.add_zero] at hq
  exact ⟨ad, e, hq⟩
set_option maxHeartbeats 2000000 in
set_option maxRecDepth 100000 in
theorem at_yes (w : World) (p : Nat) (A : Option Addr) (n c : Nat) (xs : List (Bool × Nat)) (x : S23) (kind : Int) (hc : w.cell? ⟨p, 0, none⟩ = some (.slice A n c)) (hC : kTh.C w A n xs) (h1 : x.f0 = kind) (h2 : 0 ≤ x.f1) (h3 : x.f1 < (n : Int)) :
    Calls Tryd.prog 89 #[.pointer (some ⟨p, 0, none⟩), .agg #[.int .i64 x.f0, .int .i64 x.f1, .string x.f2], .int .i64 kind] w fun e w' => e = .returned (thEnc (xs.getD x.f1.toNat (false, 0))) ∧ Below w.heap.size w w' := by
  obtain ⟨ad, rfl, ha⟩ := at_th hC x.f1 h2 h3
  have hc1 := cell_alloc hc (.cells #[.int .i64 x.f0, .int .i64 x.f1, .string x.f2] 23)
  have ha1 := cell_alloc ha (.cells #[.int .i64 x.f0, .int .i64 x.f1, .string x.f2] 23)
  have e1 : (x.f0 != kind) = false := by simp [h1]
  have e2 : decide (x.f1 < 0) = false := by simp; omega
  have e3 : decide ((n : Int) ≤ x.f1) = false := by simp; omega
  generalize xs.getD x.f1.toNat (false, 0) = r at ha ha1 ⊢
  clear hC ha hc h1
  go_enter Tryd.func89, Tryd.ntmps89
  go_wp2
  go_quiet (fail)
  go_wp2
  go_quiet (fail)
  go_wp2
  go_ret
  exact ⟨rfl, pw_below_drewN (pw_below_drewN (below_alloc (Below.refl _ _) _) _) _⟩
set_option maxHeartbeats 2000000 in
set_option maxRecDepth 100000 in
theorem at_kind (w : World) (p : Nat) (x : S23) (kind : Int) (h1 : x.f0 ≠ kind) :
    Calls Tryd.prog 89 #[.pointer (some ⟨p, 0, none⟩), .agg #[.int .i64 x.f0, .int .i64 x.f1, .string x.f2], .int .i64 kind] w fun e w' => e = .returned .nilIface ∧ Below w.heap.size w w' := by
  have e1 : (x.f0 != kind) = true := by simp [h1]
  clear h1
  go_enter Tryd.func89, Tryd.ntmps89
  go_wp2
  go_quiet (fail)
  go_wp2
  go_ret
  exact ⟨rfl, pw_below_drewN (below_alloc (Below.refl _ _) _) _⟩
set_option maxHeartbeats 2000000 in
set_option maxRecDepth 100000 in
theorem at_low (w : World) (p : Nat) (x : S23) (kind : Int) (h1 : x.f0 = kind) (h2 : x.f1 < 0) :
    Calls Tryd.prog 89 #[.pointer (some ⟨p, 0, none⟩), .agg #[.int .i64 x.f0, .int .i64 x.f1, .string x.f2], .int .i64 kind] w fun e w' => e = .returned .nilIface ∧ Below w.heap.size w w' := by
  have e1 : (x.f0 != kind) = false := by simp [h1]
  have e2 : decide (x.f1 < 0) = true := by simpa using h2
  clear h1
  go_enter Tryd.func89, Tryd.ntmps89
  go_wp2
  go_quiet (fail)
  go_wp2
  go_ret
  exact ⟨rfl, pw_below_drewN (below_alloc (Below.refl _ _) _) _⟩
set_option maxHeartbeats 2000000 in
set_option maxRecDepth 100000 in
theorem at_high (w : World) (p : Nat) (A : Option Addr) (n c : Nat) (x : S23) (kind : Int) (hc : w.cell? ⟨p, 0, none⟩ = some (.slice A n c)) (h1 : x.f0 = kind) (h2 : 0 ≤ x.f1) (h3 : (n : Int) ≤ x.f1) :
    Calls Tryd.prog 89 #[.pointer (some ⟨p, 0, none⟩), .agg #[.int .i64 x.f0, .int .i64 x.f1, .string x.f2], .int .i64 kind] w fun e w' => e = .returned .nilIface ∧ Below w.heap.size w w' := by
  have hc1 := cell_alloc hc (.cells #[.int .i64 x.f0, .int .i64 x.f1, .string x.f2] 23)
  have e1 : (x.f0 != kind) = false := by simp [h1]
  have e2 : decide (x.f1 < 0) = false := by simp; omega
  have e3 : decide ((n : Int) ≤ x.f1) = true := by simpa using h3
  clear h1 hc
  go_enter Tryd.func89, Tryd.ntmps89
  go_wp2
  go_quiet (fail)
  go_wp2
  go_ret
  exact ⟨rfl, pw_below_drewN (below_alloc (Below.refl _ _) _) _⟩
section
variable {w : World} {O : Nat → Prop} {p : Nat} {v : Value} {xs : List (Bool × Nat)} {Os : Nat → Nat → Prop} {D : List Th}
theorem HPw.head (h : HPw w O p v xs Os D) : ∃ A c, v = .slice A xs.length c ∧ kTh.C w A xs.length xs ∧ w.cell? ⟨p, 0, none⟩ = some (.slice A xs.length c) := by
  obtain ⟨A, c, rfl, _, hC⟩ := Kd.R_reads h.row
  exact ⟨A, c, rfl, hC, (blk_cell h.hdr 0).trans rfl⟩
theorem at_calls (h : HPw w O p v xs Os D) (x : S23) (kind : Int) :
    Calls Tryd.prog 89 #[.pointer (some ⟨p, 0, none⟩), .agg #[.int .i64 x.f0, .int .i64 x.f1, .string x.f2], .int .i64 kind] w fun e w' => e = .returned (atV xs x kind) ∧ Below w.heap.size w w' := by
  obtain ⟨A, c, rfl, hC, hc⟩ := h.head
  unfold atV
  by_cases h1 : x.f0 = kind
  · by_cases h2 : 0 ≤ x.f1
    · by_cases h3 : x.f1 < (xs.length : Int)
      · rw [if_pos ⟨h1, h2, h3⟩]; exact at_yes w p A xs.length c xs x kind hc hC h1 h2 h3
      · rw [if_neg (fun hh => h3 hh.2.2)]; exact at_high w p A xs.length c x kind hc h1 h2 (by omega)
    · rw [if_neg (fun hh => h2 hh.2.1)]; exact at_low w p x kind h1 (by omega)
  · rw [if_neg (fun hh => h1 hh.1)]; exact at_kind w p x kind h1
end
end Go.Proofs.YtdheakalfleleaaDoor.Val
namespace Go.Proofs.YtdheakalfleleaaDoor.Val
open Go.RowKit Go.Proofs.YtdheakalfleleaaDoor.POper Go.Proofs.YtdheakalfleleaaDoorW.PrintWords Go.Proofs.YtdheakalfleleaaDoorW.PrintLast Go.Proofs.YtdheakalfleleaaDoorW.PrintMore
set_option linter.unusedVariables false
set_option linter.unusedSimpArgs false
theorem ta_nil61 (w : World) : (Instr.typeAssert .nilIface 123 93 true).run Tryd.prog w = .ok (.tuple #[.pointer none, .bool false]) w := by simp [Instr.typeAssert, run_underlying Tryd.underlying93, Result.andThen]
theorem ta_no61 (w : World) (v : Value) : (Instr.typeAssert (.iface 99 v) 123 93 true).run Tryd.prog w = .ok (.tuple #[.pointer none, .bool false]) w := by simp [Instr.typeAssert, run_underlying Tryd.underlying93, Result.andThen]
theorem ta_yes61 (w : World) (v : Value) : (Instr.typeAssert (.iface 93 v) 123 93 true).run Tryd.prog w = .ok (.tuple #[v, .bool true]) w := by simp [Instr.typeAssert, run_underlying Tryd.underlying93, Result.andThen]
theorem ta_nil55 (w : World) : (Instr.typeAssert .nilIface 123 99 true).run Tryd.prog w = .ok (.tuple #[.pointer none, .bool false]) w := by simp [Instr.typeAssert, run_underlying Tryd.underlying99, Result.andThen]
theorem ta_no55 (w : World) (v : Value) : (Instr.typeAssert (.iface 93 v) 123 99 true).run Tryd.prog w = .ok (.tuple #[.pointer none, .bool false]) w := by simp [Instr.typeAssert, run_underlying Tryd.underlying99, Result.andThen]
theorem ta_yes55 (w : World) (v : Value) : (Instr.typeAssert (.iface 99 v) 123 99 true).run Tryd.prog w = .ok (.tuple #[v, .bool true]) w := by simp [Instr.typeAssert, run_underlying Tryd.underlying99, Result.andThen]
attribute [local go_sem] ta_nil61 ta_no61 ta_yes61 ta_nil55 ta_no55 ta_yes55
set_option maxHeartbeats 2000000 in
set_option maxRecDepth 100000 in
theorem array_of (w : World) (q : Option Addr) (x : S23) (r : Value) (u : Value) (b : Bool) (hr : (r = .nilIface ∧ u = .pointer none ∧ b = false) ∨ (∃ k, r = .iface 99 (.pointer (some ⟨k, 0, none⟩)) ∧ u = .pointer none ∧ b = false) ∨ (∃ k, r = .iface 93 (.pointer (some ⟨k, 0, none⟩)) ∧ u = .pointer (some ⟨k, 0, none⟩) ∧ b = true))
    (H : ∀ W : World, (W = w.alloc (.cells #[.int .i64 x.f0, .int .i64 x.f1, .string x.f2] 23)) → Calls Tryd.prog 89 #[.pointer q, .agg #[.int .i64 x.f0, .int .i64 x.f1, .string x.f2], .int .i64 5] W fun e w' => e = .returned r ∧ Below W.heap.size W w') :
    Calls Tryd.prog 77 #[.pointer q, .agg #[.int .i64 x.f0, .int .i64 x.f1, .string x.f2]] w fun e w' => e = .returned (.tuple #[u, .bool b]) ∧ Below w.heap.size w w' := by
  have H1 := Aside0.mk (H _ rfl)
  clear H
  rcases hr with ⟨rfl, rfl, rfl⟩ | ⟨k, rfl, rfl, rfl⟩ | ⟨k, rfl, rfl, rfl⟩
  · go_enter Tryd.func77, Tryd.ntmps77
    go_wp2_with (go_at_call 89; refine H1.out.mono ?_; rintro e w' ⟨rfl, hb⟩)
    go_ret2
    exact ⟨rfl, below_step (below_alloc (Below.refl _ _) _) hb⟩
  · go_enter Tryd.func77, Tryd.ntmps77
    go_wp2_with (go_at_call 89; refine H1.out.mono ?_; rintro e w' ⟨rfl, hb⟩)
    go_ret2
    exact ⟨rfl, below_step (below_alloc (Below.refl _ _) _) hb⟩
  · go_enter Tryd.func77, Tryd.ntmps77
    go_wp2_with (go_at_call 89; refine H1.out.mono ?_; rintro e w' ⟨rfl, hb⟩)
    go_ret2
    exact ⟨rfl, below_step (below_alloc (Below.refl _ _) _) hb⟩
set_option maxHeartbeats 2000000 in
set_option maxRecDepth 100000 in
theorem object_of (w : World) (q : Option Addr) (x : S23) (r : Value) (u : Value) (b : Bool) (hr : (r = .nilIface ∧ u = .pointer none ∧ b = false) ∨ (∃ k, r = .iface 93 (.pointer (some ⟨k, 0, none⟩)) ∧ u = .pointer none ∧ b = false) ∨ (∃ k, r = .iface 99 (.pointer (some ⟨k, 0, none⟩)) ∧ u = .pointer (some ⟨k, 0, none⟩) ∧ b = true))
    (H : ∀ W : World, (W = w.alloc (.cells #[.int .i64 x.f0, .int .i64 x.f1, .string x.f2] 23)) → Calls Tryd.prog 89 #[.pointer q, .agg #[.int .i64 x.f0, .int .i64 x.f1, .string x.f2], .int .i64 6] W fun e w' => e = .returned r ∧ Below W.heap.size W w') :
    Calls Tryd.prog 79 #[.pointer q, .agg #[.int .i64 x.f0, .int .i64 x.f1, .string x.f2]] w fun e w' => e = .returned (.tuple #[u, .bool b]) ∧ Below w.heap.size w w' := by
  have H1 := Aside0.mk (H _ rfl)
  clear H
  rcases hr with ⟨rfl, rfl, rfl⟩ | ⟨k, rfl, rfl, rfl⟩ | ⟨k, rfl, rfl, rfl⟩
  · go_enter Tryd.func79, Tryd.ntmps79
    go_wp2_with (go_at_call 89; refine H1.out.mono ?_; rintro e w' ⟨rfl, hb⟩)
    go_ret2
    exact ⟨rfl, below_step (below_alloc (Below.refl _ _) _) hb⟩
  · go_enter Tryd.func79, Tryd.ntmps79
    go_wp2_with (go_at_call 89; refine H1.out.mono ?_; rintro e w' ⟨rfl, hb⟩)
    go_ret2
    exact ⟨rfl, below_step (below_alloc (Below.refl _ _) _) hb⟩
  · go_enter Tryd.func79, Tryd.ntmps79
    go_wp2_with (go_at_call 89; refine H1.out.mono ?_; rintro e w' ⟨rfl, hb⟩)
    go_ret2
    exact ⟨rfl, below_step (below_alloc (Below.refl _ _) _) hb⟩
def arrAt (D : List Th) (x : S23) : Option (List S23) := if x.f0 = 5 ∧ 0 ≤ x.f1 ∧ x.f1 < (D.length : Int) then (match D[x.f1.toNat]? with | some (.arr l) => some l | _ => none) else none
def objAt (D : List Th) (x : S23) : Option (List (ByteArray × S23)) := if x.f0 = 6 ∧ 0 ≤ x.f1 ∧ x.f1 < (D.length : Int) then (match D[x.f1.toNat]? with | some (.obj l) => some l | _ => none) else none
theorem arrAt_some {D : List Th} {x : S23} {l : List S23} (h : arrAt D x = some l) : x.f0 = 5 ∧ 0 ≤ x.f1 ∧ x.f1 < (D.length : Int) ∧ D[x.f1.toNat]? = some (.arr l) := by
  unfold arrAt at h
  split at h
  · rename_i hc
    refine ⟨hc.1, hc.2.1, hc.2.2, ?_⟩
    split at h
    · rename_i l' he
      injection h with h
      rw [he, h]
    · cases h
  · cases h
theorem objAt_some {D : List Th} {x : S23} {l : List (ByteArray × S23)} (h : objAt D x = some l) : x.f0 = 6 ∧ 0 ≤ x.f1 ∧ x.f1 < (D.length : Int) ∧ D[x.f1.toNat]? = some (.obj l) := by
  unfold objAt at h
  split at h
  · rename_i hc
    refine ⟨hc.1, hc.2.1, hc.2.2, ?_⟩
    split at h
    · rename_i l' he
      injection h with h
      rw [he, h]
    · cases h
  · cases h
section
variable {w : World} {O : Nat → Prop} {p : Nat} {v : Value} {xs : List (Bool × Nat)} {Os : Nat → Nat → Prop} {D : List Th}
theorem array_some (h : HPw w O p v xs Os D) {x : S23} {l : List S23} (hl : arrAt D x = some l) :
    Calls Tryd.prog 77 #[.pointer (some ⟨p, 0, none⟩), .agg #[.int .i64 x.f0, .int .i64 x.f1, .string x.f2]] w fun e w' => e = .returned (.tuple #[.pointer (some ⟨(xs.getD x.f1.toNat (false, 0)).2, 0, none⟩), .bool true]) ∧ Below w.heap.size w w' := by
  obtain ⟨h1, h2, h3, h4⟩ := arrAt_some hl
  have hT := h.th _ _ h4
  refine array_of w _ x (atV xs x 5) _ _ (Or.inr (Or.inr ⟨(xs.getD x.f1.toNat (false, 0)).2, ?_, rfl, rfl⟩)) (fun W hW => ?_)
  · unfold atV
    rw [if_pos ⟨h1, h2, by rw [h.len]; exact h3⟩]
    unfold thEnc
    rw [if_neg (by rw [hT.1]; simp)]
  · subst hW
    exact at_calls (h.keep (Chg.alloc No w _) (fun _ _ _ hn => hn)) x 5
theorem array_none (h : HPw w O p v xs Os D) {x : S23} (hl : arrAt D x = none) :
    Calls Tryd.prog 77 #[.pointer (some ⟨p, 0, none⟩), .agg #[.int .i64 x.f0, .int .i64 x.f1, .string x.f2]] w fun e w' => e = .returned (.tuple #[.pointer none, .bool false]) ∧ Below w.heap.size w w' := by
  refine array_of w _ x (atV xs x 5) _ _ ?_ (fun W hW => by subst hW; exact at_calls (h.keep (Chg.alloc No w _) (fun _ _ _ hn => hn)) x 5)
  unfold atV
  by_cases hc : x.f0 = 5 ∧ 0 ≤ x.f1 ∧ x.f1 < (xs.length : Int)
  · rw [if_pos hc]
    have hc' : x.f0 = 5 ∧ 0 ≤ x.f1 ∧ x.f1 < (D.length : Int) := by rw [← h.len]; exact hc
    unfold arrAt at hl
    rw [if_pos hc'] at hl
    have hlt : x.f1.toNat < D.length := by omega
    have hT := h.th _ _ (List.getElem?_eq_getElem hlt)
    rw [List.getElem?_eq_getElem hlt] at hl
    cases ht : D[x.f1.toNat] with
    | arr l => rw [ht] at hl; cases hl
    | obj kv =>
      rw [ht] at hT
      exact Or.inr (Or.inl ⟨(xs.getD x.f1.toNat (false, 0)).2, by unfold thEnc; rw [if_pos hT.1], rfl, rfl⟩)
  · rw [if_neg hc]
    exact Or.inl ⟨rfl, rfl, rfl⟩
theorem object_some (h : HPw w O p v xs Os D) {x : S23} {l : List (ByteArray × S23)} (hl : objAt D x = some l) :
    Calls Tryd.prog 79 #[.pointer (some ⟨p, 0, none⟩), .agg #[.int .i64 x.f0, .int .i64 x.f1, .string x.f2]] w fun e w' => e = .returned (.tuple #[.pointer (some ⟨(xs.getD x.f1.toNat (false, 0)).2, 0, none⟩), .bool true]) ∧ Below w.heap.size w w' := by
  obtain ⟨h1, h2, h3, h4⟩ := objAt_some hl
  have hT := h.th _ _ h4
  refine object_of w _ x (atV xs x 6) _ _ (Or.inr (Or.inr ⟨(xs.getD x.f1.toNat (false, 0)).2, ?_, rfl, rfl⟩)) (fun W hW => ?_)
  · unfold atV
    rw [if_pos ⟨h1, h2, by rw [h.len]; exact h3⟩]
    unfold thEnc
    rw [if_pos hT.1]
  · subst hW
    exact at_calls (h.keep (Chg.alloc No w _) (fun _ _ _ hn => hn)) x 6
theorem object_none (h : HPw w O p v xs Os D) {x : S23} (hl : objAt D x = none) :
    Calls Tryd.prog 79 #[.pointer (some ⟨p, 0, none⟩), .agg #[.int .i64 x.f0, .int .i64 x.f1, .string x.f2]] w fun e w' => e = .returned (.tuple #[.pointer none, .bool false]) ∧ Below w.heap.size w w' := by
  refine object_of w _ x (atV xs x 6) _ _ ?_ (fun W hW => by subst hW; exact at_calls (h.keep (Chg.alloc No w _) (fun _ _ _ hn => hn)) x 6)
  unfold atV
  by_cases hc : x.f0 = 6 ∧ 0 ≤ x.f1 ∧ x.f1 < (xs.length : Int)
  · rw [if_pos hc]
    have hc' : x.f0 = 6 ∧ 0 ≤ x.f1 ∧ x.f1 < (D.length : Int) := by rw [← h.len]; exact hc
    unfold objAt at hl
    rw [if_pos hc'] at hl
    have hlt : x.f1.toNat < D.length := by omega
    have hT := h.th _ _ (List.getElem?_eq_getElem hlt)
    rw [List.getElem?_eq_getElem hlt] at hl
    cases ht : D[x.f1.toNat] with
    | obj l => rw [ht] at hl; cases hl
    | arr kv =>
      rw [ht] at hT
      exact Or.inr (Or.inl ⟨(xs.getD x.f1.toNat (false, 0)).2, by unfold thEnc; rw [if_neg (by rw [hT.1]; simp)], rfl, rfl⟩)
  · rw [if_neg hc]
    exact Or.inl ⟨rfl, rfl, rfl⟩
end
end Go.Proofs.YtdheakalfleleaaDoor.Val
namespace Go.Proofs.YtdheakalfleleaaDoor.Val
open Go.RowKit Go.Proofs.YtdheakalfleleaaDoor.POper Go.Proofs.YtdheakalfleleaaDoorW.PrintWords Go.Proofs.YtdheakalfleleaaDoorW.PrintLast Go.Proofs.YtdheakalfleleaaDoorW.PrintMore
set_option linter.unusedVariables false
set_option linter.unusedSimpArgs false
set_option maxHeartbeats 2000000 in
set_option maxRecDepth 100000 in
theorem size_calls (w : World) (b : Nat) (A : Option Addr) (n c : Nat) (hc : w.cell? ⟨b, 0, none⟩ = some (.slice A n c)) :
    Calls Tryd.prog 78 #[.pointer (some ⟨b, 0, none⟩)] w fun e w' => e = .returned (.int .i64 n) ∧ w = w' := by
  go_enter Tryd.func78, Tryd.ntmps78
  go_wp2
  go_ret
  exact ⟨rfl, rfl⟩
theorem PT.arr_cell {w : World} {O : Nat → Prop} {x : Bool × Nat} {l : List S23} (h : PT w O x (.arr l)) : ∃ A c, w.cell? ⟨x.2, 0, none⟩ = some (.slice A l.length c) ∧ k23.C w A l.length l := by
  obtain ⟨h1, h2, v, hb, hr⟩ := h
  obtain ⟨A, c, rfl, _, hC⟩ := Kd.R_reads hr
  exact ⟨A, c, (blk_cell hb 0).trans rfl, hC⟩
section
variable {w : World} {O : Nat → Prop} {p : Nat} {v : Value} {xs : List (Bool × Nat)} {Os : Nat → Nat → Prop} {D : List Th}
set_option maxHeartbeats 2000000 in
set_option maxRecDepth 100000 in
theorem len_some (h : HPw w O p v xs Os D) {x : S23} {l : List S23} (hl : arrAt D x = some l) :
    Calls Tryd.prog 54 #[.pointer (some ⟨p, 0, none⟩), .agg #[.int .i64 x.f0, .int .i64 x.f1, .string x.f2]] w fun e w' => e = .returned (.int .i64 l.length) ∧ Below w.heap.size w w' := by
  have h1 := h.keep (Chg.alloc No w (.cells #[.int .i64 x.f0, .int .i64 x.f1, .string x.f2] 23)) (fun _ _ _ hn => hn)
  have H1 := Aside0.mk (array_some h1 hl)
  have HT := Aside0.mk (h1.th _ _ (arrAt_some hl).2.2.2)
  clear h h1
  generalize xs.getD x.f1.toNat (false, 0) = r at H1 HT
  go_enter Tryd.func54, Tryd.ntmps54
  go_wp2_with (first
    | (go_at_call 77; refine H1.out.mono ?_; rintro e w' ⟨rfl, hb⟩; obtain ⟨A, c, hc, _⟩ := (HT.out.step (fun k _ hk => hb.block k hk)).arr_cell; have HB := Aside0.mk hb; clear hb)
    | (go_at_call 78; refine (size_calls _ _ _ _ _ hc).mono ?_; rintro e w2 ⟨rfl, rfl⟩))
  go_ret
  exact ⟨rfl, below_step (below_alloc (Below.refl _ _) _) HB.out⟩
set_option maxHeartbeats 2000000 in
set_option maxRecDepth 100000 in
theorem len_of (w : World) (q : Option Addr) (x : S23) (H : Calls Tryd.prog 77 #[.pointer q, .agg #[.int .i64 x.f0, .int .i64 x.f1, .string x.f2]] (w.alloc (.cells #[.int .i64 x.f0, .int .i64 x.f1, .string x.f2] 23)) fun e w' => e = .returned (.tuple #[.pointer none, .bool false]) ∧ Below (w.alloc (.cells #[.int .i64 x.f0, .int .i64 x.f1, .string x.f2] 23)).heap.size (w.alloc (.cells #[.int .i64 x.f0, .int .i64 x.f1, .string x.f2] 23)) w') :
    Calls Tryd.prog 54 #[.pointer q, .agg #[.int .i64 x.f0, .int .i64 x.f1, .string x.f2]] w fun e w' => e = .returned (.int .i64 0) ∧ Below w.heap.size w w' := by
  have H1 := Aside0.mk H
  clear H
  go_enter Tryd.func54, Tryd.ntmps54
  go_wp2_with (go_at_call 77; refine H1.out.mono ?_; rintro e w' ⟨rfl, hb⟩)
  go_ret
  exact ⟨rfl, below_step (below_alloc (Below.refl _ _) _) hb⟩
theorem len_none (h : HPw w O p v xs Os D) {x : S23} (hl : arrAt D x = none) :
    Calls Tryd.prog 54 #[.pointer (some ⟨p, 0, none⟩), .agg #[.int .i64 x.f0, .int .i64 x.f1, .string x.f2]] w fun e w' => e = .returned (.int .i64 0) ∧ Below w.heap.size w w' :=
  len_of w _ x (array_none (h.keep (Chg.alloc No w _) (fun _ _ _ hn => hn)) hl)
def aLen (D : List Th) (x : S23) : Int := match arrAt D x with | some l => (l.length : Int) | none => 0
theorem len_calls (h : HPw w O p v xs Os D) (x : S23) :
    Calls Tryd.prog 54 #[.pointer (some ⟨p, 0, none⟩), .agg #[.int .i64 x.f0, .int .i64 x.f1, .string x.f2]] w fun e w' => e = .returned (.int .i64 (aLen D x)) ∧ Below w.heap.size w w' := by
  unfold aLen
  cases hl : arrAt D x with
  | some l => exact len_some h hl
  | none => exact len_none h hl
theorem box3 {W : World} {b : Nat} {a0 a1 a2 : Value} {t : TypeId} (h : W.heap[b]? = some (.cells #[a0, a1, a2] t (0, 0))) : (W.cell? ⟨b, 0, none⟩ = some a0 ∧ W.cell? ⟨b, 1, none⟩ = some a1 ∧ W.cell? ⟨b, 2, none⟩ = some a2) ∧ (W.frozen? ⟨b, 0, none⟩ = false ∧ W.frozen? ⟨b, 1, none⟩ = false ∧ W.frozen? ⟨b, 2, none⟩ = false) :=
  ⟨⟨(blk_cell h 0).trans rfl, (blk_cell h 1).trans rfl, (blk_cell h 2).trans rfl⟩, blk_frozen h 0, blk_frozen h 1, blk_frozen h 2⟩
theorem new2 (w : World) (o1 o2 : Obj) : ((w.alloc o1).alloc o2).heap[w.heap.size + 1]? = some o2 := by
  have := heap_alloc_new (w.alloc o1) o2
  simpa using this
theorem new1 (w : World) (o1 o2 : Obj) : ((w.alloc o1).alloc o2).heap[w.heap.size]? = some o1 := blk_alloc (heap_alloc_new w o1) o2
theorem put3 {W : World} {b : Nat} {a0 a1 a2 u0 u1 u2 : Value} {t : TypeId} (h : W.heap[b]? = some (.cells #[a0, a1, a2] t (0, 0))) : (((W.setCell ⟨b, 0, none⟩ u0).setCell ⟨b, 1, none⟩ u1).setCell ⟨b, 2, none⟩ u2).heap[b]? = some (.cells #[u0, u1, u2] t (0, 0)) :=
  blk_put (blk_put (blk_put h 0 u0 rfl) 1 u1 rfl) 2 u2 rfl
theorem below_put3 {b : Nat} {w W : World} {u0 u1 u2 : Value} (h : Below w.heap.size w W) (hb : w.heap.size ≤ b) : Below w.heap.size w (((W.setCell ⟨b, 0, none⟩ u0).setCell ⟨b, 1, none⟩ u1).setCell ⟨b, 2, none⟩ u2) := below_set (below_set (below_set h hb) hb) hb
set_option maxHeartbeats 2000000 in
set_option maxRecDepth 100000 in
theorem atx_in (h : HPw w O p v xs Os D) {x : S23} {l : List S23} (hl : arrAt D x = some l) (i : Int) (h0 : 0 ≤ i) (hi : i < (l.length : Int)) :
    Calls Tryd.prog 60 #[.pointer (some ⟨p, 0, none⟩), .agg #[.int .i64 x.f0, .int .i64 x.f1, .string x.f2], .int .i64 i] w fun e w' => e = .returned (.tuple #[enc (rd_T23 l i), .bool true]) ∧ Below w.heap.size w w' := by
  have h1 := (h.keep (Chg.alloc No w (.cells #[.int .i64 x.f0, .int .i64 x.f1, .string x.f2] 23)) (fun _ _ _ hn => hn)).keep (Chg.alloc No _ (.cells #[.int .i64 0, .int .i64 0, .string ⟨#[]⟩] 23)) (fun _ _ _ hn => hn)
  have H1 := Aside0.mk (array_some h1 hl)
  have HT := Aside0.mk (h1.th _ _ (arrAt_some hl).2.2.2)
  clear h h1
  have BX0 := Aside0.mk (new2 w (.cells #[.int .i64 x.f0, .int .i64 x.f1, .string x.f2] 23) (.cells #[.int .i64 0, .int .i64 0, .string ⟨#[]⟩] 23))
  have e1 : decide (i < 0) = false := by simpa using h0
  have e2 : decide ((l.length : Int) ≤ i) = false := by simpa using hi
  generalize xs.getD x.f1.toNat (false, 0) = r at H1 HT
  go_enter Tryd.func60, Tryd.ntmps60
  go_wp2_with (first
    | (go_at_call 77; refine H1.out.mono ?_; rintro e w' ⟨rfl, hb⟩; obtain ⟨A, c, hc, hC⟩ := (HT.out.step (fun k _ hk => hb.block k hk)).arr_cell; obtain ⟨ad, rfl, hx0, hx1, hx2⟩ := at_T23 hC i h0 hi; clear hC; have bx := blk_below BX0.out hb; obtain ⟨⟨b0, b1, b2⟩, f0, f1, f2⟩ := box3 bx; have BX := Aside0.mk bx; clear bx; have HB := Aside0.mk hb; clear hb))
  refine bodyPost_ret (results_ct rfl _ _ (w.heap.size + 1) 23 #[.int .i64 (rd_T23 l i).f0, .int .i64 (rd_T23 l i).f1, .string (rd_T23 l i).f2] (0, 0) _ rfl (put3 BX.out) Tryd.underlying23 rfl (by kernel_rfl)) rfl ⟨rfl, ?_⟩
  exact below_put3 (below_step (below_alloc (below_alloc (Below.refl _ _) _) _) HB.out) (by omega)
set_option maxHeartbeats 2000000 in
set_option maxRecDepth 100000 in
theorem atx_of (w : World) (q : Option Addr) (x : S23) (i : Int) (H : Calls Tryd.prog 77 #[.pointer q, .agg #[.int .i64 x.f0, .int .i64 x.f1, .string x.f2]] ((w.alloc (.cells #[.int .i64 x.f0, .int .i64 x.f1, .string x.f2] 23)).alloc (.cells #[.int .i64 0, .int .i64 0, .string ⟨#[]⟩] 23)) fun e w' => e = .returned (.tuple #[.pointer none, .bool false]) ∧ Below ((w.alloc (.cells #[.int .i64 x.f0, .int .i64 x.f1, .string x.f2] 23)).alloc (.cells #[.int .i64 0, .int .i64 0, .string ⟨#[]⟩] 23)).heap.size ((w.alloc (.cells #[.int .i64 x.f0, .int .i64 x.f1, .string x.f2] 23)).alloc (.cells #[.int .i64 0, .int .i64 0, .string ⟨#[]⟩] 23)) w') :
    Calls Tryd.prog 60 #[.pointer q, .agg #[.int .i64 x.f0, .int .i64 x.f1, .string x.f2], .int .i64 i] w fun e w' => e = .returned (.tuple #[enc z23, .bool false]) ∧ Below w.heap.size w w' := by
  have H1 := Aside0.mk H
  clear H
  have BX0 := Aside0.mk (new2 w (.cells #[.int .i64 x.f0, .int .i64 x.f1, .string x.f2] 23) (.cells #[.int .i64 0, .int .i64 0, .string ⟨#[]⟩] 23))
  go_enter Tryd.func60, Tryd.ntmps60
  go_wp2_with (first
    | (go_at_call 77; refine H1.out.mono ?_; rintro e w' ⟨rfl, hb⟩; have bx := blk_below BX0.out hb; obtain ⟨⟨b0, b1, b2⟩, f0, f1, f2⟩ := box3 bx; have BX := Aside0.mk bx; clear bx; have HB := Aside0.mk hb; clear hb))
  refine bodyPost_ret (results_ct rfl _ _ (w.heap.size + 1) 23 #[.int .i64 0, .int .i64 0, .string ⟨#[]⟩] (0, 0) _ rfl (put3 BX.out) Tryd.underlying23 rfl (by kernel_rfl)) rfl ⟨rfl, ?_⟩
  exact below_put3 (below_step (below_alloc (below_alloc (Below.refl _ _) _) _) HB.out) (by omega)
set_option maxHeartbeats 2000000 in
set_option maxRecDepth 100000 in
theorem atx_out (h : HPw w O p v xs Os D) {x : S23} {l : List S23} (hl : arrAt D x = some l) (i : Int) (hi : ¬ (0 ≤ i ∧ i < (l.length : Int))) :
    Calls Tryd.prog 60 #[.pointer (some ⟨p, 0, none⟩), .agg #[.int .i64 x.f0, .int .i64 x.f1, .string x.f2], .int .i64 i] w fun e w' => e = .returned (.tuple #[enc z23, .bool false]) ∧ Below w.heap.size w w' := by
  have h1 := (h.keep (Chg.alloc No w (.cells #[.int .i64 x.f0, .int .i64 x.f1, .string x.f2] 23)) (fun _ _ _ hn => hn)).keep (Chg.alloc No _ (.cells #[.int .i64 0, .int .i64 0, .string ⟨#[]⟩] 23)) (fun _ _ _ hn => hn)
  have H1 := Aside0.mk (array_some h1 hl)
  have HT := Aside0.mk (h1.th _ _ (arrAt_some hl).2.2.2)
  clear h h1
  have BX0 := Aside0.mk (new2 w (.cells #[.int .i64 x.f0, .int .i64 x.f1, .string x.f2] 23) (.cells #[.int .i64 0, .int .i64 0, .string ⟨#[]⟩] 23))
  generalize xs.getD x.f1.toNat (false, 0) = r at H1 HT
  by_cases h0 : i < 0
  · have e1 : decide (i < 0) = true := by simpa using h0
    go_enter Tryd.func60, Tryd.ntmps60
    go_wp2_with (first
      | (go_at_call 77; refine H1.out.mono ?_; rintro e w' ⟨rfl, hb⟩; have bx := blk_below BX0.out hb; obtain ⟨⟨b0, b1, b2⟩, f0, f1, f2⟩ := box3 bx; have BX := Aside0.mk bx; clear bx; have HB := Aside0.mk hb; clear hb))
    refine bodyPost_ret (results_ct rfl _ _ (w.heap.size + 1) 23 #[.int .i64 0, .int .i64 0, .string ⟨#[]⟩] (0, 0) _ rfl (put3 BX.out) Tryd.underlying23 rfl (by kernel_rfl)) rfl ⟨rfl, ?_⟩
    exact below_put3 (below_step (below_alloc (below_alloc (Below.refl _ _) _) _) HB.out) (by omega)
  · have e1 : decide (i < 0) = false := by simpa using h0
    have e2 : decide ((l.length : Int) ≤ i) = true := by simp; omega
    go_enter Tryd.func60, Tryd.ntmps60
    go_wp2_with (first
      | (go_at_call 77; refine H1.out.mono ?_; rintro e w' ⟨rfl, hb⟩; obtain ⟨A, c, hc, _⟩ := (HT.out.step (fun k _ hk => hb.block k hk)).arr_cell; have bx := blk_below BX0.out hb; obtain ⟨⟨b0, b1, b2⟩, f0, f1, f2⟩ := box3 bx; have BX := Aside0.mk bx; clear bx; have HB := Aside0.mk hb; clear hb))
    refine bodyPost_ret (results_ct rfl _ _ (w.heap.size + 1) 23 #[.int .i64 0, .int .i64 0, .string ⟨#[]⟩] (0, 0) _ rfl (put3 BX.out) Tryd.underlying23 rfl (by kernel_rfl)) rfl ⟨rfl, ?_⟩
    exact below_put3 (below_step (below_alloc (below_alloc (Below.refl _ _) _) _) HB.out) (by omega)
def aAt (D : List Th) (x : S23) (i : Int) : S23 × Bool := match arrAt D x with | some l => if 0 ≤ i ∧ i < (l.length : Int) then (rd_T23 l i, true) else (z23, false) | none => (z23, false)
theorem atx_calls (h : HPw w O p v xs Os D) (x : S23) (i : Int) :
    Calls Tryd.prog 60 #[.pointer (some ⟨p, 0, none⟩), .agg #[.int .i64 x.f0, .int .i64 x.f1, .string x.f2], .int .i64 i] w fun e w' => e = .returned (.tuple #[enc (aAt D x i).1, .bool (aAt D x i).2]) ∧ Below w.heap.size w w' := by
  unfold aAt
  cases hl : arrAt D x with
  | some l =>
    by_cases hi : 0 ≤ i ∧ i < (l.length : Int)
    · simp only [if_pos hi]; exact atx_in h hl i hi.1 hi.2
    · simp only [if_neg hi]; exact atx_out h hl i hi
  | none => exact atx_of w _ x i (array_none ((h.keep (Chg.alloc No w (.cells #[.int .i64 x.f0, .int .i64 x.f1, .string x.f2] 23)) (fun _ _ _ hn => hn)).keep (Chg.alloc No _ (.cells #[.int .i64 0, .int .i64 0, .string ⟨#[]⟩] 23)) (fun _ _ _ hn => hn)) hl)
end
end Go.Proofs.YtdheakalfleleaaDoor.Val
namespace Go.Proofs.YtdheakalfleleaaDoor.Val
open Go.RowKit Go.Proofs.YtdheakalfleleaaDoor.POper Go.Proofs.YtdheakalfleleaaDoorW.PrintWords Go.Proofs.YtdheakalfleleaaDoorW.PrintLast Go.Proofs.YtdheakalfleleaaDoorW.PrintMore
open Go.ChangeMaps (setBlock)
set_option linter.unusedVariables false
set_option linter.unusedSimpArgs false
section
variable {w : World} {O : Nat → Prop} {p : Nat} {v : Value} {xs : List (Bool × Nat)} {Os : Nat → Nat → Prop} {D : List Th}
theorem HPw.finish (h : HPw w O p v xs Os D) {W1 W : World} {n : Nat} {t : Th} (hb : Below w.heap.size w W1) (hc : Chg (Os n) W1 W) (ht : PT W (fun k => Os n k ∨ W1.heap.size ≤ k) (xs.getD n (false, 0)) t) : HP W (Grow O w W) p (D.set n t) ∧ Chg O w W := by
  have h1 := (h.keep (Q := No) (Chg.of_below hb) (fun _ _ _ hn => hn)).upd hc ht
  refine ⟨⟨_, _, _, h1.mono (fun k hk hlt => ?_)⟩, ((Chg.of_below (O := No) hb).trans hc).mono (fun k hk hq => ?_)⟩
  · rcases hk with hk | hk
    · by_cases hw : k < w.heap.size
      · exact Or.inl ⟨hk.1, hw⟩
      · exact Or.inr ⟨by omega, hlt⟩
    · exact Or.inr ⟨by have := hb.size; omega, hlt⟩
  · rcases hq with hq | hq
    · exact hq.elim
    · exact (h.sub n k hq.1).1
theorem chg_setBlock {O : Nat → Prop} (W : World) {m : Nat} (hm : O m) (o : Obj) : Chg O W (setBlock W m o) :=
  ⟨rfl, rfl, rfl, by simp [setBlock], fun k hk ho => by
    have hne : m ≠ k := fun e => ho (e ▸ hm)
    simp [setBlock, Array.getElem?_setIfInBounds, hne]⟩
set_option maxHeartbeats 2000000 in
set_option maxRecDepth 100000 in
theorem set_some (h : HPw w O p v xs Os D) {x y : S23} {kv : List (ByteArray × S23)} (hl : objAt D x = some kv) (n : ByteArray) :
    Calls Tryd.prog 69 #[.pointer (some ⟨p, 0, none⟩), .agg #[.int .i64 x.f0, .int .i64 x.f1, .string x.f2], .string n, .agg #[.int .i64 y.f0, .int .i64 y.f1, .string y.f2]] w fun e w' => e = .returned (.bool true) ∧ HP w' (Grow O w w') p (D.set x.f1.toNat (.obj (kvPut kv n y))) ∧ Chg O w w' := by
  have h1 := (h.keep (Chg.alloc No w (.cells #[.int .i64 x.f0, .int .i64 x.f1, .string x.f2] 23)) (fun _ _ _ hn => hn)).keep (Chg.alloc No _ (.cells #[.int .i64 y.f0, .int .i64 y.f1, .string y.f2] 23)) (fun _ _ _ hn => hn)
  have H1 := Aside0.mk (object_some h1 hl)
  have HH := Aside0.mk h
  have HT := Aside0.mk (h1.th _ _ (objAt_some hl).2.2.2)
  clear h h1
  have BX0 := Aside0.mk (new2 w (.cells #[.int .i64 x.f0, .int .i64 x.f1, .string x.f2] 23) (.cells #[.int .i64 y.f0, .int .i64 y.f1, .string y.f2] 23))
  obtain ⟨r, hr⟩ : ∃ r, xs.getD x.f1.toNat (false, 0) = r := ⟨_, rfl⟩
  rw [hr] at H1 HT
  have HR := Aside0.mk hr
  clear hr
  go_enter Tryd.func69, Tryd.ntmps69
  go_wp2_with (first
    | (go_at_call 79; refine H1.out.mono ?_; rintro e w' ⟨rfl, hb⟩; obtain ⟨q1, q2, m, es, c, hblk, qm, hm, he⟩ := HT.out.step (fun k _ hk => hb.block k hk); have hc : w'.cell? ⟨r.2, 0, none⟩ = some (.map (some m)) := (blk_cell hblk 0).trans rfl; have HQ := Aside0.mk (And.intro q1 (And.intro q2 (And.intro qm hblk))); clear q1 q2 qm hblk; have bx := blk_below BX0.out hb; obtain ⟨⟨b0, b1, b2⟩, f0, f1, f2⟩ := box3 bx; have HM := Aside0.mk hm; have HE := Aside0.mk he; clear hm he; clear bx; have HB := Aside0.mk hb; clear hb))
  go_still_tail 6, (by kernel_rfl)
  change wpList _ _ _ _ _ w'.drew
  obtain ⟨es', c', hrun, he'⟩ := run_put (w := w'.drew) HM.out HE.out n y
  unfold enc at hrun
  have HE' := Aside0.mk he'
  clear he'
  go_wp2
  go_ret
  obtain ⟨q1, q2, qm, hblk⟩ := HQ.out
  refine ⟨rfl, HH.out.finish (below_drew1 (below_step (below_alloc (below_alloc (Below.refl _ _) _) _) HB.out)) (chg_setBlock _ qm _) ?_⟩
  rw [HR.out]
  have hne : r.2 ≠ m := fun e => by rw [e, HM.out] at hblk; cases hblk
  exact ⟨q1, Or.inl q2, m, es', c', ((chg_setBlock (O := fun k => k = m) w'.drew rfl _).blk hblk hne), Or.inl qm, ChangeMaps.heap_setBlock_same (w := w'.drew) HM.out _, HE'.out⟩
theorem HPw.same (h : HPw w O p v xs Os D) {W : World} (hb : Below w.heap.size w W) : HP W (Grow O w W) p D ∧ Chg O w W :=
  ⟨⟨_, _, _, (h.keep (Q := No) (Chg.of_below hb) (fun _ _ _ hn => hn)).mono (fun k hk hlt => by
    by_cases hw : k < w.heap.size
    · exact Or.inl ⟨hk, hw⟩
    · exact Or.inr ⟨by omega, hlt⟩)⟩, Chg.of_below hb⟩
set_option maxHeartbeats 2000000 in
set_option maxRecDepth 100000 in
theorem set_of (w : World) (q : Option Addr) (x y : S23) (n : ByteArray) (H : Calls Tryd.prog 79 #[.pointer q, .agg #[.int .i64 x.f0, .int .i64 x.f1, .string x.f2]] ((w.alloc (.cells #[.int .i64 x.f0, .int .i64 x.f1, .string x.f2] 23)).alloc (.cells #[.int .i64 y.f0, .int .i64 y.f1, .string y.f2] 23)) fun e w' => e = .returned (.tuple #[.pointer none, .bool false]) ∧ Below ((w.alloc (.cells #[.int .i64 x.f0, .int .i64 x.f1, .string x.f2] 23)).alloc (.cells #[.int .i64 y.f0, .int .i64 y.f1, .string y.f2] 23)).heap.size ((w.alloc (.cells #[.int .i64 x.f0, .int .i64 x.f1, .string x.f2] 23)).alloc (.cells #[.int .i64 y.f0, .int .i64 y.f1, .string y.f2] 23)) w') :
    Calls Tryd.prog 69 #[.pointer q, .agg #[.int .i64 x.f0, .int .i64 x.f1, .string x.f2], .string n, .agg #[.int .i64 y.f0, .int .i64 y.f1, .string y.f2]] w fun e w' => e = .returned (.bool false) ∧ Below w.heap.size w w' := by
  have H1 := Aside0.mk H
  clear H
  go_enter Tryd.func69, Tryd.ntmps69
  go_wp2_with (first
    | (go_at_call 79; refine H1.out.mono ?_; rintro e w' ⟨rfl, hb⟩; have HB := Aside0.mk hb; clear hb))
  go_ret
  exact ⟨rfl, below_step (below_alloc (below_alloc (Below.refl _ _) _) _) HB.out⟩
def oSet (D : List Th) (x : S23) (n : ByteArray) (y : S23) : List Th × Bool := match objAt D x with | some kv => (D.set x.f1.toNat (.obj (kvPut kv n y)), true) | none => (D, false)
theorem set_calls (h : HP w O p D) (x y : S23) (n : ByteArray) :
    Calls Tryd.prog 69 #[.pointer (some ⟨p, 0, none⟩), .agg #[.int .i64 x.f0, .int .i64 x.f1, .string x.f2], .string n, .agg #[.int .i64 y.f0, .int .i64 y.f1, .string y.f2]] w fun e w' => e = .returned (.bool (oSet D x n y).2) ∧ HP w' (Grow O w w') p (oSet D x n y).1 ∧ Chg O w w' := by
  obtain ⟨v, xs, Os, h⟩ := h
  unfold oSet
  cases hl : objAt D x with
  | some kv => exact set_some h hl n
  | none => exact (set_of w _ x y n (object_none ((h.keep (Chg.alloc No w (.cells #[.int .i64 x.f0, .int .i64 x.f1, .string x.f2] 23)) (fun _ _ _ hn => hn)).keep (Chg.alloc No _ (.cells #[.int .i64 y.f0, .int .i64 y.f1, .string y.f2] 23)) (fun _ _ _ hn => hn)) hl)).mono fun e w' ⟨he, hb⟩ => ⟨he, h.same hb⟩
end
end Go.Proofs.YtdheakalfleleaaDoor.Val
namespace Go.Proofs.YtdheakalfleleaaDoor.Val
open Go.RowKit Go.Proofs.YtdheakalfleleaaDoor.POper Go.Proofs.YtdheakalfleleaaDoorW.PrintWords Go.Proofs.YtdheakalfleleaaDoorW.PrintLast Go.Proofs.YtdheakalfleleaaDoorW.PrintMore
set_option linter.unusedVariables false
set_option linter.unusedSimpArgs false
theorem info32 : (Tryd.prog.info? 23).map (fun i => (i.zero, i.size, i.bytes)) = some (some (.agg #[(.int .i64 0), (.int .i64 0), (.string ⟨#[]⟩)]), k23.sz, 32) := by kernel_rfl
section
variable {w : World} {O : Nat → Prop} {p : Nat} {v : Value} {xs : List (Bool × Nat)} {Os : Nat → Nat → Prop} {D : List Th}
set_option maxHeartbeats 2000000 in
set_option maxRecDepth 100000 in
theorem push_some (h : HPw w O p v xs Os D) {x y : S23} {l : List S23} (hl : arrAt D x = some l) (hmax : l.length < 1000000000000) :
    Calls Tryd.prog 66 #[.pointer (some ⟨p, 0, none⟩), .agg #[.int .i64 x.f0, .int .i64 x.f1, .string x.f2], .agg #[.int .i64 y.f0, .int .i64 y.f1, .string y.f2]] w fun e w' => e = .returned (.bool true) ∧ HP w' (Grow O w w') p (D.set x.f1.toNat (.arr (l ++ [y]))) ∧ Chg O w w' := by
  have h1 := (h.keep (Chg.alloc No w (.cells #[.int .i64 x.f0, .int .i64 x.f1, .string x.f2] 23)) (fun _ _ _ hn => hn)).keep (Chg.alloc No _ (.cells #[.int .i64 y.f0, .int .i64 y.f1, .string y.f2] 23)) (fun _ _ _ hn => hn)
  have H1 := Aside0.mk (array_some h1 hl)
  have HH := Aside0.mk h
  have HT := Aside0.mk (h1.th _ _ (arrAt_some hl).2.2.2)
  clear h h1
  have BX0 := Aside0.mk (new2 w (.cells #[.int .i64 x.f0, .int .i64 x.f1, .string x.f2] 23) (.cells #[.int .i64 y.f0, .int .i64 y.f1, .string y.f2] 23))
  obtain ⟨r, hr⟩ : ∃ r, xs.getD x.f1.toNat (false, 0) = r := ⟨_, rfl⟩
  rw [hr] at H1 HT
  have HR := Aside0.mk hr
  clear hr
  go_enter Tryd.func66, Tryd.ntmps66
  go_wp2_with (first
    | (go_at_call 77; refine H1.out.mono ?_; rintro e w' ⟨rfl, hb⟩; obtain ⟨q1, q2, sv, hblk, hrow⟩ := HT.out.step (fun k _ hk => hb.block k hk); have hc : w'.cell? ⟨r.2, 0, none⟩ = some sv := (blk_cell hblk 0).trans rfl; have HQ := Aside0.mk (And.intro q1 (And.intro q2 (And.intro hrow hblk))); clear q1 q2 hrow hblk; have bx := blk_below BX0.out hb; obtain ⟨⟨b0, b1, b2⟩, f0, f1, f2⟩ := box3 bx; clear bx; have HB := Aside0.mk hb; clear hb))
  have HN : Aside0 (some r.2 ≠ sv.ownBlock ∧ some (w.heap.size + 1) ≠ sv.ownBlock) := ⟨Kd.R_ne HQ.out.2.2.1 HQ.out.2.2.2 (by decide), fun e => by have := (HH.out.sub _ _ (HQ.out.2.2.1.1 _ e.symm)).2; omega⟩
  refine start_ (n := 11) (S := fun w' => w'.cell? ⟨r.2, 0, none⟩ = some sv ∧ w'.cell? ⟨w.heap.size + 1, 0, none⟩ = some (.int .i64 y.f0) ∧ w'.cell? ⟨w.heap.size + 1, 1, none⟩ = some (.int .i64 y.f1) ∧ w'.cell? ⟨w.heap.size + 1, 2, none⟩ = some (.string y.f2)) (ds := [10]) #[false, false, false, false, false, false, false, false, false, false, false] (by kernel_rfl) rfl rfl ⟨hc, b0, b1, b2⟩ (fun hHeld => ?_)
  refine pure_ (i := 0) (N := some 16) (v := ?_) (a' := ?_) #[true, false, false, false, false, false, false, false, false, false, false] rfl rfl (by kernel_rfl) (fun _ _ _ h => h) (Or.inl ⟨by rfl, ?_⟩) ?_ ?_
  rotate_left
  · intro w'
    go_simp
    with_reducible rfl
  rotate_left
  · simp only [Act.put, List.setIfInBounds_toArray, List.set_cons_zero, List.set_cons_succ, i64_w, i32_w]
    rfl
  refine pure_ (i := 1) (N := some 17) (v := ?_) (a' := ?_) #[true, true, false, false, false, false, false, false, false, false, false] rfl rfl (by kernel_rfl) (fun _ _ _ h => h) (Or.inl ⟨by rfl, ?_⟩) ?_ ?_
  rotate_left
  · intro w'
    go_simp
    with_reducible rfl
  rotate_left
  · simp only [Act.put, List.setIfInBounds_toArray, List.set_cons_zero, List.set_cons_succ, i64_w, i32_w]
    rfl
  refine pure_ (i := 2) (N := some 18) (v := ?_) (a' := ?_) #[true, true, true, false, false, false, false, false, false, false, false] rfl rfl (by kernel_rfl) (fun _ _ _ h => h) (Or.inl ⟨by rfl, ?_⟩) ?_ ?_
  rotate_left
  · intro w'
    go_simp
    with_reducible rfl
  rotate_left
  · simp only [Act.put, List.setIfInBounds_toArray, List.set_cons_zero, List.set_cons_succ, i64_w, i32_w]
    rfl
  refine pure_ (i := 3) (N := some 19) (v := ?_) (a' := ?_) #[true, true, true, true, false, false, false, false, false, false, false] rfl rfl (by kernel_rfl) (fun _ _ _ h => h) (Or.inl ⟨by rfl, ?_⟩) ?_ ?_
  rotate_left
  · intro w'
    go_simp
    with_reducible rfl
  rotate_left
  · simp only [Act.put, List.setIfInBounds_toArray, List.set_cons_zero, List.set_cons_succ, i64_w, i32_w]
    rfl
  refine take_ (i := 4) (N := some 20) (v := ?_) (a' := ?_) #[true, true, true, true, true, false, false, false, false, false, false] rfl rfl (by kernel_rfl) (fun _ _ _ h => h) (Or.inl ⟨by rfl, ?_⟩) hHeld ?_ ?_
  rotate_left
  · rintro w' ⟨s0, s1, s2, s3⟩
    go_simp
    with_reducible rfl
  rotate_left
  · simp only [Act.put, List.setIfInBounds_toArray, List.set_cons_zero, List.set_cons_succ, i64_w, i32_w]
    rfl
  refine take_ (i := 5) (N := some 21) (v := ?_) (a' := ?_) #[true, true, true, true, true, true, false, false, false, false, false] rfl rfl (by kernel_rfl) (fun _ _ _ h => h) (Or.inl ⟨by rfl, ?_⟩) hHeld ?_ ?_
  rotate_left
  · rintro w' ⟨s0, s1, s2, s3⟩
    go_simp
    with_reducible rfl
  rotate_left
  · simp only [Act.put, List.setIfInBounds_toArray, List.set_cons_zero, List.set_cons_succ, i64_w, i32_w]
    rfl
  refine one_ (i := 6) (N := some 22) #[true, true, true, true, true, true, true, false, false, false, false] rfl rfl (by kernel_rfl) (by decide) (fun K hK => ?_)
  refine value_ (w1 := ?_) (v := ?_) (by rfl) rfl ?_ ?_
  rotate_left 2
  · go_simp
    constructor
    · rfl
    · rfl
  refine hK.out _ _ ⟨cell_alloc hHeld.1 _, cell_alloc hHeld.2.1 _, cell_alloc hHeld.2.2.1 _, cell_alloc hHeld.2.2.2 _⟩ (fun hHeld => ?_)
  clear hK K
  refine norm_ (a' := ?_) ?_ ?_
  rotate_left
  · show Act.put _ (some 22) _ = _
    simp only [Act.put, List.setIfInBounds_toArray, List.set_cons_zero, List.set_cons_succ, i64_w, i32_w]
    rfl
  refine one_ (i := 7) (N := some 23) #[true, true, true, true, true, true, true, true, false, false, false] rfl rfl (by kernel_rfl) (by decide) (fun K hK => ?_)
  obtain ⟨q1, q2, hrow, hblk⟩ := HQ.out
  refine Kd.R_append_step k23 (w0 := w'.drew) 0 (by rfl) (.tmp 20) (.tmp 22) 64 23 (.agg #[(.int .i64 0), (.int .i64 0), (.string ⟨#[]⟩)]) 32 rfl Tryd.underlying64 info32 rfl (by decide) (by omega) sv l y [.int .i64 y.f0, .int .i64 y.f1, .string y.f2] (fun k => Os x.f1.toNat k ∨ w'.drew.heap.size ≤ k) (fun k => (Os x.f1.toNat k ∨ w'.drew.heap.size ≤ k) ∧ some k ≠ sv.ownBlock) rfl rfl (k23_mkM _ _ _ y) (fun _ hk => hk) (fun k hk => Or.inr hk) (Kd.R_mono hrow (fun k hk => Or.inl hk)) (Below.refl _ _) (by omega) (by omega) ?_
  intro v1 w1 hrow1 _ hgrow hat
  obtain ⟨A1, c1, ev1⟩ := Kd.R_slice hrow1
  subst ev1
  refine hK.out _ _ ⟨hgrow.cell (show w'.drew.cell? _ = _ from hc) HN.out.1, hgrow.cell (show w'.drew.cell? _ = _ from b0) HN.out.2, hgrow.cell (show w'.drew.cell? _ = _ from b1) HN.out.2, hgrow.cell (show w'.drew.cell? _ = _ from b2) HN.out.2⟩ (fun hHeld => ?_)
  clear hK K
  refine norm_ (a' := ?_) ?_ ?_
  rotate_left
  · show Act.put _ (some 23) _ = _
    simp only [Act.put, List.setIfInBounds_toArray, List.set_cons_zero, List.set_cons_succ, i64_w, i32_w]
    rfl
  refine pure_ (i := 8) (N := some 24) (v := ?_) (a' := ?_) #[true, true, true, true, true, true, true, true, true, false, false] rfl rfl (by kernel_rfl) (fun _ _ _ h => h) (Or.inl ⟨by rfl, ?_⟩) ?_ ?_
  rotate_left
  · intro w'
    go_simp
    with_reducible rfl
  rotate_left
  · simp only [Act.put, List.setIfInBounds_toArray, List.set_cons_zero, List.set_cons_succ, i64_w, i32_w]
    rfl
  refine pure_ (i := 9) (N := some 25) (v := ?_) (a' := ?_) #[true, true, true, true, true, true, true, true, true, true, false] rfl rfl (by kernel_rfl) (fun _ _ _ h => h) (Or.inl ⟨by rfl, ?_⟩) ?_ ?_
  rotate_left
  · intro w'
    go_simp
    with_reducible rfl
  rotate_left
  · simp only [Act.put, List.setIfInBounds_toArray, List.set_cons_zero, List.set_cons_succ, i64_w, i32_w]
    rfl
  refine last_ (i := 10) (N := none) #[true, true, true, true, true, true, true, true, true, true, true] rfl rfl (by kernel_rfl) (by decide) (fun K hK => ?_)
  have hblk1 : w1.heap[r.2]? = some (.cells #[sv] 96 (0, 0)) := blk_grown (show w'.drew.heap[r.2]? = _ from hblk) hgrow HN.out.1
  have hs1 : w1.cell? ⟨r.2, 0, none⟩ = some sv := hHeld.1
  have hs2 := blk_frozen hblk1 0
  refine skip_ (w1 := ?_) (by rfl) rfl ?_ ?_
  rotate_left
  · go_simp
    rfl
  refine hK.out _ _ ?_
  clear hK K
  refine done_ (by kernel_rfl) ?_
  go_wp2
  go_ret
  have hb1 : Below w.heap.size w w'.drew := below_drew1 (below_step (below_alloc (below_alloc (Below.refl _ _) _) _) HB.out)
  refine ⟨rfl, HH.out.finish (n := x.f1.toNat) hb1 ?_ ?_⟩
  · refine ((Chg.of_grown (O := fun k => some k = sv.ownBlock) hgrow (fun k hk => hk.symm)).trans (Chg.setCell (O := fun k => k = r.2) w1 ⟨r.2, 0, none⟩ _ rfl)).mono (fun k hk hq => ?_)
    rcases hq with hq | hq
    · exact hrow.1 k hq.symm
    · rw [hq.1]; exact q2
  · rw [HR.out]
    exact ⟨q1, Or.inl q2, _, blk_put hblk1 0 _ rfl, by have h_ := Kd.R_set hrow1 hblk1 (by decide) 0 (Value.slice A1 (l.length + 1) c1); rw [show (l ++ [y]).length = l.length + 1 by simp] at h_; exact h_⟩
end
end Go.Proofs.YtdheakalfleleaaDoor.Val
namespace Go.Proofs.YtdheakalfleleaaDoor.Val
open Go.RowKit Go.Proofs.YtdheakalfleleaaDoor.POper Go.Proofs.YtdheakalfleleaaDoorW.PrintWords Go.Proofs.YtdheakalfleleaaDoorW.PrintLast Go.Proofs.YtdheakalfleleaaDoorW.PrintMore
set_option linter.unusedVariables false
set_option linter.unusedSimpArgs false
section
variable {w : World} {O : Nat → Prop} {p : Nat} {v : Value} {xs : List (Bool × Nat)} {Os : Nat → Nat → Prop} {D : List Th}
set_option maxHeartbeats 2000000 in
set_option maxRecDepth 100000 in
theorem push_of (w : World) (q : Option Addr) (x y : S23) (H : Calls Tryd.prog 77 #[.pointer q, .agg #[.int .i64 x.f0, .int .i64 x.f1, .string x.f2]] ((w.alloc (.cells #[.int .i64 x.f0, .int .i64 x.f1, .string x.f2] 23)).alloc (.cells #[.int .i64 y.f0, .int .i64 y.f1, .string y.f2] 23)) fun e w' => e = .returned (.tuple #[.pointer none, .bool false]) ∧ Below ((w.alloc (.cells #[.int .i64 x.f0, .int .i64 x.f1, .string x.f2] 23)).alloc (.cells #[.int .i64 y.f0, .int .i64 y.f1, .string y.f2] 23)).heap.size ((w.alloc (.cells #[.int .i64 x.f0, .int .i64 x.f1, .string x.f2] 23)).alloc (.cells #[.int .i64 y.f0, .int .i64 y.f1, .string y.f2] 23)) w') :
    Calls Tryd.prog 66 #[.pointer q, .agg #[.int .i64 x.f0, .int .i64 x.f1, .string x.f2], .agg #[.int .i64 y.f0, .int .i64 y.f1, .string y.f2]] w fun e w' => e = .returned (.bool false) ∧ Below w.heap.size w w' := by
  have H1 := Aside0.mk H
  clear H
  go_enter Tryd.func66, Tryd.ntmps66
  go_wp2_with (first
    | (go_at_call 77; refine H1.out.mono ?_; rintro e w' ⟨rfl, hb⟩; have HB := Aside0.mk hb; clear hb))
  go_ret
  exact ⟨rfl, below_step (below_alloc (below_alloc (Below.refl _ _) _) _) HB.out⟩
def aPush (D : List Th) (x y : S23) : List Th × Bool := match arrAt D x with | some l => (D.set x.f1.toNat (.arr (l ++ [y])), true) | none => (D, false)
def Room (D : List Th) (N : Nat) : Prop := D.length ≤ N ∧ ∀ t, t ∈ D → match t with | .arr l => l.length ≤ N | .obj kv => kv.length ≤ N
theorem Room.arr {D : List Th} {N : Nat} (h : Room D N) {x : S23} {l : List S23} (hl : arrAt D x = some l) : l.length ≤ N := h.2 _ (List.mem_of_getElem? (arrAt_some hl).2.2.2)
theorem push_calls (h : HP w O p D) (x y : S23) (hR : Room D 100000000000) :
    Calls Tryd.prog 66 #[.pointer (some ⟨p, 0, none⟩), .agg #[.int .i64 x.f0, .int .i64 x.f1, .string x.f2], .agg #[.int .i64 y.f0, .int .i64 y.f1, .string y.f2]] w fun e w' => e = .returned (.bool (aPush D x y).2) ∧ HP w' (Grow O w w') p (aPush D x y).1 ∧ Chg O w w' := by
  obtain ⟨v, xs, Os, h⟩ := h
  unfold aPush
  cases hl : arrAt D x with
  | some l => exact push_some h hl (by have := hR.arr hl; omega)
  | none => exact (push_of w _ x y (array_none ((h.keep (Chg.alloc No w (.cells #[.int .i64 x.f0, .int .i64 x.f1, .string x.f2] 23)) (fun _ _ _ hn => hn)).keep (Chg.alloc No _ (.cells #[.int .i64 y.f0, .int .i64 y.f1, .string y.f2] 23)) (fun _ _ _ hn => hn)) hl)).mono fun e w' ⟨he, hb⟩ => ⟨he, h.same hb⟩
set_option maxHeartbeats 2000000 in
set_option maxRecDepth 100000 in
theorem put_end (h : HPw w O p v xs Os D) {x y : S23} {l : List S23} (hl : arrAt D x = some l) (hmax : l.length < 1000000000000) :
    Calls Tryd.prog 68 #[.pointer (some ⟨p, 0, none⟩), .agg #[.int .i64 x.f0, .int .i64 x.f1, .string x.f2], .int .i64 l.length, .agg #[.int .i64 y.f0, .int .i64 y.f1, .string y.f2]] w fun e w' => e = .returned (.bool true) ∧ HP w' (Grow O w w') p (D.set x.f1.toNat (.arr (l ++ [y]))) ∧ Chg O w w' := by
  have h1 := (h.keep (Chg.alloc No w (.cells #[.int .i64 x.f0, .int .i64 x.f1, .string x.f2] 23)) (fun _ _ _ hn => hn)).keep (Chg.alloc No _ (.cells #[.int .i64 y.f0, .int .i64 y.f1, .string y.f2] 23)) (fun _ _ _ hn => hn)
  have H1 := Aside0.mk (array_some h1 hl)
  have HH := Aside0.mk h
  have HT := Aside0.mk (h1.th _ _ (arrAt_some hl).2.2.2)
  clear h h1
  have BX0 := Aside0.mk (new2 w (.cells #[.int .i64 x.f0, .int .i64 x.f1, .string x.f2] 23) (.cells #[.int .i64 y.f0, .int .i64 y.f1, .string y.f2] 23))
  obtain ⟨r, hr⟩ : ∃ r, xs.getD x.f1.toNat (false, 0) = r := ⟨_, rfl⟩
  rw [hr] at H1 HT
  have HR := Aside0.mk hr
  clear hr
  go_enter Tryd.func68, Tryd.ntmps68
  go_wp2_with (first
    | (go_at_call 77; refine H1.out.mono ?_; rintro e w' ⟨rfl, hb⟩; obtain ⟨q1, q2, sv, hblk, hrow⟩ := HT.out.step (fun k _ hk => hb.block k hk); obtain ⟨As, cs_, esv⟩ := Kd.R_slice hrow; subst esv; have hc : w'.cell? ⟨r.2, 0, none⟩ = some (.slice As l.length cs_) := (blk_cell hblk 0).trans rfl; have HQ := Aside0.mk (And.intro q1 (And.intro q2 (And.intro hrow hblk))); clear q1 q2 hrow hblk; have bx := blk_below BX0.out hb; obtain ⟨⟨b0, b1, b2⟩, f0, f1, f2⟩ := box3 bx; clear bx; have HB := Aside0.mk hb; clear hb))
  have HN : Aside0 (some r.2 ≠ (Value.slice As l.length cs_).ownBlock ∧ some (w.heap.size + 1) ≠ (Value.slice As l.length cs_).ownBlock) := ⟨Kd.R_ne HQ.out.2.2.1 HQ.out.2.2.2 (by decide), fun e => by have := (HH.out.sub _ _ (HQ.out.2.2.1.1 _ e.symm)).2; omega⟩
  refine start_ (n := 11) (S := fun w' => w'.cell? ⟨r.2, 0, none⟩ = some (.slice As l.length cs_) ∧ w'.cell? ⟨w.heap.size + 1, 0, none⟩ = some (.int .i64 y.f0) ∧ w'.cell? ⟨w.heap.size + 1, 1, none⟩ = some (.int .i64 y.f1) ∧ w'.cell? ⟨w.heap.size + 1, 2, none⟩ = some (.string y.f2)) (ds := [10]) #[false, false, false, false, false, false, false, false, false, false, false] (by kernel_rfl) rfl rfl ⟨hc, b0, b1, b2⟩ (fun hHeld => ?_)
  refine pure_ (i := 0) (N := some 48) (v := ?_) (a' := ?_) #[true, false, false, false, false, false, false, false, false, false, false] rfl rfl (by kernel_rfl) (fun _ _ _ h => h) (Or.inl ⟨by rfl, ?_⟩) ?_ ?_
  rotate_left
  · intro w'
    go_simp
    with_reducible rfl
  rotate_left
  · simp only [Act.put, List.setIfInBounds_toArray, List.set_cons_zero, List.set_cons_succ, i64_w, i32_w]
    rfl
  refine pure_ (i := 1) (N := some 49) (v := ?_) (a' := ?_) #[true, true, false, false, false, false, false, false, false, false, false] rfl rfl (by kernel_rfl) (fun _ _ _ h => h) (Or.inl ⟨by rfl, ?_⟩) ?_ ?_
  rotate_left
  · intro w'
    go_simp
    with_reducible rfl
  rotate_left
  · simp only [Act.put, List.setIfInBounds_toArray, List.set_cons_zero, List.set_cons_succ, i64_w, i32_w]
    rfl
  refine pure_ (i := 2) (N := some 50) (v := ?_) (a' := ?_) #[true, true, true, false, false, false, false, false, false, false, false] rfl rfl (by kernel_rfl) (fun _ _ _ h => h) (Or.inl ⟨by rfl, ?_⟩) ?_ ?_
  rotate_left
  · intro w'
    go_simp
    with_reducible rfl
  rotate_left
  · simp only [Act.put, List.setIfInBounds_toArray, List.set_cons_zero, List.set_cons_succ, i64_w, i32_w]
    rfl
  refine pure_ (i := 3) (N := some 51) (v := ?_) (a' := ?_) #[true, true, true, true, false, false, false, false, false, false, false] rfl rfl (by kernel_rfl) (fun _ _ _ h => h) (Or.inl ⟨by rfl, ?_⟩) ?_ ?_
  rotate_left
  · intro w'
    go_simp
    with_reducible rfl
  rotate_left
  · simp only [Act.put, List.setIfInBounds_toArray, List.set_cons_zero, List.set_cons_succ, i64_w, i32_w]
    rfl
  refine take_ (i := 4) (N := some 52) (v := ?_) (a' := ?_) #[true, true, true, true, true, false, false, false, false, false, false] rfl rfl (by kernel_rfl) (fun _ _ _ h => h) (Or.inl ⟨by rfl, ?_⟩) hHeld ?_ ?_
  rotate_left
  · rintro w' ⟨s0, s1, s2, s3⟩
    go_simp
    with_reducible rfl
  rotate_left
  · simp only [Act.put, List.setIfInBounds_toArray, List.set_cons_zero, List.set_cons_succ, i64_w, i32_w]
    rfl
  refine take_ (i := 5) (N := some 53) (v := ?_) (a' := ?_) #[true, true, true, true, true, true, false, false, false, false, false] rfl rfl (by kernel_rfl) (fun _ _ _ h => h) (Or.inl ⟨by rfl, ?_⟩) hHeld ?_ ?_
  rotate_left
  · rintro w' ⟨s0, s1, s2, s3⟩
    go_simp
    with_reducible rfl
  rotate_left
  · simp only [Act.put, List.setIfInBounds_toArray, List.set_cons_zero, List.set_cons_succ, i64_w, i32_w]
    rfl
  refine one_ (i := 6) (N := some 54) #[true, true, true, true, true, true, true, false, false, false, false] rfl rfl (by kernel_rfl) (by decide) (fun K hK => ?_)
  refine value_ (w1 := ?_) (v := ?_) (by rfl) rfl ?_ ?_
  rotate_left 2
  · go_simp
    constructor
    · rfl
    · rfl
  refine hK.out _ _ ⟨cell_alloc hHeld.1 _, cell_alloc hHeld.2.1 _, cell_alloc hHeld.2.2.1 _, cell_alloc hHeld.2.2.2 _⟩ (fun hHeld => ?_)
  clear hK K
  refine norm_ (a' := ?_) ?_ ?_
  rotate_left
  · show Act.put _ (some 54) _ = _
    simp only [Act.put, List.setIfInBounds_toArray, List.set_cons_zero, List.set_cons_succ, i64_w, i32_w]
    rfl
  refine one_ (i := 7) (N := some 55) #[true, true, true, true, true, true, true, true, false, false, false] rfl rfl (by kernel_rfl) (by decide) (fun K hK => ?_)
  obtain ⟨q1, q2, hrow, hblk⟩ := HQ.out
  refine Kd.R_append_step k23 (w0 := w'.drew) 0 (by rfl) (.tmp 52) (.tmp 54) 64 23 (.agg #[(.int .i64 0), (.int .i64 0), (.string ⟨#[]⟩)]) 32 rfl Tryd.underlying64 info32 rfl (by decide) (by omega) (.slice As l.length cs_) l y [.int .i64 y.f0, .int .i64 y.f1, .string y.f2] (fun k => Os x.f1.toNat k ∨ w'.drew.heap.size ≤ k) (fun k => (Os x.f1.toNat k ∨ w'.drew.heap.size ≤ k) ∧ some k ≠ (Value.slice As l.length cs_).ownBlock) rfl rfl (k23_mkM _ _ _ y) (fun _ hk => hk) (fun k hk => Or.inr hk) (Kd.R_mono hrow (fun k hk => Or.inl hk)) (Below.refl _ _) (by omega) (by omega) ?_
  intro v1 w1 hrow1 _ hgrow hat
  obtain ⟨A1, c1, ev1⟩ := Kd.R_slice hrow1
  subst ev1
  refine hK.out _ _ ⟨hgrow.cell (show w'.drew.cell? _ = _ from hc) HN.out.1, hgrow.cell (show w'.drew.cell? _ = _ from b0) HN.out.2, hgrow.cell (show w'.drew.cell? _ = _ from b1) HN.out.2, hgrow.cell (show w'.drew.cell? _ = _ from b2) HN.out.2⟩ (fun hHeld => ?_)
  clear hK K
  refine norm_ (a' := ?_) ?_ ?_
  rotate_left
  · show Act.put _ (some 55) _ = _
    simp only [Act.put, List.setIfInBounds_toArray, List.set_cons_zero, List.set_cons_succ, i64_w, i32_w]
    rfl
  refine pure_ (i := 8) (N := some 56) (v := ?_) (a' := ?_) #[true, true, true, true, true, true, true, true, true, false, false] rfl rfl (by kernel_rfl) (fun _ _ _ h => h) (Or.inl ⟨by rfl, ?_⟩) ?_ ?_
  rotate_left
  · intro w'
    go_simp
    with_reducible rfl
  rotate_left
  · simp only [Act.put, List.setIfInBounds_toArray, List.set_cons_zero, List.set_cons_succ, i64_w, i32_w]
    rfl
  refine pure_ (i := 9) (N := some 57) (v := ?_) (a' := ?_) #[true, true, true, true, true, true, true, true, true, true, false] rfl rfl (by kernel_rfl) (fun _ _ _ h => h) (Or.inl ⟨by rfl, ?_⟩) ?_ ?_
  rotate_left
  · intro w'
    go_simp
    with_reducible rfl
  rotate_left
  · simp only [Act.put, List.setIfInBounds_toArray, List.set_cons_zero, List.set_cons_succ, i64_w, i32_w]
    rfl
  refine last_ (i := 10) (N := none) #[true, true, true, true, true, true, true, true, true, true, true] rfl rfl (by kernel_rfl) (by decide) (fun K hK => ?_)
  have hblk1 : w1.heap[r.2]? = some (.cells #[.slice As l.length cs_] 96 (0, 0)) := blk_grown (show w'.drew.heap[r.2]? = _ from hblk) hgrow HN.out.1
  have hs1 : w1.cell? ⟨r.2, 0, none⟩ = some (.slice As l.length cs_) := hHeld.1
  have hs2 := blk_frozen hblk1 0
  refine skip_ (w1 := ?_) (by rfl) rfl ?_ ?_
  rotate_left
  · go_simp
    rfl
  refine hK.out _ _ ?_
  clear hK K
  refine done_ (by kernel_rfl) ?_
  go_wp2
  go_ret
  have hb1 : Below w.heap.size w w'.drew := below_drew1 (below_step (below_alloc (below_alloc (Below.refl _ _) _) _) HB.out)
  refine ⟨rfl, HH.out.finish (n := x.f1.toNat) hb1 ?_ ?_⟩
  · refine ((Chg.of_grown (O := fun k => some k = (Value.slice As l.length cs_).ownBlock) hgrow (fun k hk => hk.symm)).trans (Chg.setCell (O := fun k => k = r.2) w1 ⟨r.2, 0, none⟩ _ rfl)).mono (fun k hk hq => ?_)
    rcases hq with hq | hq
    · exact hrow.1 k hq.symm
    · rw [hq.1]; exact q2
  · rw [HR.out]
    exact ⟨q1, Or.inl q2, _, blk_put hblk1 0 _ rfl, by have h_ := Kd.R_set hrow1 hblk1 (by decide) 0 (Value.slice A1 (l.length + 1) c1); rw [show (l ++ [y]).length = l.length + 1 by simp] at h_; exact h_⟩
end
end Go.Proofs.YtdheakalfleleaaDoor.Val
namespace Go.Proofs.YtdheakalfleleaaDoor.Val
open Go.RowKit Go.Proofs.YtdheakalfleleaaDoor.POper Go.Proofs.YtdheakalfleleaaDoorW.PrintWords Go.Proofs.YtdheakalfleleaaDoorW.PrintLast Go.Proofs.YtdheakalfleleaaDoorW.PrintMore
set_option linter.unusedVariables false
set_option linter.unusedSimpArgs false
section
variable {w : World} {O : Nat → Prop} {p : Nat} {v : Value} {xs : List (Bool × Nat)} {Os : Nat → Nat → Prop} {D : List Th}
set_option maxHeartbeats 2000000 in
set_option maxRecDepth 100000 in
theorem put_in (h : HPw w O p v xs Os D) {x y : S23} {l : List S23} (hl : arrAt D x = some l) (i : Int) (h0 : 0 ≤ i) (hi : i < (l.length : Int)) :
    Calls Tryd.prog 68 #[.pointer (some ⟨p, 0, none⟩), .agg #[.int .i64 x.f0, .int .i64 x.f1, .string x.f2], .int .i64 i, .agg #[.int .i64 y.f0, .int .i64 y.f1, .string y.f2]] w fun e w' => e = .returned (.bool true) ∧ HP w' (Grow O w w') p (D.set x.f1.toNat (.arr (l.set i.toNat y))) ∧ Chg O w w' := by
  have h1 := (h.keep (Chg.alloc No w (.cells #[.int .i64 x.f0, .int .i64 x.f1, .string x.f2] 23)) (fun _ _ _ hn => hn)).keep (Chg.alloc No _ (.cells #[.int .i64 y.f0, .int .i64 y.f1, .string y.f2] 23)) (fun _ _ _ hn => hn)
  have H1 := Aside0.mk (array_some h1 hl)
  have HH := Aside0.mk h
  have HT := Aside0.mk (h1.th _ _ (arrAt_some hl).2.2.2)
  clear h h1
  have BX0 := Aside0.mk (new2 w (.cells #[.int .i64 x.f0, .int .i64 x.f1, .string x.f2] 23) (.cells #[.int .i64 y.f0, .int .i64 y.f1, .string y.f2] 23))
  obtain ⟨r, hr⟩ : ∃ r, xs.getD x.f1.toNat (false, 0) = r := ⟨_, rfl⟩
  rw [hr] at H1 HT
  have HR := Aside0.mk hr
  clear hr
  have e1 : decide (i < 0) = false := by simpa using h0
  have e2 : decide ((l.length : Int) < i) = false := by simp; omega
  have e3 : (i == (l.length : Int)) = false := by simp; omega
  go_enter Tryd.func68, Tryd.ntmps68
  go_wp2_with (first
    | (go_at_call 77; refine H1.out.mono ?_; rintro e w' ⟨rfl, hb⟩; obtain ⟨q1, q2, sv, hblk, hrow⟩ := HT.out.step (fun k _ hk => hb.block k hk); obtain ⟨g, cp, esv, _, _, cl, hcl⟩ := Kd.R_form hrow (by omega); subst esv; have HG := Aside0.mk hcl; clear hcl; have hc : w'.cell? ⟨r.2, 0, none⟩ = some (.slice (some ⟨g, 0, none⟩) l.length cp) := (blk_cell hblk 0).trans rfl; have HQ := Aside0.mk (And.intro q1 (And.intro q2 (And.intro hrow hblk))); clear q1 q2 hrow hblk; have bx := blk_below BX0.out hb; obtain ⟨⟨b0, b1, b2⟩, f0, f1, f2⟩ := box3 bx; clear bx; have HB := Aside0.mk hb; clear hb))
  go_still_tail 7, (by kernel_rfl)
  change wpList _ _ _ _ _ w'.drew
  obtain ⟨q1, q2, hrow, hblk⟩ := HQ.out
  obtain ⟨c, hcl, hM, hcc, hcf⟩ := Kd.R_elem hrow z23 i h0 hi
  have hseg : c.take 0 ++ [Value.int .i64 y.f0, .int .i64 y.f1, .string y.f2] ++ c.drop (0 + [Value.int .i64 y.f0, .int .i64 y.f1, .string y.f2].length) = [Value.int .i64 y.f0, .int .i64 y.f1, .string y.f2] := by
    rw [List.drop_of_length_le (by rw [hcl]; exact Nat.le_refl _)]
    simp
  refine Kd.R_store k23 (w0 := w'.drew) 0 rfl rfl 23 (.tmp 23) (.tmp 22) rfl 23 i 0 l y (.agg #[.int .i64 y.f0, .int .i64 y.f1, .string y.f2]) [.int .i64 y.f0, .int .i64 y.f1, .string y.f2] c (Os x.f1.toNat) (fun k => Os x.f1.toNat k ∧ k ≠ g) (by rfl) rfl (by rfl) rfl (by kernel_rfl) (by simp [Value.oneCell']) (Kd.R_drew hrow) h0 hi hcl hcc (Nat.le_refl _) (by rw [hseg]; exact k23_mkM _ _ _ y) (fun _ hk => hk) (Below.refl _ _) ?_
  intro w1 hrow1 _ hgrow
  go_wp2
  go_ret
  have hb1 : Below w.heap.size w w'.drew := below_drew1 (below_step (below_alloc (below_alloc (Below.refl _ _) _) _) HB.out)
  refine ⟨rfl, HH.out.finish (n := x.f1.toNat) hb1 (Chg.of_grown hgrow (fun k hk => by injection hk with hk; subst hk; exact hrow.1 g rfl)) ?_⟩
  rw [HR.out]
  have hne : r.2 ≠ g := fun e => by rw [e, HG.out] at hblk; injection hblk with hblk; injection hblk with _ hblk; exact absurd hblk (by decide)
  exact ⟨q1, Or.inl q2, _, blk_grown (show w'.drew.heap[r.2]? = _ from hblk) hgrow (fun e => hne (Option.some.inj e)), Kd.R_mono hrow1 (fun k hk => Or.inl (b := w'.drew.heap.size ≤ k) hk)⟩
set_option maxHeartbeats 2000000 in
set_option maxRecDepth 100000 in
theorem put_of (w : World) (q : Option Addr) (x y : S23) (i : Int) (H : Calls Tryd.prog 77 #[.pointer q, .agg #[.int .i64 x.f0, .int .i64 x.f1, .string x.f2]] ((w.alloc (.cells #[.int .i64 x.f0, .int .i64 x.f1, .string x.f2] 23)).alloc (.cells #[.int .i64 y.f0, .int .i64 y.f1, .string y.f2] 23)) fun e w' => e = .returned (.tuple #[.pointer none, .bool false]) ∧ Below ((w.alloc (.cells #[.int .i64 x.f0, .int .i64 x.f1, .string x.f2] 23)).alloc (.cells #[.int .i64 y.f0, .int .i64 y.f1, .string y.f2] 23)).heap.size ((w.alloc (.cells #[.int .i64 x.f0, .int .i64 x.f1, .string x.f2] 23)).alloc (.cells #[.int .i64 y.f0, .int .i64 y.f1, .string y.f2] 23)) w') :
    Calls Tryd.prog 68 #[.pointer q, .agg #[.int .i64 x.f0, .int .i64 x.f1, .string x.f2], .int .i64 i, .agg #[.int .i64 y.f0, .int .i64 y.f1, .string y.f2]] w fun e w' => e = .returned (.bool false) ∧ Below w.heap.size w w' := by
  have H1 := Aside0.mk H
  clear H
  go_enter Tryd.func68, Tryd.ntmps68
  go_wp2_with (first
    | (go_at_call 77; refine H1.out.mono ?_; rintro e w' ⟨rfl, hb⟩; have HB := Aside0.mk hb; clear hb))
  go_ret
  exact ⟨rfl, below_step (below_alloc (below_alloc (Below.refl _ _) _) _) HB.out⟩
set_option maxHeartbeats 2000000 in
set_option maxRecDepth 100000 in
theorem put_out (h : HPw w O p v xs Os D) {x y : S23} {l : List S23} (hl : arrAt D x = some l) (i : Int) (hi : i < 0 ∨ (l.length : Int) < i) :
    Calls Tryd.prog 68 #[.pointer (some ⟨p, 0, none⟩), .agg #[.int .i64 x.f0, .int .i64 x.f1, .string x.f2], .int .i64 i, .agg #[.int .i64 y.f0, .int .i64 y.f1, .string y.f2]] w fun e w' => e = .returned (.bool false) ∧ Below w.heap.size w w' := by
  have h1 := (h.keep (Chg.alloc No w (.cells #[.int .i64 x.f0, .int .i64 x.f1, .string x.f2] 23)) (fun _ _ _ hn => hn)).keep (Chg.alloc No _ (.cells #[.int .i64 y.f0, .int .i64 y.f1, .string y.f2] 23)) (fun _ _ _ hn => hn)
  have H1 := Aside0.mk (array_some h1 hl)
  have HH := Aside0.mk h
  have HT := Aside0.mk (h1.th _ _ (arrAt_some hl).2.2.2)
  clear h h1
  have BX0 := Aside0.mk (new2 w (.cells #[.int .i64 x.f0, .int .i64 x.f1, .string x.f2] 23) (.cells #[.int .i64 y.f0, .int .i64 y.f1, .string y.f2] 23))
  obtain ⟨r, hr⟩ : ∃ r, xs.getD x.f1.toNat (false, 0) = r := ⟨_, rfl⟩
  rw [hr] at H1 HT
  have HR := Aside0.mk hr
  clear hr
  by_cases h0 : i < 0
  · have e1 : decide (i < 0) = true := by simpa using h0
    go_enter Tryd.func68, Tryd.ntmps68
    go_wp2_with (first
      | (go_at_call 77; refine H1.out.mono ?_; rintro e w' ⟨rfl, hb⟩; obtain ⟨q1, q2, sv, hblk, hrow⟩ := HT.out.step (fun k _ hk => hb.block k hk); have hc : w'.cell? ⟨r.2, 0, none⟩ = some sv := (blk_cell hblk 0).trans rfl; have HQ := Aside0.mk (And.intro q1 (And.intro q2 (And.intro hrow hblk))); clear q1 q2 hrow hblk; have bx := blk_below BX0.out hb; obtain ⟨⟨b0, b1, b2⟩, f0, f1, f2⟩ := box3 bx; clear bx; have HB := Aside0.mk hb; clear hb))
    go_ret
    exact ⟨rfl, below_step (below_alloc (below_alloc (Below.refl _ _) _) _) HB.out⟩
  · have e1 : decide (i < 0) = false := by simpa using h0
    have e2 : decide ((l.length : Int) < i) = true := by simp; omega
    go_enter Tryd.func68, Tryd.ntmps68
    go_wp2_with (first
      | (go_at_call 77; refine H1.out.mono ?_; rintro e w' ⟨rfl, hb⟩; obtain ⟨q1, q2, sv, hblk, hrow⟩ := HT.out.step (fun k _ hk => hb.block k hk); obtain ⟨As, cs_, esv⟩ := Kd.R_slice hrow; subst esv; have hc : w'.cell? ⟨r.2, 0, none⟩ = some (.slice As l.length cs_) := (blk_cell hblk 0).trans rfl; have HQ := Aside0.mk (And.intro q1 (And.intro q2 (And.intro hrow hblk))); clear q1 q2 hrow hblk; have bx := blk_below BX0.out hb; obtain ⟨⟨b0, b1, b2⟩, f0, f1, f2⟩ := box3 bx; clear bx; have HB := Aside0.mk hb; clear hb))
    go_ret
    exact ⟨rfl, below_step (below_alloc (below_alloc (Below.refl _ _) _) _) HB.out⟩
def aPut (D : List Th) (x : S23) (i : Int) (y : S23) : List Th × Bool := match arrAt D x with
  | some l => if 0 ≤ i ∧ i ≤ (l.length : Int) then (if i = (l.length : Int) then (D.set x.f1.toNat (.arr (l ++ [y])), true) else (D.set x.f1.toNat (.arr (l.set i.toNat y)), true)) else (D, false)
  | none => (D, false)
theorem put_calls (h : HP w O p D) (x y : S23) (i : Int) (hR : Room D 100000000000) :
    Calls Tryd.prog 68 #[.pointer (some ⟨p, 0, none⟩), .agg #[.int .i64 x.f0, .int .i64 x.f1, .string x.f2], .int .i64 i, .agg #[.int .i64 y.f0, .int .i64 y.f1, .string y.f2]] w fun e w' => e = .returned (.bool (aPut D x i y).2) ∧ HP w' (Grow O w w') p (aPut D x i y).1 ∧ Chg O w w' := by
  obtain ⟨v, xs, Os, h⟩ := h
  unfold aPut
  cases hl : arrAt D x with
  | some l =>
    by_cases hi : 0 ≤ i ∧ i ≤ (l.length : Int)
    · simp only [if_pos hi]
      by_cases he : i = (l.length : Int)
      · simp only [if_pos he]
        subst he
        exact put_end h hl (by have := hR.arr hl; omega)
      · simp only [if_neg he]
        exact put_in h hl i hi.1 (by omega)
    · simp only [if_neg hi]
      exact (put_out h hl i (by omega)).mono fun e w' ⟨he, hb⟩ => ⟨he, h.same hb⟩
  | none => exact (put_of w _ x y i (array_none ((h.keep (Chg.alloc No w (.cells #[.int .i64 x.f0, .int .i64 x.f1, .string x.f2] 23)) (fun _ _ _ hn => hn)).keep (Chg.alloc No _ (.cells #[.int .i64 y.f0, .int .i64 y.f1, .string y.f2] 23)) (fun _ _ _ hn => hn)) hl)).mono fun e w' ⟨he, hb⟩ => ⟨he, h.same hb⟩
end
end Go.Proofs.YtdheakalfleleaaDoor.Val
namespace Go.Proofs.YtdheakalfleleaaDoor.Val
open Go.RowKit Go.Proofs.YtdheakalfleleaaDoor.POper Go.Proofs.YtdheakalfleleaaDoorW.PrintWords Go.Proofs.YtdheakalfleleaaDoorW.PrintLast Go.Proofs.YtdheakalfleleaaDoorW.PrintMore
set_option linter.unusedVariables false
set_option linter.unusedSimpArgs false
set_option maxHeartbeats 2000000 in
set_option maxRecDepth 100000 in
theorem new_calls (w : World) : Calls Tryd.prog 22 #[] w fun e w' => e = .returned (.pointer (some ⟨w.heap.size, 0, none⟩)) ∧ w' = w.alloc (.cells #[.slice none 0 0] 90) := by
  go_enter Tryd.func22, Tryd.ntmps22
  go_wp2
  go_ret
  exact ⟨rfl, rfl⟩
theorem new_heap (w : World) : HP (w.alloc (.cells #[.slice none 0 0] 90)) (fun k => k = w.heap.size) w.heap.size [] :=
  ⟨.slice none 0 0, [], fun _ _ => False, ⟨heap_alloc_new w _, rfl, Kd.R_nil _ _ _ _ _, rfl, fun i t h => by simp at h, fun _ _ h => h.elim, fun _ _ _ _ h => h.elim, fun _ h => h, fun _ _ _ h => h⟩⟩
theorem eq_nil34 (A : Option Addr) (n c : Nat) (w : World) : (binOp BinOp.eql 64 (Value.slice A n c) (Value.slice none 0 0)).run Tryd.prog w = .ok (.bool A.isNone) w := by
  have h : ∀ k, (Op.equalIn (k + 1) 64 (Value.slice A n c) (Value.slice none 0 0)).run Tryd.prog w = .ok A.isNone w := by
    intro k
    unfold Op.equalIn
    cases A <;> simp [run_underlying Tryd.underlying64, Result.andThen]
  have h2 : (Op.equal 64 (Value.slice A n c) (Value.slice none 0 0)).run Tryd.prog w = .ok A.isNone w := h _
  simp only [binOp]
  simp [h2, Result.andThen]
attribute [local go_sem] eq_nil34
theorem empty_row (w : World) : k23.R 23 (w.alloc (.cells #[] 23)) w.heap.size (fun _ => True) (.slice (some ⟨w.heap.size, 0, none⟩) 0 0) [] :=
  ⟨fun _ _ => trivial, [], ⟨by simp, .inr ⟨w.heap.size, 0, #[], rfl, Nat.le_refl _, heap_alloc_new w _, Nat.le_refl _, Nat.zero_le _, by simp, by simp⟩⟩, ⟨rfl, fun j p h => by simp at h⟩⟩
set_option maxHeartbeats 2000000 in
set_option maxRecDepth 100000 in
theorem clone_calls (w : World) (A : Option Addr) (c : Nat) (l : List S23) (hC : k23.C w A l.length l) (hc : l.length ≤ c) (hmax : l.length < 1000000000000) :
    Calls Tryd.prog 71 #[.slice A l.length c] w fun e w' => ∃ v, e = .returned v ∧ k23.R 23 w' w.heap.size (fun _ => True) v l ∧ Below w.heap.size w w' := by
  cases A with
  | none =>
    have hl : l = [] := by
      cases l with
      | nil => rfl
      | cons a r =>
        obtain ⟨ad, h, _⟩ := hC.2.2 (by simp)
        cases h
    subst hl
    clear hC
    go_enter Tryd.func71, Tryd.ntmps71
    go_wp2
    go_ret
    exact ⟨_, rfl, Kd.R_nil _ _ _ _ _, Below.refl _ _⟩
  | some a =>
    have hC0 := Aside0.mk hC
    clear hC
    go_enter Tryd.func71, Tryd.ntmps71
    go_wp2_with (first | ((with_reducible refine gate_builtin (b := .append) (xs := #[.tmp 5, .tmp 6]) rfl ?_); at_builtin; refine Kd.R_append_rows k23 (w0 := w) w.heap.size rfl (.tmp 5) (.tmp 6) 64 23 (.agg #[(.int .i64 0), (.int .i64 0), (.string ⟨#[]⟩)]) 32 rfl Tryd.underlying64 info32 rfl (by decide) (by omega) (.slice (some ⟨w.heap.size, 0, none⟩) 0 0) ([] : List S23) l _ _ _ (fun _ => True) (fun _ => False) rfl rfl ?aO ?aR (fun _ _ h => h) (fun _ h => h.elim) ?aF ?aB ?aS ?aL ?_; (case aO => exact empty_row w); (case aR => exact Kd.C_alloc hC0.out _); (case aF => exact fun _ _ => trivial); (case aB => exact below_alloc (Below.refl _ _) _); (case aS => simp); (case aL => simp; omega); intro v1 w1 hrow1 hb1 _ _; obtain ⟨A1, c1, ev1⟩ := Kd.R_slice hrow1; subst ev1; have HB := Aside0.mk hb1; have HR := Aside0.mk hrow1; clear hb1 hrow1))
    go_ret
    exact ⟨_, rfl, HR.out, HB.out⟩
end Go.Proofs.YtdheakalfleleaaDoor.Val
namespace Go.Proofs.YtdheakalfleleaaDoor.Val
open Go.RowKit Go.Proofs.YtdheakalfleleaaDoor.POper Go.Proofs.YtdheakalfleleaaDoorW.PrintWords Go.Proofs.YtdheakalfleleaaDoorW.PrintLast Go.Proofs.YtdheakalfleleaaDoorW.PrintMore
set_option linter.unusedVariables false
set_option linter.unusedSimpArgs false
section
variable {w : World} {O : Nat → Prop} {p : Nat} {v : Value} {xs : List (Bool × Nat)} {Os : Nat → Nat → Prop} {D : List Th}
theorem HPw.push (h : HPw w O p v xs Os D) {W : World} {v1 : Value} {x : Bool × Nat} {t : Th} {Q : Nat → Prop} (hc : Chg (fun k => k = p ∨ some k = v.ownBlock) w W) (hhdr : W.heap[p]? = some (.cells #[v1] 90 (0, 0)))
    (hrow : kTh.R 123 W 0 (fun k => (O k ∧ k < w.heap.size) ∨ w.heap.size ≤ k) v1 (xs ++ [x])) (ht : PT w Q x t) (hQ : ∀ k, Q k → k < w.heap.size ∧ ¬ O k) (hat : v1.ownBlock = v.ownBlock ∨ ∃ b, v1.ownBlock = some b ∧ w.heap.size ≤ b) :
    HPw W (fun k => Q k ∨ Grow O w W k) p v1 (xs ++ [x]) (fun i k => if i = D.length then Q k else Os i k) (D ++ [t]) where
  hdr := hhdr
  po := Or.inr (Or.inl ⟨h.po, h.plt⟩)
  row := Kd.R_mono (Kd.R_bound hrow) (fun k hk => by
    rcases hk.1 with h1 | h1
    · exact Or.inr (Or.inl h1)
    · exact Or.inr (Or.inr ⟨h1, hk.2.2.1⟩))
  len := by simp [h.len]
  th := by
    intro i t' hi
    have no : ∀ k, (Q k ∨ (∃ i, Os i k)) → ¬ (k = p ∨ some k = v.ownBlock) := by
      intro k hk hq
      rcases hk with hk | ⟨i, hk⟩
      · rcases hq with rfl | hq
        · exact (hQ _ hk).2 h.po
        · exact (hQ _ hk).2 (h.row_lt hq.symm).2
      · rcases hq with rfl | hq
        · exact h.nop i hk
        · exact h.nor i k hq.symm hk
    by_cases e : i = D.length
    · subst e
      rw [List.getElem?_append_right (Nat.le_refl _), Nat.sub_self] at hi
      injection hi with hi
      subst hi
      simp only [if_true]
      rw [List.getD_eq_getElem?_getD, List.getElem?_append_right (by rw [h.len]; exact Nat.le_refl _), h.len, Nat.sub_self]
      exact ht.step (fun k hk hlt => hc.block k hlt (no k (Or.inl hk)))
    · have hlt : i < D.length := by
        have := (List.getElem?_eq_some_iff.1 hi).1
        simp at this
        omega
      rw [List.getElem?_append_left hlt] at hi
      simp only [if_neg e]
      rw [List.getD_eq_getElem?_getD, List.getElem?_append_left (by rw [h.len]; exact hlt), ← List.getD_eq_getElem?_getD]
      exact (h.th i t' hi).step (fun k hk hlt => hc.block k hlt (no k (Or.inr ⟨i, hk⟩)))
  sub := by
    intro i k hk
    by_cases e : i = D.length
    · simp only [if_pos e] at hk
      exact ⟨Or.inl hk, Nat.lt_of_lt_of_le (hQ k hk).1 hc.size⟩
    · simp only [if_neg e] at hk
      exact ⟨Or.inr (Or.inl (h.sub i k hk)), Nat.lt_of_lt_of_le (h.sub i k hk).2 hc.size⟩
  dis := by
    intro i j k hij h1 h2
    by_cases e : i = D.length
    · simp only [if_pos e] at h1
      simp only [if_neg (show ¬ j = D.length from fun e2 => hij (e.trans e2.symm))] at h2
      exact (hQ k h1).2 (h.sub j k h2).1
    · simp only [if_neg e] at h1
      by_cases e2 : j = D.length
      · simp only [if_pos e2] at h2
        exact (hQ k h2).2 (h.sub i k h1).1
      · simp only [if_neg e2] at h2
        exact h.dis i j k hij h1 h2
  nop := by
    intro i hk
    by_cases e : i = D.length
    · simp only [if_pos e] at hk
      exact (hQ p hk).2 h.po
    · simp only [if_neg e] at hk
      exact h.nop i hk
  nor := by
    intro i k hv hk
    have key : ¬ w.heap.size ≤ k ∧ v1.ownBlock = v.ownBlock := by
      by_cases e : i = D.length
      · simp only [if_pos e] at hk
        have := (hQ k hk).1
        rcases hat with hat | ⟨b, hb, hle⟩
        · exact ⟨by omega, hat⟩
        · rw [hv] at hb; injection hb with hb; omega
      · simp only [if_neg e] at hk
        have := (h.sub i k hk).2
        rcases hat with hat | ⟨b, hb, hle⟩
        · exact ⟨by omega, hat⟩
        · rw [hv] at hb; injection hb with hb; omega
    rw [key.2] at hv
    by_cases e : i = D.length
    · simp only [if_pos e] at hk
      exact (hQ k hk).2 (h.row_lt hv).2
    · simp only [if_neg e] at hk
      exact h.nor i k hv hk
def Held (P : Prop) : Prop := P
theorem hold_ {P : Prop} (h : Held P) : P := h
theorem info75 : (Tryd.prog.info? 123).map (fun i => (i.zero, i.size, i.bytes)) = some (some .nilIface, 1, 16) := by kernel_rfl
theorem row1 (W : World) (x : Bool × Nat) : kTh.C (W.alloc (.cells #[thEnc x] 123)) (some ⟨W.heap.size, 0, none⟩) 1 [x] :=
  ⟨rfl, by decide, fun _ => ⟨⟨W.heap.size, 0, none⟩, rfl, fun j q hj => by
    have hj0 : j = 0 := by
      have := (List.getElem?_eq_some_iff.1 hj).1
      simp at this
      omega
    subst hj0
    injection hj with hj
    subst hj
    refine ⟨[thEnc x], rfl, rfl, fun i u hu => ?_⟩
    have hi0 : i = 0 := by
      have := (List.getElem?_eq_some_iff.1 hu).1
      simp at this
      omega
    subst hi0
    injection hu with hu
    subst hu
    exact (blk_cell (heap_alloc_new W (.cells #[thEnc x] 123)) 0).trans rfl⟩⟩
set_option maxHeartbeats 2000000 in
set_option maxRecDepth 100000 in
theorem add_calls (h : HPw w O p v xs Os D) (kind : Int) {x : Bool × Nat} {t : Th} {Q : Nat → Prop} (ht : PT w Q x t) (hQ : ∀ k, Q k → k < w.heap.size ∧ ¬ O k) (hlen : D.length < 1000000000000) :
    Calls Tryd.prog 70 #[.pointer (some ⟨p, 0, none⟩), .int .i64 kind, thEnc x] w fun e w' => e = .returned (enc ⟨kind, D.length, ⟨#[]⟩⟩) ∧ HP w' (fun k => Q k ∨ Grow O w w' k) p (D ++ [t]) ∧ Chg O w w' := by
  obtain ⟨A, c, rfl, hC, hc⟩ := h.head
  have HH := Aside0.mk h
  have HT := Aside0.mk ht
  have HQ := Aside0.mk hQ
  clear h ht hQ hC
  have hc1 := cell_alloc hc (.cells #[.int .i64 0, .int .i64 0, .string ⟨#[]⟩] 23)
  clear hc
  have HN : Aside0 (some p ≠ (Value.slice A xs.length c).ownBlock ∧ some w.heap.size ≠ (Value.slice A xs.length c).ownBlock ∧ p ≠ w.heap.size) := ⟨fun e => HH.out.row_ne e.symm, fun e => by have := (HH.out.row_lt e.symm).1; omega, by have := HH.out.plt; omega⟩
  have HL := Aside0.mk HH.out.len
  have hlen2 : xs.length < 1000000000000 := by rw [HL.out]; exact hlen
  clear hlen
  obtain ⟨ty, xb, hxv⟩ : ∃ ty xb, thEnc x = .iface ty (.pointer (some ⟨xb, 0, none⟩)) := by
    unfold thEnc
    split
    · exact ⟨_, _, rfl⟩
    · exact ⟨_, _, rfl⟩
  rw [hxv]
  have HX := Aside0.mk hxv
  clear hxv
  have hpn := HN.out.2.2
  go_enter Tryd.func70, Tryd.ntmps70
  go_wp2_with (first | (at_builtin; refine hold_ ?_))
  unfold Held
  refine Kd.R_append_row thEnc (false, 0) (h1 := thEnc_one) (w0 := w) 0 rfl (.tmp 11) (.tmp 13) 88 123 .nilIface 16 rfl Tryd.underlying88 info75 rfl (by decide) (.slice A xs.length c) xs [x] (some ⟨w.heap.size + 1, 0, none⟩) 1 1 (fun k => (O k ∧ k < w.heap.size) ∨ w.heap.size ≤ k) rfl rfl (fun k hk => Or.inr (by simp at hk; omega)) ?aO ?aR ?aB (Nat.zero_le _) (by omega) ?_
  (case aO => exact Kd.R_alloc (Kd.R_alloc (Kd.R_mono (Kd.R_bound HH.out.row) (fun k hk => Or.inl ⟨hk.1, hk.2.2.1⟩)) _) _)
  (case aR => have h_ := row1 (w.alloc (.cells #[.int .i64 0, .int .i64 0, .string ⟨#[]⟩] 23)) x; rw [HX.out] at h_; simp at h_; exact h_)
  (case aB => exact ⟨rfl, rfl, rfl, by simp; omega, fun k hk => absurd hk (Nat.not_lt_zero k)⟩)
  intro v1 w1 hrow1 _ hgrow hat
  obtain ⟨A1, c1, ev1⟩ := Kd.R_slice hrow1
  subst ev1
  have hh := blk_grown (blk_alloc (blk_alloc HH.out.hdr (.cells #[.int .i64 0, .int .i64 0, .string ⟨#[]⟩] 23)) (.cells #[.iface ty (.pointer (some ⟨xb, 0, none⟩))] 123)) hgrow HN.out.1
  have hx := blk_grown (blk_alloc (heap_alloc_new w (.cells #[.int .i64 0, .int .i64 0, .string ⟨#[]⟩] 23)) (.cells #[.iface ty (.pointer (some ⟨xb, 0, none⟩))] 123)) hgrow HN.out.2.1
  have g0 : w1.cell? ⟨p, 0, none⟩ = some (.slice A xs.length c) := (blk_cell hh 0).trans rfl
  have g1 := blk_frozen hh 0
  obtain ⟨⟨b0, b1, b2⟩, f0, f1, f2⟩ := box3 hx
  have HG := Aside0.mk (And.intro hrow1 (And.intro hgrow (And.intro hat (And.intro hh hx))))
  clear hrow1 hgrow hat hh hx
  go_wp2
  obtain ⟨hrow, hgrow, hat, hh, hx⟩ := HG.out
  have hpw : w.heap.size ≠ p := fun e => hpn e.symm
  refine bodyPost_ret (results_cell_row rfl _ _ w.heap.size 23 #[.int .i64 kind, .int .i64 xs.length, .string ⟨#[]⟩] (0, 0) _ rfl (put3 (blk_far hx hpw _)) Tryd.underlying23 rfl (by kernel_rfl)) rfl ⟨by rw [HL.out]; rfl, ?_⟩
  have hS : ((w.alloc (.cells #[.int .i64 0, .int .i64 0, .string ⟨#[]⟩] 23)).alloc (.cells #[.iface ty (.pointer (some ⟨xb, 0, none⟩))] 123)).heap.size = w.heap.size + 2 := by simp
  have hC1 : Chg (fun k => some k = (Value.slice A xs.length c).ownBlock) w w1 := (((Chg.alloc No w (.cells #[.int .i64 0, .int .i64 0, .string ⟨#[]⟩] 23)).trans (Chg.alloc No _ (.cells #[.iface ty (.pointer (some ⟨xb, 0, none⟩))] 123))).trans (Chg.of_grown (O := fun k => some k = (Value.slice A xs.length c).ownBlock) hgrow (fun k hk => hk.symm))).mono (fun k hk hq => by
    rcases hq with (hq | hq) | hq
    · exact hq.elim
    · exact hq.1.elim
    · exact hq.1)
  have hC2 : ∀ (u u0 u1 u2 : Value), Chg (fun k => k = p ∨ some k = (Value.slice A xs.length c).ownBlock) w ((((w1.setCell ⟨p, 0, none⟩ u).setCell ⟨w.heap.size, 0, none⟩ u0).setCell ⟨w.heap.size, 1, none⟩ u1).setCell ⟨w.heap.size, 2, none⟩ u2) := fun u u0 u1 u2 =>
    ((((hC1.trans (Chg.setCell (O := fun k => k = p) w1 ⟨p, 0, none⟩ u rfl)).trans (Chg.setCell (O := fun k => k = w.heap.size) _ ⟨w.heap.size, 0, none⟩ u0 rfl)).trans (Chg.setCell (O := fun k => k = w.heap.size) _ ⟨w.heap.size, 1, none⟩ u1 rfl)).trans (Chg.setCell (O := fun k => k = w.heap.size) _ ⟨w.heap.size, 2, none⟩ u2 rfl)).mono (fun k hk hq => by
      rcases hq with (((hq | hq) | hq) | hq) | hq
      · exact Or.inr hq
      · exact Or.inl hq.1
      · omega
      · omega
      · omega)
  have hR0 : kTh.R 123 w1 0 (fun k => (O k ∧ k < w.heap.size) ∨ w.heap.size ≤ k) (Value.slice A1 (xs.length + 1) c1) (xs ++ [x]) := by
    have h_ := hrow
    rw [show (xs ++ [x]).length = xs.length + 1 by simp] at h_
    exact h_
  have hE : ∀ q, q ∈ 123 :: kTh.E → q ≠ 23 := by decide
  have hE2 : ∀ q, q ∈ 123 :: kTh.E → q ≠ 90 := by decide
  refine ⟨⟨Value.slice A1 (xs.length + 1) c1, _, _, HH.out.push (hC2 _ _ _ _) ?_ ?_ HT.out HQ.out ?_⟩, (hC2 _ _ _ _).mono (fun k _ hk => ?_)⟩
  · exact blk_far (p := ⟨w.heap.size, 2, none⟩) (blk_far (p := ⟨w.heap.size, 1, none⟩) (blk_far (p := ⟨w.heap.size, 0, none⟩) (blk_put hh 0 _ rfl) hpn _) hpn _) hpn _
  · have hx1 := blk_far (p := ⟨p, 0, none⟩) hx hpw (Value.slice A1 (xs.length + 1) c1)
    exact Kd.R_set (Kd.R_set (Kd.R_set (Kd.R_set hR0 hh hE2 0 _) hx1 hE 0 _) (blk_put hx1 0 _ rfl) hE 1 _) (blk_put (blk_put hx1 0 _ rfl) 1 _ rfl) hE 2 _
  · rcases hat with hat | ⟨b, hb, hle⟩
    · exact Or.inl ((ownLen A1 _ _ _ _).trans hat)
    · exact Or.inr ⟨b, (ownLen A1 _ _ _ _).trans hb, by omega⟩
  · rcases hk with rfl | hk
    · exact HH.out.po
    · exact (HH.out.row_lt hk.symm).2
end
end Go.Proofs.YtdheakalfleleaaDoor.Val
namespace Go.Proofs.YtdheakalfleleaaDoor.Val
open Go.RowKit Go.Proofs.YtdheakalfleleaaDoor.POper Go.Proofs.YtdheakalfleleaaDoorW.PrintWords Go.Proofs.YtdheakalfleleaaDoorW.PrintLast Go.Proofs.YtdheakalfleleaaDoorW.PrintMore
set_option linter.unusedVariables false
set_option linter.unusedSimpArgs false
section
variable {w : World} {O : Nat → Prop} {p : Nat} {v : Value} {xs : List (Bool × Nat)} {Os : Nat → Nat → Prop} {D : List Th}
theorem HPw.at (h : HPw w O p v xs Os D) {W : World} (hb : Below w.heap.size w W) : HPw W (fun k => O k ∧ k < w.heap.size) p v xs Os D :=
  (h.mono (fun k hk hlt => ⟨hk, hlt⟩)).keep (Q := No) (Chg.of_below hb) (fun _ _ _ hn => hn)
theorem HPw.made (h : HPw w O p v xs Os D) {W : World} (hb : Below w.heap.size w W) {x : Bool × Nat} {t : Th} {g : Nat} {o : Obj} (hg : w.heap.size ≤ g) (hgo : W.heap[g]? = some o) (ht : PT W (fun k => w.heap.size ≤ k ∧ k ≠ g) x t) (kind : Int) (hlen : D.length < 1000000000000) :
    Calls Tryd.prog 70 #[.pointer (some ⟨p, 0, none⟩), .int .i64 kind, thEnc x] W fun e w' => e = .returned (enc ⟨kind, D.length, ⟨#[]⟩⟩) ∧ HP w' (fun k => Grow O w w' k ∧ k ≠ g) p (D ++ [t]) ∧ Chg O w w' ∧ w'.heap[g]? = some o := by
  have hgl := (Array.getElem?_eq_some_iff.1 hgo).1
  refine (add_calls (h.at hb) kind (ht.mono (Q := fun k => (w.heap.size ≤ k ∧ k ≠ g) ∧ k < W.heap.size) (fun k hk hlt => ⟨hk, hlt⟩)) (fun k hk => ⟨hk.2, fun ho => by have := ho.2; omega⟩) hlen).mono ?_
  rintro e w' ⟨rfl, hp, hc⟩
  have hs := hc.size
  have hs0 := hb.size
  refine ⟨rfl, hp.mono (fun k hk hlt => ?_), ((Chg.of_below (O := No) hb).trans hc).mono (fun k _ hq => ?_), hc.blk hgo (fun hk => by omega)⟩
  · rcases hk with hk | hk | hk
    · exact ⟨Or.inr ⟨hk.1.1, by omega⟩, hk.1.2⟩
    · exact ⟨Or.inl hk.1, by omega⟩
    · exact ⟨Or.inr ⟨by omega, hk.2⟩, by omega⟩
  · rcases hq with hq | hq
    · exact hq.elim
    · exact hq.1.1
theorem store_box {W : World} {u0 u1 u2 : Value} {D' : List Th} (hp : HP W (fun k => Grow O w W k ∧ k ≠ w.heap.size) p D') (hc : Chg O w W) :
    HP (((W.setCell ⟨w.heap.size, 0, none⟩ u0).setCell ⟨w.heap.size, 1, none⟩ u1).setCell ⟨w.heap.size, 2, none⟩ u2) (Grow O w (((W.setCell ⟨w.heap.size, 0, none⟩ u0).setCell ⟨w.heap.size, 1, none⟩ u1).setCell ⟨w.heap.size, 2, none⟩ u2)) p D' ∧ Chg O w (((W.setCell ⟨w.heap.size, 0, none⟩ u0).setCell ⟨w.heap.size, 1, none⟩ u1).setCell ⟨w.heap.size, 2, none⟩ u2) := by
  have c3 : Chg (fun k => k = w.heap.size) W (((W.setCell ⟨w.heap.size, 0, none⟩ u0).setCell ⟨w.heap.size, 1, none⟩ u1).setCell ⟨w.heap.size, 2, none⟩ u2) :=
    (((Chg.setCell (O := fun k => k = w.heap.size) W ⟨w.heap.size, 0, none⟩ u0 rfl).trans (Chg.setCell (O := fun k => k = w.heap.size) _ ⟨w.heap.size, 1, none⟩ u1 rfl)).trans (Chg.setCell (O := fun k => k = w.heap.size) _ ⟨w.heap.size, 2, none⟩ u2 rfl)).mono (fun k _ hq => by
      rcases hq with (hq | hq) | hq
      · exact hq
      · exact hq.1
      · exact hq.1)
  have hs := c3.size
  refine ⟨(hp.keep c3 (fun k hk _ e => hk.2 e)).mono (fun k hk _ => ?_), (hc.trans c3).mono (fun k hlt hq => ?_)⟩
  · rcases hk.1 with h1 | h1
    · exact Or.inl h1
    · exact Or.inr ⟨h1.1, by omega⟩
  · rcases hq with hq | hq
    · exact hq
    · omega
set_option maxHeartbeats 2000000 in
set_option maxRecDepth 100000 in
theorem mkarr_calls (h : HP w O p D) {A : Option Addr} {c : Nat} {l : List S23} (hC : k23.C w A l.length l) (hc : l.length ≤ c) (hmax : l.length < 1000000000000) (hlen : D.length < 1000000000000) :
    Calls Tryd.prog 40 #[.pointer (some ⟨p, 0, none⟩), .slice A l.length c] w fun e w' => e = .returned (enc ⟨5, D.length, ⟨#[]⟩⟩) ∧ HP w' (Grow O w w') p (D ++ [.arr l]) ∧ Chg O w w' := by
  obtain ⟨v, xs, Os, h⟩ := h
  have HH := Aside0.mk h
  clear h
  have HL := Aside0.mk (clone_calls (w.alloc (.cells #[.int .i64 0, .int .i64 0, .string ⟨#[]⟩] 23)) A c l (Kd.C_alloc hC _) hc hmax)
  have HD := Aside0.mk hlen
  clear hC hc hmax hlen
  go_enter Tryd.func40, Tryd.ntmps40
  go_wp2_with (first
    | (go_at_call 71; refine HL.out.mono ?_; rintro e w1 ⟨v1, rfl, hr1, hb1⟩; obtain ⟨A1, c1, ev1⟩ := Kd.R_slice hr1; subst ev1; have HR1 := Aside0.mk hr1; have HB1 := Aside0.mk hb1; clear hr1 hb1)
    | (go_at_call 70; have hW2 : Below w.heap.size w (w1.alloc (.cells #[.slice A1 l.length c1] 96)) := below_alloc (below_step (below_alloc (Below.refl _ _) _) HB1.out) _; have hsz := HB1.out.size; simp at hsz; have hP : PT (w1.alloc (.cells #[.slice A1 l.length c1] 96)) (fun k => w.heap.size ≤ k ∧ k ≠ w.heap.size) (false, w1.heap.size) (.arr l) := ⟨rfl, ⟨by simp; omega, by simp; omega⟩, _, heap_alloc_new _ _, Kd.R_alloc (Kd.R_mono (Kd.R_lower (Kd.R_bound HR1.out) (Nat.zero_le _)) (fun k hk => by have := hk.2.1; simp at this; exact ⟨by omega, by omega⟩)) _⟩; have hbox := blk_alloc (blk_below (heap_alloc_new w (.cells #[.int .i64 0, .int .i64 0, .string ⟨#[]⟩] 23)) HB1.out) (.cells #[.slice A1 l.length c1] 96); refine (HH.out.made hW2 (Nat.le_refl _) hbox hP 5 HD.out).mono ?_; clear hW2 hsz hP hbox; rintro e w3 ⟨rfl, hp3, hc3, hb3⟩; unfold enc; obtain ⟨⟨b0, b1, b2⟩, f0, f1, f2⟩ := box3 hb3; have HE := Aside0.mk (And.intro hp3 (And.intro hc3 hb3)); clear hp3 hc3 hb3))
  obtain ⟨hp3, hc3, hb3⟩ := HE.out
  refine bodyPost_ret (results_cell_row rfl _ _ w.heap.size 23 #[.int .i64 5, .int .i64 D.length, .string ⟨#[]⟩] (0, 0) _ rfl (put3 hb3) Tryd.underlying23 rfl (by kernel_rfl)) rfl ⟨rfl, ?_⟩
  exact store_box hp3 hc3
end
end Go.Proofs.YtdheakalfleleaaDoor.Val
namespace Go.Proofs.YtdheakalfleleaaDoor.Val
open Go.RowKit Go.Proofs.YtdheakalfleleaaDoor.POper Go.Proofs.YtdheakalfleleaaDoorW.PrintWords Go.Proofs.YtdheakalfleleaaDoorW.PrintLast Go.Proofs.YtdheakalfleleaaDoorW.PrintMore
open Go.ChangeMaps (setBlock)
set_option linter.unusedVariables false
set_option linter.unusedSimpArgs false
def kvFold (ns : List ByteArray) (l : List S23) : List (ByteArray × S23) := (ns.zip l).foldl (fun kv q => kvPut kv q.1 q.2) []
theorem chg_drew (O : Nat → Prop) (w : World) : Chg O w w.drew := ⟨rfl, rfl, rfl, Nat.le_refl _, fun _ _ _ => rfl⟩
theorem zip_take : ∀ (ns : List ByteArray) (l : List S23) (i : Nat) (h1 : i < ns.length) (h2 : i < l.length), (ns.take (i + 1)).zip (l.take (i + 1)) = (ns.take i).zip (l.take i) ++ [(ns.getD i ByteArray.empty, l.getD i z23)]
  | [], _, _, h1, _ => absurd h1 (Nat.not_lt_zero _)
  | _ :: _, [], _, _, h2 => absurd h2 (Nat.not_lt_zero _)
  | a :: ns, b :: l, 0, _, _ => by simp
  | a :: ns, b :: l, i + 1, h1, h2 => by
    have := zip_take ns l i (by simpa using h1) (by simpa using h2)
    simp only [List.take_succ_cons, List.zip_cons_cons, List.cons_append]
    rw [this]
    simp
theorem kvFold_succ (ns : List ByteArray) (l : List S23) (i : Nat) (h1 : i < ns.length) (h2 : i < l.length) : kvFold (ns.take (i + 1)) (l.take (i + 1)) = kvPut (kvFold (ns.take i) (l.take i)) (rdOf ByteArray.empty ns i) (rd_T23 l i) := by
  unfold kvFold
  rw [zip_take ns l i h1 h2, List.foldl_append]
  rfl
theorem zip_all : ∀ (ns : List ByteArray) (l : List S23) (i : Nat), (ns.length ≤ i ∨ l.length ≤ i) → (ns.take i).zip (l.take i) = ns.zip l
  | [], _, _, _ => by simp
  | _ :: _, [], _, _ => by simp
  | a :: ns, b :: l, 0, h => by simp at h
  | a :: ns, b :: l, i + 1, h => by
    have := zip_all ns l i (by simp at h; omega)
    simp [this]
theorem kvFold_all (ns : List ByteArray) (l : List S23) (i : Nat) (h : ns.length ≤ i ∨ l.length ≤ i) : kvFold (ns.take i) (l.take i) = kvFold ns l := by
  unfold kvFold
  rw [zip_all ns l i h]
theorem mm58 (w : World) : (Instr.makeMap 100 none).run Tryd.prog w = .ok (.map (some w.heap.size)) (w.alloc (.map #[] 0)) := by
  simp [Instr.makeMap, Result.andThen]
attribute [local go_sem] mm58 max2_int min2_int max_two min_two
section
variable {w : World} {O : Nat → Prop} {p : Nat} {v : Value} {xs : List (Bool × Nat)} {Os : Nat → Nat → Prop} {D : List Th}
set_option maxHeartbeats 2000000 in
set_option maxRecDepth 100000 in
theorem mkobj_calls (h : HP w O p D) {A B : Option Addr} {c d : Nat} {ns : List ByteArray} {l : List S23} (hN : Kd.string.C w A ns.length ns) (hC : k23.C w B l.length l) (hmax : l.length < 1000000000000) (hmax2 : ns.length < 1000000000000) (hlen : D.length < 1000000000000) :
    Calls Tryd.prog 42 #[.pointer (some ⟨p, 0, none⟩), .slice A ns.length c, .slice B l.length d] w fun e w' => e = .returned (enc ⟨6, D.length, ⟨#[]⟩⟩) ∧ HP w' (Grow O w w') p (D ++ [.obj (kvFold ns l)]) ∧ Chg O w w' := by
  obtain ⟨v, xs, Os, h⟩ := h
  have HH := Aside0.mk h
  have HNC := Aside0.mk hN
  have HLC := Aside0.mk hC
  have HD := Aside0.mk hlen
  clear h hN hC hlen
  go_enter Tryd.func42, Tryd.ntmps42
  go_wp2
  all_goals
    go_loopw [20] (fun v20 wr => ∃ i : Nat, v20 = .int .i64 i ∧ i ≤ ns.length ∧ i ≤ l.length ∧ (∃ es cc, wr.heap[w.heap.size + 1]? = some (.map es cc) ∧ Ents es (kvFold (ns.take i) (l.take i))) ∧ Chg (fun k => k = w.heap.size + 1) (((w.alloc (.cells #[.int .i64 0, .int .i64 0, .string ⟨#[]⟩] 23)).alloc (.map #[] 0)).alloc (.cells #[.map (some (w.heap.size + 1))] 102)) wr) (fun v20 _ => ns.length - (intOf v20).toNat)
    case atStart => exact ⟨0, rfl, Nat.zero_le _, Nat.zero_le _, ⟨#[], 0, by simpa using blk_alloc (heap_alloc_new (w.alloc (.cells #[.int .i64 0, .int .i64 0, .string ⟨#[]⟩] 23)) (.map #[] 0)) (.cells #[.map (some (w.heap.size + 1))] 102), rfl⟩, Chg.refl _ _⟩
    case round =>
      obtain ⟨i, rfl, hi1, hi2, ⟨es, cc, hm, he⟩, hch⟩ := hrel
      have hbw : Below w.heap.size w wr := (below_alloc (below_alloc (below_alloc (Below.refl _ _) _) _) _).trans (hch.below (by simp; omega) (fun k hk => by omega))
      have hob : wr.heap[w.heap.size + 2]? = some (.cells #[.map (some (w.heap.size + 1))] 102 (0, 0)) := hch.blk (by simpa using heap_alloc_new ((w.alloc (.cells #[.int .i64 0, .int .i64 0, .string ⟨#[]⟩] 23)).alloc (.map #[] 0)) (.cells #[.map (some (w.heap.size + 1))] 102)) (by omega)
      have hrb : wr.heap[w.heap.size]? = some (.cells #[.int .i64 0, .int .i64 0, .string ⟨#[]⟩] 23 (0, 0)) := hch.blk (blk_alloc (blk_alloc (heap_alloc_new w (.cells #[.int .i64 0, .int .i64 0, .string ⟨#[]⟩] 23)) _) _) (by omega)
      have HF := Aside0.mk (And.intro hm (And.intro he (And.intro hch (And.intro hbw (And.intro hob hrb)))))
      clear hm he hch
      by_cases hlt : i < ns.length ∧ i < l.length
      · have d1 : decide ((i : Int) < (l.length : Int)) = true := by simp; omega
        have d2 : decide ((i : Int) < (ns.length : Int)) = true := by simp; omega
        have hc0 : wr.cell? ⟨w.heap.size + 2, 0, none⟩ = some (.map (some (w.heap.size + 1))) := (blk_cell hob 0).trans rfl
        obtain ⟨ad, eA, hx⟩ := Kd.at_string (Kd.C_below HNC.out hbw) (i : Int) (by omega) (by omega)
        obtain ⟨ad2, eB, hy0, hy1, hy2⟩ := at_T23 (Kd.C_below HLC.out hbw) (i : Int) (by omega) (by omega)
        simp only [Int.toNat_natCast] at hx hy0 hy1 hy2
        clear hbw hob hrb
        subst eA
        subst eB
        go_wp2
        go_still_tail 12, (by kernel_rfl)
        change wpList _ _ _ _ _ wr.drew
        obtain ⟨es', c', hrun, he'⟩ := run_put (w := wr.drew) HF.out.1 HF.out.2.1 (rdOf ByteArray.empty ns i) (rd_T23 l i)
        unfold enc at hrun
        have HE' := Aside0.mk he'
        clear he'
        go_wp2
        go_roundw
        case rel => exact ⟨i + 1, by go_num, by omega, by omega, ⟨es', c', ChangeMaps.heap_setBlock_same (w := wr.drew) HF.out.1 _, by rw [kvFold_succ ns l i hlt.1 hlt.2]; exact HE'.out⟩, ((HF.out.2.2.1.trans (chg_drew No wr)).trans (chg_setBlock (O := fun k => k = w.heap.size + 1) wr.drew rfl _)).mono (fun k _ hq => by
            rcases hq with (hq | hq) | hq
            · exact hq
            · exact hq.1.elim
            · exact hq.1)⟩
        case measure => simp [intOf]; omega
      · have d1 : decide ((i : Int) < (l.length : Int)) = false ∨ decide ((i : Int) < (ns.length : Int)) = false := by simp; omega
        have HK := Aside0.mk (kvFold_all ns l i (by omega))
        have hP : PT wr (fun k => w.heap.size ≤ k ∧ k ≠ w.heap.size) (true, w.heap.size + 2) (.obj (kvFold ns l)) := ⟨rfl, ⟨by omega, by omega⟩, w.heap.size + 1, es, cc, hob, ⟨by omega, by omega⟩, HF.out.1, by rw [← HK.out]; exact HF.out.2.1⟩
        have HP_ := Aside0.mk (HH.out.made hbw (Nat.le_refl _) hrb hP 6 HD.out)
        clear hP hbw hob hrb
        go_wp2_with (go_at_call 70; refine HP_.out.mono ?_; rintro e w3 ⟨rfl, hp3, hc3, hb3⟩; unfold enc; obtain ⟨⟨b0, b1, b2⟩, f0, f1, f2⟩ := box3 hb3; have HE := Aside0.mk (And.intro hp3 (And.intro hc3 hb3)); clear hp3 hc3 hb3)
        obtain ⟨hp3, hc3, hb3⟩ := HE.out
        refine bodyPost_ret (results_cell_row rfl _ _ w.heap.size 23 #[.int .i64 6, .int .i64 D.length, .string ⟨#[]⟩] (0, 0) _ rfl (put3 hb3) Tryd.underlying23 rfl (by kernel_rfl)) rfl ⟨rfl, ?_⟩
        exact store_box hp3 hc3
end
end Go.Proofs.YtdheakalfleleaaDoor.Val
