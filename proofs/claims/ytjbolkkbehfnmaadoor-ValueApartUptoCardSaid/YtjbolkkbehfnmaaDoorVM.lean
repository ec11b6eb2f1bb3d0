/- A map from texts to values: what a look-up and a store do, entry by entry. -/
import Derived.Test.YtjbolkkbehfnmaaDoorVA
import Derived.MapKept
import Derived.ChangeMaps4
namespace Go.Proofs.YtjbolkkbehfnmaaDoor.Val
open Go.RowKit Go.Proofs.YtjbolkkbehfnmaaDoor.PVal Go.Proofs.YtjbolkkbehfnmaaDoorW.PrintWords Go.Proofs.YtjbolkkbehfnmaaDoorW.PrintLast Go.Proofs.YtjbolkkbehfnmaaDoorW.PrintMore
open Go.ChangeMaps (setBlock)
set_option linter.unusedVariables false
set_option linter.unusedSimpArgs false

def kvGet : List (ByteArray × S32) → ByteArray → Option S32
  | [], _ => none
  | (k, x) :: r, n => if k = n then some x else kvGet r n
def kvPut : List (ByteArray × S32) → ByteArray → S32 → List (ByteArray × S32)
  | [], n, x => [(n, x)]
  | (k, y) :: r, n, x => if k = n then (k, x) :: r else (k, y) :: kvPut r n x
def kvIdx : List (ByteArray × S32) → ByteArray → Nat → Option Nat
  | [], _, _ => none
  | (k, x) :: r, n, i => if k = n then some i else kvIdx r n (i + 1)
theorem kvIdx_ge : ∀ (kv : List (ByteArray × S32)) (n : ByteArray) (i j : Nat), kvIdx kv n i = some j → i ≤ j
  | [], _, _, _, h => by cases h
  | (k, x) :: r, n, i, j, h => by
    unfold kvIdx at h
    split at h
    · injection h with h; omega
    · have := kvIdx_ge r n (i + 1) j h; omega
theorem kvIdx_some : ∀ (kv : List (ByteArray × S32)) (n : ByteArray) (i j : Nat), kvIdx kv n i = some j → ∃ p, kv[j - i]? = some p ∧ p.1 = n
  | [], _, _, _, h => by cases h
  | (k, x) :: r, n, i, j, h => by
    have hg := kvIdx_ge _ _ _ _ h
    unfold kvIdx at h
    split at h
    · injection h with h
      subst h
      exact ⟨(k, x), by simp, by assumption⟩
    · have := kvIdx_ge r n (i + 1) j h
      obtain ⟨p, hp, hn⟩ := kvIdx_some r n (i + 1) j h
      exact ⟨p, by rw [show j - i = (j - (i + 1)) + 1 by omega]; exact hp, hn⟩
theorem kvGet_idx : ∀ (kv : List (ByteArray × S32)) (n : ByteArray) (i : Nat), kvGet kv n = match kvIdx kv n i with | some j => (kv[j - i]?).map (·.2) | none => none
  | [], _, _ => rfl
  | (k, x) :: r, n, i => by
    unfold kvGet kvIdx
    by_cases h : k = n
    · simp [h]
    · simp only [if_neg h]
      rw [kvGet_idx r n (i + 1)]
      cases hk : kvIdx r n (i + 1) with
      | none => rfl
      | some j =>
        have := kvIdx_ge r n (i + 1) j hk
        dsimp only
        rw [show j - i = (j - (i + 1)) + 1 by omega]
        rfl
theorem findNow_kv (n : ByteArray) : ∀ (es : List MapEntry) (kv : List (ByteArray × S32)) (i : Nat), es.map (fun e => (e.key, e.val)) = kv.map (fun p => (Value.string p.1, enc p.2)) →
    Instr.findNow .string (.string n) es i = some (match kvIdx kv n i with | some j => some (j, ((kv[j - i]?).map (fun p => enc p.2)).getD undef) | none => none)
  | [], [], _, _ => rfl
  | [], _ :: _, _, h => by cases h
  | _ :: _, [], _, h => by cases h
  | e :: es, (k, x) :: r, i, h => by
    simp only [List.map_cons, List.cons.injEq, Prod.mk.injEq] at h
    obtain ⟨⟨hk, hv⟩, hr⟩ := h
    unfold Instr.findNow
    rw [hk]
    unfold kvIdx
    by_cases e2 : k = n
    · subst e2
      have e3 : (k == k) = true := (MapKept.bytes_beq _ _).2 rfl
      simp [Instr.sameNow, hv, e3]
    · have e3 : (n == k) = false := by
        cases h : n == k
        · rfl
        · exact absurd ((MapKept.bytes_beq _ _).1 h).symm e2
      simp only [Instr.sameNow, e3, if_neg e2]
      rw [findNow_kv n es r (i + 1) hr]
      cases hj : kvIdx r n (i + 1) with
      | none => rfl
      | some j =>
        have := kvIdx_ge r n (i + 1) j hj
        dsimp only
        rw [show j - i = (j - (i + 1)) + 1 by omega]
        rfl
section
variable {w : World} {m : Nat} {es : Array MapEntry} {c : Nat} {kv : List (ByteArray × S32)}
/-- 'x, ok := m[name]'. -/
theorem run_look (hb : w.heap[m]? = some (.map es c)) (he : Ents es kv) (n : ByteArray) :
    (Instr.lookup 58 (.map (some m)) (.string n) true).run Tryd.prog w = .ok (.tuple #[enc ((kvGet kv n).getD z32), .bool (kvGet kv n).isSome]) w := by
  have hf := MapKept.run_findKey (w := w) Tryd.underlying9 (findNow_kv n es.toList kv 0 he)
  have hc := MapKept.run_checkKey (w := w) (P := Tryd.prog) Tryd.underlying9 (k := .string n) trivial es.isEmpty 9999
  unfold Instr.lookup
  simp only [Sem.run_bind, run_underlying Tryd.underlying58, Result.andThen, MapKept.run_getObj_map hb, Sem.run_pure, hc, hf]
  rw [kvGet_idx kv n 0]
  cases hk : kvIdx kv n 0 with
  | none =>
    simp [Result.andThen]
    rfl
  | some j =>
    simp only [Nat.sub_zero]
    obtain ⟨p, hp, _⟩ := kvIdx_some kv n 0 j hk
    simp only [Nat.sub_zero] at hp
    simp [hp, Result.andThen]
theorem put_idx : ∀ (kv : List (ByteArray × S32)) (n : ByteArray) (x : S32) (i : Nat), kvPut kv n x = match kvIdx kv n i with | some j => kv.set (j - i) (n, x) | none => kv ++ [(n, x)]
  | [], _, _, _ => rfl
  | (k, y) :: r, n, x, i => by
    unfold kvPut kvIdx
    by_cases h : k = n
    · subst h; simp
    · simp only [if_neg h]
      rw [put_idx r n x (i + 1)]
      cases hk : kvIdx r n (i + 1) with
      | none => rfl
      | some j =>
        have := kvIdx_ge r n (i + 1) j hk
        dsimp only
        rw [show j - i = (j - (i + 1)) + 1 by omega]
        rfl
/-- 'm[name] = x'. -/
theorem run_put (hb : w.heap[m]? = some (.map es c)) (he : Ents es kv) (n : ByteArray) (x : S32) :
    ∃ es' c', (Instr.mapUpdate 58 (.map (some m)) (.string n) (enc x)).run Tryd.prog w = .ok () (setBlock w m (.map es' c')) ∧ Ents es' (kvPut kv n x) := by
  have hf := MapKept.run_findKey (w := w) Tryd.underlying9 (findNow_kv n es.toList kv 0 he)
  have hc := MapKept.run_checkKey (w := w) (P := Tryd.prog) Tryd.underlying9 (k := .string n) trivial false 9999
  have hs := MapKept.run_keyThatStays (w := w) (P := Tryd.prog) (d := .string) (k := .string n) trivial
  rw [put_idx kv n x 0]
  unfold Instr.mapUpdate
  cases hk : kvIdx kv n 0 with
  | none =>
    rw [hk] at hf
    refine ⟨es.push { key := .string n, val := enc x, born := c }, c + 1, ?_, ?_⟩
    · simp [run_underlying Tryd.underlying58, Result.andThen, MapKept.run_getObj_map hb, hc, hf, MapKept.run_setObj_map _ hb, setBlock]
    · unfold Ents at he ⊢
      simp [he]
  | some j =>
    obtain ⟨p, hp, hpn⟩ := kvIdx_some kv n 0 j hk
    simp only [Nat.sub_zero] at hp
    have hj : es.toList[j]?.map (fun e => (e.key, e.val)) = some (.string n, enc p.2) := by
      rw [← List.getElem?_map, he, List.getElem?_map, hp, ← hpn]
      rfl
    obtain ⟨e, he1, he2⟩ := Option.map_eq_some_iff.1 hj
    simp only [Prod.mk.injEq] at he2
    have he3 : es[j]? = some e := by simpa using he1
    rw [hk] at hf
    simp only [Nat.sub_zero, hp] at hf
    refine ⟨es.modify j fun q => { q with key := .string n, val := enc x }, c, ?_, ?_⟩
    · simp [run_underlying Tryd.underlying58, Result.andThen, MapKept.run_getObj_map hb, hc, hf, MapKept.run_setObj_map _ hb, setBlock, he3, he2.1, hs]
    · unfold Ents at he ⊢
      simp only [Nat.sub_zero]
      apply List.ext_getElem?
      intro q
      have heq := congrArg (fun l => l[q]?) he
      simp only [List.getElem?_map, Array.getElem?_toList] at heq
      simp only [List.getElem?_map, Array.getElem?_toList, Array.getElem?_modify, List.getElem?_set]
      by_cases hq : j = q
      · subst hq
        rw [he3, hp] at heq
        simp [he3, hp, (List.getElem?_eq_some_iff.1 hp).1]
      · simp only [if_neg hq]
        exact heq
theorem get_put : ∀ (kv : List (ByteArray × S32)) (n m : ByteArray) (x : S32), kvGet (kvPut kv n x) m = if n = m then some x else kvGet kv m
  | [], n, m, x => rfl
  | (k, y) :: r, n, m, x => by
    unfold kvPut
    by_cases h : k = n
    · subst h
      rw [if_pos rfl]
      unfold kvGet
      by_cases h2 : k = m
      · simp [h2]
      · simp only [if_neg h2]
    · rw [if_neg h]
      unfold kvGet
      by_cases h2 : k = m
      · subst h2
        simp [Ne.symm h]
      · simp only [if_neg h2]
        exact get_put r n m x
end
end Go.Proofs.YtjbolkkbehfnmaaDoor.Val
