/- The pure statement of PathUp: a part and '..' behind a normal form give it back. -/
import Derived.Test.YtgjboocmdeckgaaDoorPurePathSettles
import Derived.Test.YtgjboocmdeckgaaDoorPPathx13
namespace Go.Proofs.YtgjboocmdeckgaaDoor.Pure
open Go.RowKit Go.Proofs.YtgjboocmdeckgaaDoor.PPath Go.Proofs.YtgjboocmdeckgaaDoorW.PrintWords Go.Proofs.YtgjboocmdeckgaaDoorW.PrintLast
def alnum (c : Int) : Prop := 97 ≤ c ∧ c ≤ 122 ∨ 48 ≤ c ∧ c ≤ 57
theorem okI_alnum {c : Int} (h : alnum c) : okI c = true := by
  unfold alnum at h
  unfold okI path_part.f
  repeat' split
  all_goals first
    | rfl
    | (exfalso; omega)
theorem alnum_good (x : ByteArray) (hne : x.toList ≠ []) (h : ∀ i : Nat, i < x.size → alnum (bt x i)) : good x := by
  have hmem : ∀ c ∈ x.data.toList, c ≠ 46 ∧ c ≠ 47 := by
    intro c hc
    obtain ⟨i, hi, rfl⟩ := List.getElem_of_mem hc
    have := h i (by rw [sizeL]; exact hi)
    rw [bt_nat x i hi] at this
    constructor
    · intro e
      rw [e] at this
      revert this
      unfold alnum
      decide
    · intro e
      rw [e] at this
      revert this
      unfold alnum
      decide
  refine ⟨hne, fun e => ?_, fun e => ?_, ?_, fun hm => (hmem 47 hm).2 rfl⟩
  · rw [toL] at e
    exact (hmem 46 (by rw [e]; simp)).1 rfl
  · rw [toL] at e
    exact (hmem 46 (by rw [e]; simp)).1 rfl
  · exact (okB_iff x).2 fun i hi => okI_alnum (h i hi)
theorem up_awake : Ev (fun k => (gussetlaw03_awake.f k).bind fun t => some t) true := Ev.bind (f := fun _ t => some t) awake_ev (Ev.now _)
theorem up_j1 (x : ByteArray) (hx : good x) (st : List ByteArray) (hne : st ≠ []) (hg : ∀ y ∈ st, good y) (hb : bytes st ≤ 200) (hs : bytes st + x.size ≤ 190) : Ev (fun k => gussetlaw03_PathUp.j1 k x (out st) false) true := by
  have hso : (out st).size = bytes st := out_size st
  have b1 : bytes (st ++ [x]) ≤ 200 := by rw [bytes_app]; simp [bytes] at *; omega
  have hg1 : ∀ y ∈ st ++ [x], good y := fun y hy => by
    rcases List.mem_append.1 hy with hy | hy
    · exact hg y hy
    · obtain rfl := List.mem_singleton.1 hy
      exact hx
  have e1 : (out st ++ (⟨#[47]⟩ : ByteArray)) ++ x = out (st ++ [x]) := by
    apply ext_data
    rw [out_flat (st ++ [x]), data_mkB, flat_app]
    simp [ByteArray.data_append, out_flat, data_mkB]
  have e2 : out (st ++ [x]) ++ (⟨#[47, 46, 46]⟩ : ByteArray) = mkB (flat st ++ 47 :: (x.data.toList ++ [47, 46, 46])) := by
    apply ext_data
    rw [data_mkB, out_flat, flat_app]
    simp [ByteArray.data_append, data_mkB]
  have n1 : N (out (st ++ [x])) = (out (st ++ [x]), 0) := N_again _ (by simp) hg1 b1
  have n2 : N (out (st ++ [x]) ++ (⟨#[47, 46, 46]⟩ : ByteArray)) = (out st, 0) := by rw [e2, N_up st x hg hx, fin_ok st hne hb]
  have n3 : J (out (st ++ [x])) ((⟨#[46, 47]⟩ : ByteArray) ++ x) = (out (st ++ [x]), 0) := by
    rw [J_dot st x x _ hg1 hx (by simp [ByteArray.data_append]), fin_ok _ (by simp) b1]
  have s1 : (out (st ++ [x])).size ≤ 200 := by rw [out_size]; exact b1
  have c1 : (⟨#[47]⟩ : ByteArray).size = 1 := rfl
  have c2 : (⟨#[46, 47]⟩ : ByteArray).size = 2 := rfl
  have c3 : (⟨#[47, 46, 46]⟩ : ByteArray).size = 3 := rfl
  refine Ev.step (fun k => by rw [gussetlaw03_PathUp.j1, if_neg (by decide), if_pos (by omega), if_pos (by rw [ByteArray.size_append, c1]; omega), e1, if_pos (by omega)]) ?_
  refine Ev.bind (f := fun k bt222 => _) (prog_N _ (by rw [ByteArray.size_append, c3]; omega)) ?_
  rw [n2]
  refine Ev.bind (f := fun k bt224 => _) (prog_N _ (by omega)) ?_
  rw [n1]
  simp only [if_pos (show 2 + x.size ≤ 9223372036854775807 by omega)]
  refine Ev.bind (f := fun k bt226 => _) (prog_J _ _ (by omega) (by rw [ByteArray.size_append, c2]; omega)) ?_
  rw [n3]
  simp only [if_true]
  have hd := dir_D (out (st ++ [x])) (by omega)
  rw [D_out _ _ hx] at hd
  refine Ev.bind (f := fun k t228 => _) hd ?_
  simp only [if_true]
  exact up_awake
theorem up_l0 (x a : ByteArray) (c : Int) (hxs : x.size ≤ 1048576) (has : a.size ≤ 1048576) (hc : c ≠ 0 ∨ ∃ st, st ≠ [] ∧ (∀ y ∈ st, good y) ∧ bytes st ≤ 200 ∧ a = out st) : ∀ (d i : Nat), x.size - i = d → i ≤ x.size → (∀ q : Nat, q < i → alnum (bt x q)) → Ev (fun k => gussetlaw03_PathUp.l0 k x a c (i : Int)) true := by
  intro d
  have skip : Ev (fun k => gussetlaw03_PathUp.j1 k x a true) true := Ev.step (fun k => by rw [gussetlaw03_PathUp.j1, if_pos rfl]) up_awake
  induction d with
  | zero =>
    intro i hd hi hq
    have hi2 : i = x.size := by omega
    subst hi2
    by_cases h0 : c = 0
    · obtain h | ⟨st, hne, hg, hb, rfl⟩ := hc
      · exact absurd h0 h
      · by_cases hx : x.toList = []
        · refine Ev.step (fun k => by rw [gussetlaw03_PathUp.l0, if_neg (by omega), if_pos h0, if_pos hx]) skip
        · have hx' := alnum_good x hx hq
          have hso : (out st).size = bytes st := out_size st
          have hw : wrap64 (((out st).size : Int) + (x.size : Int)) = ((bytes st + x.size : Nat) : Int) := by rw [hso]; unfold wrap64; omega
          by_cases hs : bytes st + x.size ≤ 190
          · refine Ev.step (fun k => by rw [gussetlaw03_PathUp.l0, if_neg (by omega), if_pos h0, if_neg hx, hw, decide_eq_false (by omega)]) (up_j1 x hx' st hne hg hb hs)
          · refine Ev.step (fun k => by rw [gussetlaw03_PathUp.l0, if_neg (by omega), if_pos h0, if_neg hx, hw, decide_eq_true (by omega)]) skip
    · refine Ev.step (fun k => by rw [gussetlaw03_PathUp.l0, if_neg (by omega), if_neg h0]) skip
  | succ d ih =>
    intro i hd hi hq
    by_cases h : alnum (bt x i)
    · have hn := ih (i + 1) (by omega) (by omega) (fun q hq' => by
        rcases Nat.lt_or_ge q i with h1 | h1
        · exact hq q h1
        · obtain rfl : q = i := by omega
          exact h)
      refine Ev.step (fun k => ?_) hn
      rw [gussetlaw03_PathUp.l0, if_pos (by omega), if_pos (by omega), w_next (by omega)]
      unfold alnum at h
      repeat' split
      all_goals first
        | rfl
        | (exfalso; omega)
    · refine Ev.step (fun k => ?_) up_awake
      rw [gussetlaw03_PathUp.l0, if_pos (by omega), if_pos (by omega), w_next (by omega)]
      unfold alnum at h
      repeat' split
      all_goals first
        | rfl
        | (exfalso; omega)
theorem PathUp (a0 a1 : ByteArray) (h : a0.size + 1 + (a1.size + 1 + 0) ≤ 1048576) : ∃ k, gussetlaw03_PathUp.f k a0 a1 = some true := by
  apply Ev.rounds
  unfold gussetlaw03_PathUp.f
  refine Ev.bind (f := fun k bt215 => _) (prog_N a0 (by omega)) ?_
  rcases N_cases a0 with ⟨hc, he⟩ | ⟨st, hne, hg, hb, e⟩
  · rw [he]
    exact up_l0 a1 _ _ (by omega) (by decide) (.inl hc) a1.size 0 (by omega) (Nat.zero_le _) (fun q hq => by omega)
  · rw [e]
    exact up_l0 a1 _ _ (by omega) (by rw [out_size]; omega) (.inr ⟨st, hne, hg, hb, rfl⟩) a1.size 0 (by omega) (Nat.zero_le _) (fun q hq => by omega)
end Go.Proofs.YtgjboocmdeckgaaDoor.Pure
