/- The pure statement of PathSettles: a normal form settles, and so does what Join answers. -/
import Derived.Test.YtgjboocmdeckgaaDoorFacts
import Derived.Test.YtgjboocmdeckgaaDoorPPathx12
namespace Go.Proofs.YtgjboocmdeckgaaDoor.Pure
open Go.RowKit Go.Proofs.YtgjboocmdeckgaaDoor.PPath Go.Proofs.YtgjboocmdeckgaaDoorW.PrintWords Go.Proofs.YtgjboocmdeckgaaDoorW.PrintLast
theorem J_cases (a r : ByteArray) : (J a r).2 ≠ 0 ∧ (J a r).1 = ⟨#[]⟩ ∨ ∃ st, st ≠ [] ∧ (∀ x ∈ st, good x) ∧ bytes st ≤ 200 ∧ J a r = (out st, 0) := by
  unfold J
  split
  · exact N_cases _
  · exact .inl ⟨by decide, rfl⟩
theorem settle_join (x1 x5 : ByteArray) (h1 : x1.size ≤ 1048576) (h5 : x5.size ≤ 1048576) : Ev (fun k => gussetlaw03_PathSettles.j1 k x1 x5) true := by
  refine Ev.step (fun k => by rw [gussetlaw03_PathSettles.j1]) ?_
  refine Ev.bind (f := fun k bt211 => _) (prog_J x5 x1 h5 h1) ?_
  rcases J_cases x5 x1 with ⟨hc, he⟩ | ⟨st, hne, hg, hb, e⟩
  · simp only [if_neg hc, he]
    exact Ev.congr (f := fun _ => some true) (fun k => by rw [toL]; rfl) (Ev.now _)
  · simp only [e, if_true]
    refine Ev.bind (f := fun k bt213 => _) (prog_N _ (by rw [out_size]; omega)) ?_
    simp only [N_again st hne hg hb, if_true]
    exact Ev.now _
theorem one_good : good (mkB [120]) := by
  refine ⟨?_, ?_, ?_, ?_, ?_⟩
  · rw [toL, data_mkB]; decide
  · rw [toL, data_mkB]; decide
  · rw [toL, data_mkB]; decide
  · unfold okB; rw [data_mkB]; decide
  · rw [data_mkB]; decide
theorem J_dot (dl : List ByteArray) (y x r : ByteArray) (hg : ∀ z ∈ dl ++ [y], good z) (hx : good x) (hr : r.data.toList = 46 :: 47 :: x.data.toList) : J (out (dl ++ [y])) r = fin (dl ++ [x]) := by
  unfold J
  rw [if_pos (.inl (by rw [toL, Lib.extract_data, hr]; rfl)), D_out _ _ (hg y (by simp)), ← N_dot dl x (fun z hz => hg z (List.mem_append_left _ hz)) hx]
  congr 1
  apply ext_data
  rw [data_mkB]
  simp [ByteArray.data_append, hr, out_flat, data_mkB]
theorem settle_dir (x1 : ByteArray) (h1 : x1.size ≤ 1048576) (dl : List ByteArray) (y : ByteArray) (hg : ∀ z ∈ dl ++ [y], good z) (hb : bytes (dl ++ [y]) ≤ 200) : Ev (fun k => gussetlaw03_PathSettles.j0 k x1 (out (dl ++ [y])) false) true := by
  have hs5 : (out (dl ++ [y])).size ≤ 200 := by rw [out_size]; exact hb
  have hj := settle_join x1 (out (dl ++ [y])) h1 (by omega)
  have hbd : bytes dl ≤ 200 := by rw [bytes_app] at hb; omega
  refine Ev.step (fun k => by rw [gussetlaw03_PathSettles.j0, if_neg (by decide)]) ?_
  refine Ev.bind (f := fun k bt206 => _) (prog_J (out (dl ++ [y])) (⟨#[46, 47, 120]⟩ : ByteArray) (by omega) (by decide)) ?_
  rw [J_dot dl y (mkB [120]) _ hg one_good (by rw [data_mkB])]
  rcases fin_cases (dl ++ [mkB [120]]) with e | e | ⟨e, hne, hb2⟩
  · simp only [e]
    exact hj
  · simp only [e]
    exact hj
  · simp only [e, if_true]
    have hd5 := dir_D (out (dl ++ [y])) (by omega)
    have hdq := dir_D (out (dl ++ [mkB [120]])) (by rw [out_size]; omega)
    rw [D_out _ _ (hg y (by simp))] at hd5
    rw [D_out _ _ one_good] at hdq
    refine Ev.bind (f := fun k t208 => _) hdq ?_
    refine Ev.bind (f := fun k t209 => _) hd5 ?_
    simp only [if_true]
    refine Ev.bind (f := fun k t209 => _) hd5 ?_
    have hq : (out (dl ++ [mkB [120]])).toList = (out dl ++ (⟨#[47, 120]⟩ : ByteArray)).toList := by
      rw [toL, toL, out_flat, flat_app, data_mkB]
      simp [ByteArray.data_append, out_flat, data_mkB]
    simp only [if_pos (show (out dl).size + 2 ≤ 9223372036854775807 by rw [out_size]; omega), if_pos hq]
    exact hj
theorem out_first (st : List ByteArray) (hne : st ≠ []) : bt (out st) 0 = 47 := by
  obtain ⟨x, r, rfl⟩ := List.exists_cons_of_ne_nil hne
  have hd : (out (x :: r)).data.toList = 47 :: (x.data.toList ++ flat r) := by rw [out_flat, data_mkB]; simp [flat]
  have := bt_nat (out (x :: r)) 0 (by rw [hd]; simp)
  rw [show ((0 : Nat) : Int) = 0 from rfl] at this
  rw [this]
  simp only [hd]
  rfl
theorem out_last (dl : List ByteArray) (y : ByteArray) (hy : good y) : 2 ≤ (out (dl ++ [y])).size ∧ bt (out (dl ++ [y])) (((out (dl ++ [y])).size - 1 : Nat) : Int) ≠ 47 := by
  have hd : (out (dl ++ [y])).data.toList = flat dl ++ 47 :: y.data.toList := by rw [out_flat, data_mkB, flat_app]
  have hy0 : y.data.toList ≠ [] := fun e => hy.1 (by rw [toL, e])
  have hl : y.data.toList.length ≠ 0 := fun e => hy0 (List.length_eq_zero_iff.1 e)
  have hs : (out (dl ++ [y])).size = (flat dl).length + 1 + y.data.toList.length := by rw [sizeL, hd]; simp; omega
  refine ⟨by omega, ?_⟩
  have hi : (out (dl ++ [y])).size - 1 < (out (dl ++ [y])).data.toList.length := by rw [← sizeL]; omega
  rw [bt_nat _ _ hi]
  intro e
  have e1 : _ = (47 : UInt8) := (u8_eq _ 47 (by decide)).1 e
  simp only [hd] at e1
  rw [List.getElem_append_right (by omega), List.getElem_cons, dif_neg (by omega)] at e1
  exact hy.2.2.2.2 (e1 ▸ List.getElem_mem _)
theorem PathSettles (a0 a1 : ByteArray) (h : a0.size + 1 + (a1.size + 1 + 0) ≤ 1048576) : ∃ k, gussetlaw03_PathSettles.f k a0 a1 = some true := by
  apply Ev.rounds
  unfold gussetlaw03_PathSettles.f
  refine Ev.bind (f := fun k t201 => _) awake_ev ?_
  simp only [if_true]
  refine Ev.bind (f := fun k bt202 => _) (prog_N a0 (by omega)) ?_
  rcases N_cases a0 with ⟨hc, he⟩ | ⟨st, hne, hg, hb, e⟩
  · simp only [if_neg hc, he]
    exact settle_join a1 _ (by omega) (by decide)
  · have hso : (out st).size ≤ 200 := by rw [out_size]; exact hb
    have h0 := out_first st hne
    simp only [e, if_true]
    refine Ev.bind (f := fun k bt204 => _) (prog_N _ (by omega)) ?_
    simp only [N_again st hne hg hb, if_true]
    obtain ⟨dl, y, rfl⟩ : ∃ dl y, st = dl ++ [y] := ⟨_, _, (List.dropLast_concat_getLast hne).symm⟩
    obtain ⟨h2, hl⟩ := out_last dl y (hg y (by simp))
    have hw : wrap64 (((out (dl ++ [y])).size : Int) - 1) = (((out (dl ++ [y])).size - 1 : Nat) : Int) := by unfold wrap64; omega
    rw [← beq_eq_false_iff_ne] at hl
    simp only [hw, if_neg (show ¬ ((out (dl ++ [y])).size : Int) < 2 by omega), if_neg (show ¬ ((out (dl ++ [y])).size : Int) > 200 by omega), if_pos (show 0 < ((out (dl ++ [y])).size : Int) by omega), if_pos h0, if_pos (show (0 : Int) ≤ (((out (dl ++ [y])).size - 1 : Nat) : Int) by omega), if_pos (show (((out (dl ++ [y])).size - 1 : Nat) : Int) < ((out (dl ++ [y])).size : Int) by omega), hl]
    exact settle_dir a1 (by omega) dl y hg hb
end Go.Proofs.YtgjboocmdeckgaaDoor.Pure
