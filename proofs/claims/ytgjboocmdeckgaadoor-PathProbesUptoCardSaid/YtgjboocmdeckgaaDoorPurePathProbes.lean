/- The pure statement of PathProbes: both texts of Probes answer the same lists, and no answer shares a cell with another. -/
import Derived.Test.YtgjboocmdeckgaaDoorFacts
import Derived.Test.YtgjboocmdeckgaaDoorPPathx11
namespace Go.Proofs.YtgjboocmdeckgaaDoor.Pure
open Go.RowKit Go.Proofs.YtgjboocmdeckgaaDoor.PPath Go.Proofs.YtgjboocmdeckgaaDoorW.PrintWords Go.Proofs.YtgjboocmdeckgaaDoorW.PrintLast
theorem probe_l1 (Y : List ByteArray) (hl : Y.length ≤ 1048576) : ∀ (d i : Nat), Y.length - i = d → i ≤ Y.length → Ev (fun k => gussetlaw03_PathProbes.l1 k Y Y (i : Int)) true := by
  intro d
  induction d with
  | zero =>
    intro i hd hi
    refine Ev.step (fun k => by rw [gussetlaw03_PathProbes.l1, if_neg (by omega)]) ?_
    exact Ev.bind (f := fun _ t => some t) awake_ev (Ev.now _)
  | succ d ih =>
    intro i hd hi
    refine Ev.step (fun k => ?_) (ih (i + 1) (by omega) (by omega))
    rw [gussetlaw03_PathProbes.l1, if_pos (by omega), if_pos (by omega), if_pos (by omega), if_pos rfl, w_next (by omega)]
theorem probe_l0 (Y : List ByteArray) (hl : Y.length ≤ 1048576) : ∀ (d i : Nat) (X : List ByteArray), Y.length - i = d → i ≤ Y.length → X.length = Y.length → (∀ j, i ≤ j → X[j]? = Y[j]?) → Ev (fun k => gussetlaw03_PathProbes.l0 k X Y Y (i : Int)) true := by
  intro d
  induction d with
  | zero =>
    intro i X hd hi hx _
    refine Ev.step (fun k => by rw [gussetlaw03_PathProbes.l0, if_neg (by omega)]; rfl) (probe_l1 Y hl Y.length 0 (by omega) (Nat.zero_le _))
  | succ d ih =>
    intro i X hd hi hx hj
    have e : (rdOf ByteArray.empty X (i : Int)).toList = (rdOf ByteArray.empty Y (i : Int)).toList := by
      unfold rdOf
      rw [Int.toNat_natCast, List.getD_eq_getElem?_getD, List.getD_eq_getElem?_getD, hj i (Nat.le_refl _)]
    refine Ev.step (fun k => ?_) (ih (i + 1) (X.set i (⟨#[115, 112, 111, 105, 108, 116]⟩ : ByteArray)) (by omega) (by omega) (by rw [List.length_set]; exact hx) (fun j h => ?_))
    · rw [gussetlaw03_PathProbes.l0, if_pos (by omega), if_pos (by omega), if_pos (by omega), if_pos e, w_next (by omega), Int.toNat_natCast]
    · rw [List.getElem?_set_ne (by omega)]
      exact hj j (by omega)
theorem ref_probe (L : List ByteArray) (hl : L.length ≤ 1048576) : ∀ (d i : Nat) (acc : List ByteArray), L.length - i = d → i ≤ L.length → acc.length ≤ i → Ev (fun k => gussetref03_Probes.l0 k acc L (i : Int)) (acc ++ (L.drop i).filter fun x => x.size ≤ 200) := by
  intro d
  induction d with
  | zero =>
    intro i acc hd hi ha
    rw [List.drop_eq_nil_of_le (by omega), List.filter_nil, List.append_nil]
    exact Ev.step (f := fun _ => some acc) (fun k => by rw [gussetref03_Probes.l0, if_neg (by omega)]) (Ev.now _)
  | succ d ih =>
    intro i acc hd hi ha
    obtain ⟨x, hx, hdr, hm⟩ := getD_drop (show i < L.length by omega)
    rw [hdr, List.filter_cons]
    by_cases hs : x.size ≤ 200
    · rw [if_pos (by simpa using hs)]
      have := ih (i + 1) (acc ++ [x]) (by omega) (by omega) (by simp; omega)
      rw [List.append_assoc, List.singleton_append] at this
      refine Ev.step (fun k => ?_) this
      rw [gussetref03_Probes.l0, if_pos (by omega), if_pos (by omega), hx, if_pos (by omega), if_pos (by omega), w_next (by omega)]
    · rw [if_neg (by simpa using hs)]
      refine Ev.step (fun k => ?_) (ih (i + 1) acc (by omega) (by omega) (by omega))
      rw [gussetref03_Probes.l0, if_pos (by omega), if_pos (by omega), hx, if_neg (by omega), w_next (by omega)]
theorem probes_are (a : ByteArray) : ([a, a ++ (⟨#[46, 116, 115]⟩ : ByteArray), a ++ (⟨#[47, 105, 110, 100, 101, 120, 46, 116, 115]⟩ : ByteArray)].filter fun x => x.size ≤ 200) = path_Probes.p2 a := by
  have e0 : a ++ (⟨#[]⟩ : ByteArray) = a := ByteArray.append_empty
  have s1 : (⟨#[46, 116, 115]⟩ : ByteArray).size = 3 := rfl
  have s2 : (⟨#[47, 105, 110, 100, 101, 120, 46, 116, 115]⟩ : ByteArray).size = 9 := rfl
  unfold path_Probes.p2 path_Probes.p1 path_Probes.p0 path_Probes.step path_Probes.e1 path_Probes.e2
  rw [e0, s1, s2]
  simp only [List.filter_cons, ByteArray.size_append, s1, s2, List.filter_nil]
  by_cases h2 : a.size ≤ 191
  · simp [show a.size ≤ 200 by omega, show a.size + 3 ≤ 200 by omega, show a.size + 9 ≤ 200 by omega, show (a.size : Int) ≤ 200 by omega, show (a.size : Int) + 3 ≤ 200 by omega, show (a.size : Int) + 9 ≤ 200 by omega]
  · by_cases h1 : a.size ≤ 197
    · simp [show a.size ≤ 200 by omega, show a.size + 3 ≤ 200 by omega, show ¬ a.size + 9 ≤ 200 by omega, show (a.size : Int) ≤ 200 by omega, show (a.size : Int) + 3 ≤ 200 by omega, show ¬ (a.size : Int) + 9 ≤ 200 by omega]
    · by_cases h0 : a.size ≤ 200
      · simp [h0, show ¬ a.size + 3 ≤ 200 by omega, show ¬ a.size + 9 ≤ 200 by omega, show (a.size : Int) ≤ 200 by omega, show ¬ (a.size : Int) + 3 ≤ 200 by omega, show ¬ (a.size : Int) + 9 ≤ 200 by omega]
      · simp [h0, show ¬ a.size + 3 ≤ 200 by omega, show ¬ a.size + 9 ≤ 200 by omega, show ¬ (a.size : Int) ≤ 200 by omega, show ¬ (a.size : Int) + 3 ≤ 200 by omega, show ¬ (a.size : Int) + 9 ≤ 200 by omega]
theorem PathProbes (a0 : ByteArray) (h : a0.size + 1 + 0 ≤ 1048576) : ∃ k, gussetlaw03_PathProbes.f k a0 = some true := by
  have hp : Ev (fun k => path_Probes.f k a0) (path_Probes.p2 a0) := by
    refine Ev.congr (f := fun _ => some (path_Probes.p2 a0)) (fun k => ?_) (Ev.now _)
    rw [path_Probes.f, if_pos (by omega)]
  have hr : Ev (fun k => gussetref03_Probes.f k a0) (path_Probes.p2 a0) := by
    rw [← probes_are]
    refine Ev.congr (fun k => ?_) (ref_probe [a0, a0 ++ (⟨#[46, 116, 115]⟩ : ByteArray), a0 ++ (⟨#[47, 105, 110, 100, 101, 120, 46, 116, 115]⟩ : ByteArray)] (by simp) 3 0 [] rfl (Nat.zero_le _) (Nat.zero_le _))
    rw [gussetref03_Probes.f, if_pos (by omega), if_pos (by omega)]
    rfl
  have hlen : (path_Probes.p2 a0).length ≤ 1048576 := by
    rw [← probes_are]
    exact Nat.le_trans (List.length_filter_le _ _) (by simp)
  apply Ev.rounds
  unfold gussetlaw03_PathProbes.f
  refine Ev.bind (f := fun k t186 => _) hp ?_
  refine Ev.bind (f := fun k t189 => _) hp ?_
  refine Ev.bind (f := fun k t192 => _) hr ?_
  simp only [if_true, bne_self_eq_false]
  refine Ev.step (fun k => by rw [gussetlaw03_PathProbes.j0, if_neg (by decide)]) ?_
  exact probe_l0 _ hlen _ 0 _ rfl (Nat.zero_le _) rfl (fun _ _ => rfl)
end Go.Proofs.YtgjboocmdeckgaaDoor.Pure
