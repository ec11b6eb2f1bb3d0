/- What the normal form of a path does to itself, and what Join is. -/
import Derived.Test.YtgjboocmdeckgaaDoorRef
import Derived.Test.YtgjboocmdeckgaaDoorPPathx10
namespace Go.Proofs.YtgjboocmdeckgaaDoor.Pure
open Go.RowKit Go.Proofs.YtgjboocmdeckgaaDoor.PPath Go.Proofs.YtgjboocmdeckgaaDoorW.PrintWords Go.Proofs.YtgjboocmdeckgaaDoorW.PrintLast

def good (x : ByteArray) : Prop := x.toList ≠ [] ∧ x.toList ≠ [46] ∧ x.toList ≠ [46, 46] ∧ okB x = true ∧ 47 ∉ x.data.toList
theorem proc_good : ∀ (S st r : List ByteArray), (∀ x ∈ S, 47 ∉ x.data.toList) → (∀ x ∈ st, good x) → proc S st = some r → ∀ x ∈ r, good x
  | [], st, r, _, hst, h => by
    rw [proc] at h
    obtain rfl := Option.some.inj h
    exact hst
  | x :: xs, st, r, hS, hst, h => by
    have hxs : ∀ y ∈ xs, 47 ∉ y.data.toList := fun y hy => hS y (List.mem_cons_of_mem _ hy)
    rw [proc] at h
    split at h
    · exact proc_good xs st r hxs hst h
    · rename_i h1
      split at h
      · exact proc_good xs st r hxs hst h
      · rename_i h2
        split at h
        · split at h
          · cases h
          · exact proc_good xs _ r hxs (fun y hy => hst y ((List.dropLast_sublist _).subset hy)) h
        · rename_i h3
          split at h
          · rename_i h4
            refine proc_good xs _ r hxs (fun y hy => ?_) h
            rcases List.mem_append.1 hy with hy | hy
            · exact hst y hy
            · obtain rfl := List.mem_singleton.1 hy
              exact ⟨h1, h2, h3, h4, hS _ List.mem_cons_self⟩
          · cases h
theorem proc_of_good : ∀ (S st : List ByteArray), (∀ x ∈ S, good x) → proc S st = some (st ++ S)
  | [], st, _ => by rw [proc, List.append_nil]
  | x :: xs, st, h => by
    obtain ⟨h1, h2, h3, h4, _⟩ := h x List.mem_cons_self
    rw [proc, if_neg h1, if_neg h2, if_neg h3, if_pos h4, proc_of_good xs _ (fun y hy => h y (List.mem_cons_of_mem _ hy)), List.append_assoc, List.singleton_append]
theorem proc_app : ∀ (S T st : List ByteArray), proc (S ++ T) st = (proc S st).bind (proc T)
  | [], T, st => rfl
  | x :: xs, T, st => by
    rw [List.cons_append, proc, proc]
    by_cases h1 : x.toList = []
    · rw [if_pos h1, if_pos h1, proc_app xs]
    · rw [if_neg h1, if_neg h1]
      by_cases h2 : x.toList = [46]
      · rw [if_pos h2, if_pos h2, proc_app xs]
      · rw [if_neg h2, if_neg h2]
        by_cases h3 : x.toList = [46, 46]
        · rw [if_pos h3, if_pos h3]
          by_cases h4 : st.length = 0
          · rw [if_pos h4, if_pos h4]; rfl
          · rw [if_neg h4, if_neg h4, proc_app xs]
        · rw [if_neg h3, if_neg h3]
          by_cases h4 : okB x = true
          · rw [if_pos h4, if_pos h4, proc_app xs]
          · rw [if_neg h4, if_neg h4]; rfl
def flat (st : List ByteArray) : List UInt8 := st.flatMap fun x => 47 :: x.data.toList
theorem out_flat (st : List ByteArray) : out st = mkB (flat st) := rfl
theorem flat_app (a : List ByteArray) (x : ByteArray) : flat (a ++ [x]) = flat a ++ 47 :: x.data.toList := by simp [flat]
theorem flat_tail : ∀ (st : List ByteArray) (r : List UInt8), (∀ x ∈ st, 47 ∉ x.data.toList) → ∃ t, flat st ++ 47 :: r = 47 :: t ∧ segs t = st.map (·.data.toList) ++ segs r
  | [], r, _ => ⟨r, rfl, rfl⟩
  | x :: st, r, h => by
    obtain ⟨t, h1, h2⟩ := flat_tail st r (fun y hy => h y (List.mem_cons_of_mem _ hy))
    refine ⟨x.data.toList ++ 47 :: t, ?_, ?_⟩
    · rw [← h1]
      simp [flat]
    · rw [segs_app _ _ (h x List.mem_cons_self), h2]
      rfl
theorem map_mkB_data (st : List ByteArray) : (st.map (·.data.toList)).map mkB = st := by
  rw [List.map_map]
  conv => rhs; rw [← List.map_id st]
  exact List.map_congr_left fun x _ => mkB_data x
theorem N_flat (st : List ByteArray) (r : List UInt8) (h : ∀ x ∈ st, good x) : N (mkB (flat st ++ 47 :: r)) = res ((segs r).map mkB) st := by
  obtain ⟨t, h1, h2⟩ := flat_tail st r (fun x hx => (h x hx).2.2.2.2)
  unfold N segB
  rw [data_mkB, h1, if_pos List.head?_cons, segs_slash, h2, List.map_cons, List.map_append, map_mkB_data]
  unfold res
  rw [proc, if_pos (by rw [toL, data_mkB]), proc_app, proc_of_good st [] h, List.nil_append]
  rfl
theorem N_last (st : List ByteArray) (x : ByteArray) (h : ∀ y ∈ st ++ [x], good y) : N (out (st ++ [x])) = fin (st ++ [x]) := by
  have hx := h x (by simp)
  rw [out_flat, flat_app, N_flat st _ (fun y hy => h y (List.mem_append_left _ hy)), segs_plain _ hx.2.2.2.2, List.map_cons, List.map_nil, mkB_data]
  unfold res
  rw [proc_of_good [x] st (fun y hy => h y (List.mem_append_right _ hy))]
theorem N_out (st : List ByteArray) (hne : st ≠ []) (h : ∀ y ∈ st, good y) : N (out st) = fin st := by
  have e := List.dropLast_concat_getLast hne
  rw [← e] at h ⊢
  exact N_last _ _ h
theorem N_dot (st : List ByteArray) (x : ByteArray) (h : ∀ y ∈ st, good y) (hx : good x) : N (mkB (flat st ++ 47 :: 46 :: 47 :: x.data.toList)) = fin (st ++ [x]) := by
  rw [N_flat st _ h, show (46 : UInt8) :: 47 :: x.data.toList = [46] ++ 47 :: x.data.toList from rfl, segs_app _ _ (by decide), segs_plain _ hx.2.2.2.2]
  unfold res
  simp only [List.map_cons, List.map_nil, mkB_data]
  rw [proc, if_neg (by rw [toL, data_mkB]; decide), if_pos (by rw [toL, data_mkB]), proc_of_good [x] st (fun y hy => by obtain rfl := List.mem_singleton.1 hy; exact hx)]
theorem N_up (st : List ByteArray) (x : ByteArray) (h : ∀ y ∈ st, good y) (hx : good x) : N (mkB (flat st ++ 47 :: (x.data.toList ++ [47, 46, 46]))) = fin st := by
  rw [N_flat st _ h, segs_app _ _ hx.2.2.2.2, segs_plain [46, 46] (by decide)]
  unfold res
  simp only [List.map_cons, List.map_nil, mkB_data]
  rw [show [x, mkB [46, 46]] = [x] ++ [mkB [46, 46]] from rfl, proc_app, proc_of_good [x] st (fun y hy => by obtain rfl := List.mem_singleton.1 hy; exact hx), Option.bind_some]
  rw [proc, if_neg (by rw [toL, data_mkB]; decide), if_neg (by rw [toL, data_mkB]; decide), if_pos (by rw [toL, data_mkB]), if_neg (by simp), List.dropLast_concat, proc]
theorem segB_plain (s : ByteArray) : ∀ x ∈ segB s, 47 ∉ x.data.toList := by
  intro x hx
  obtain ⟨l, hl, rfl⟩ := List.mem_map.1 hx
  rw [data_mkB]
  exact no_slash_segs _ l hl
theorem fin_cases (st : List ByteArray) : (fin st = (⟨#[]⟩, 30)) ∨ (fin st = (⟨#[]⟩, 31)) ∨ (fin st = (out st, 0) ∧ st ≠ [] ∧ bytes st ≤ 200) := by
  unfold fin
  split
  · exact .inl rfl
  · rename_i h0
    split
    · exact .inr (.inl rfl)
    · rename_i h1
      refine .inr (.inr ⟨rfl, fun e => h0 (by rw [e]; rfl), ?_⟩)
      rw [out_size] at h1
      omega
theorem fin_ok (st : List ByteArray) (hne : st ≠ []) (hb : bytes st ≤ 200) : fin st = (out st, 0) := by
  unfold fin
  rw [if_neg (fun e => hne (List.length_eq_zero_iff.1 e)), if_neg (by rw [out_size]; omega)]
/-- What the normal form of any text is. -/
theorem N_cases (s : ByteArray) : (N s).2 ≠ 0 ∧ (N s).1 = ⟨#[]⟩ ∨ ∃ st, st ≠ [] ∧ (∀ x ∈ st, good x) ∧ bytes st ≤ 200 ∧ N s = (out st, 0) := by
  unfold N
  split
  · unfold res
    cases h : proc (segB s) [] with
    | none => exact .inl ⟨by decide, rfl⟩
    | some st =>
      have hg := proc_good (segB s) [] st (segB_plain s) (fun _ h => nomatch h) h
      rcases fin_cases st with e | e | ⟨e, hne, hb⟩
      · exact .inl (by simp only [e]; exact ⟨by decide, trivial⟩)
      · exact .inl (by simp only [e]; exact ⟨by decide, trivial⟩)
      · exact .inr ⟨st, hne, hg, hb, e⟩
  · exact .inl ⟨by decide, rfl⟩
/-- The normal form of a normal form is itself. -/
theorem N_again (st : List ByteArray) (hne : st ≠ []) (hg : ∀ x ∈ st, good x) (hb : bytes st ≤ 200) : N (out st) = (out st, 0) := by rw [N_out st hne hg, fin_ok st hne hb]
theorem ls_at (s : ByteArray) (i : Nat) (h47 : bt s i = 47) : ∀ n, i < n → (∀ j : Nat, i < j → j < n → bt s j ≠ 47) → ls s n = i
  | 0, h, _ => by omega
  | n + 1, h, hn => by
    rw [ls]
    by_cases e : n = i
    · subst e; rw [if_pos h47]
    · rw [if_neg (hn n (by omega) (by omega)), ls_at s i h47 n (by omega) (fun j h1 h2 => hn j h1 (by omega))]
theorem D_at (l x : List UInt8) (h : 47 ∉ x) : D (mkB (l ++ 47 :: x)) = mkB l := by
  have hl : (mkB (l ++ 47 :: x)).data.toList = l ++ 47 :: x := data_mkB _
  have hs : (mkB (l ++ 47 :: x)).size = l.length + 1 + x.length := by rw [sizeL, hl]; simp; omega
  unfold D
  rw [ls_at _ l.length ?_ _ (by omega) ?_, extract_mkB, hl]
  · simp
  · rw [bt_nat _ _ (by rw [hl]; simp)]
    simp only [hl]
    rw [List.getElem_append_right (Nat.le_refl _)]
    simp
  · intro j h1 h2 e
    have hj : j < (mkB (l ++ 47 :: x)).data.toList.length := by rw [hl]; simp; omega
    rw [bt_nat _ _ hj] at e
    have e1 : _ = (47 : UInt8) := (u8_eq _ 47 (by decide)).1 e
    simp only [hl] at e1
    rw [List.getElem_append_right (by omega)] at e1
    rw [List.getElem_cons, dif_neg (by omega)] at e1
    exact h (e1 ▸ List.getElem_mem _)
theorem D_out (st : List ByteArray) (x : ByteArray) (h : good x) : D (out (st ++ [x])) = out st := by
  rw [out_flat, flat_app, D_at _ _ h.2.2.2.2]
  rfl
theorem D_size (s : ByteArray) : (D s).size ≤ s.size := by
  have := ls_le s s.size
  unfold D
  rw [ByteArray.size_extract]
  omega

/-! ### Join -/
def J (a r : ByteArray) : ByteArray × Int := if (r.extract 0 2).toList = [46, 47] ∨ (r.extract 0 3).toList = [46, 46, 47] then N ((D a ++ ⟨#[47]⟩) ++ r) else (⟨#[]⟩, 30)
theorem hasPrefix_is (s p : ByteArray) : strings_HasPrefix.f s p = some ((s.extract 0 p.size).toList == p.toList) := by
  unfold strings_HasPrefix.f stringslite_HasPrefix.f
  by_cases h : (s.size : Int) ≥ (p.size : Int)
  · rw [if_pos h, if_pos (by omega), if_pos (by omega)]
    rfl
  · rw [if_neg h]
    have : ((s.extract 0 p.size).toList == p.toList) = false := by
      rw [beq_eq_false_iff_ne]
      intro e
      have := congrArg List.length e
      rw [toL, toL, ← sizeL, ← sizeL, ByteArray.size_extract] at this
      omega
    rw [this]
    rfl
theorem pre2 : ((⟨#[46, 47]⟩ : ByteArray)).toList = [46, 47] := by rw [toL]
theorem pre3 : ((⟨#[46, 46, 47]⟩ : ByteArray)).toList = [46, 46, 47] := by rw [toL]
theorem join_size_ (a r : ByteArray) (ha : a.size ≤ 1048576) (hr : r.size ≤ 1048576) : ((D a ++ (⟨#[47]⟩ : ByteArray)) ++ r).size ≤ 4194304 ∧ (D a).size + 1 ≤ 9223372036854775807 ∧ (D a ++ (⟨#[47]⟩ : ByteArray)).size + r.size ≤ 9223372036854775807 := by
  have := D_size a
  have e : (⟨#[47]⟩ : ByteArray).size = 1 := rfl
  rw [ByteArray.size_append, ByteArray.size_append, e]
  omega
theorem prog_J (a r : ByteArray) (ha : a.size ≤ 1048576) (hr : r.size ≤ 1048576) : Ev (fun k => path_Join.f k a r) (J a r) := by
  obtain ⟨h1, h2, h3⟩ := join_size_ a r ha hr
  have yes : Ev (fun k => path_Join.j0 k a r false) (N ((D a ++ ⟨#[47]⟩) ++ r)) := by
    refine Ev.step (fun k => by rw [path_Join.j0, if_neg (by decide)]) (Ev.bind (f := fun k t145 => (if t145.size + 1 ≤ 9223372036854775807 then (if (t145 ++ (⟨#[47]⟩ : ByteArray)).size + r.size ≤ 9223372036854775807 then ((path_Normal.f k ((t145 ++ (⟨#[47]⟩ : ByteArray)) ++ r)).bind fun bt146 => (some (bt146.1, bt146.2))) else (none)) else (none))) (dir_D a (by omega)) ?_)
    simp only [if_pos h2, if_pos h3]
    exact Ev.bind (f := fun k t => some (t.1, t.2)) (prog_N _ h1) (Ev.now _)
  have no : Ev (fun k => path_Join.j0 k a r true) (⟨#[]⟩, 30) := Ev.step (f := fun _ => some (⟨#[]⟩, 30)) (fun k => by rw [path_Join.j0, if_pos rfl]) (Ev.now _)
  unfold path_Join.f J
  simp only [hasPrefix_is, Option.bind_some, pre2, pre3]
  have s2 : (⟨#[46, 47]⟩ : ByteArray).size = 2 := rfl
  have s3 : (⟨#[46, 46, 47]⟩ : ByteArray).size = 3 := rfl
  simp only [s2, s3]
  by_cases c2 : (r.extract 0 2).toList = [46, 47]
  · simp only [c2, BEq.rfl, if_true, true_or]
    exact yes
  · have d2 : ((r.extract 0 2).toList == [46, 47]) = false := by simpa using c2
    simp only [d2, Bool.false_eq_true, if_false, c2, false_or]
    by_cases c3 : (r.extract 0 3).toList = [46, 46, 47]
    · simp only [c3, BEq.rfl, if_true, Bool.not_true]
      exact yes
    · have d3 : ((r.extract 0 3).toList == [46, 46, 47]) = false := by simpa using c3
      simp only [d3, if_neg c3, Bool.not_false]
      exact no
theorem ref_J (a r : ByteArray) (ha : a.size ≤ 1048576) (hr : r.size ≤ 1048576) : Ev (fun k => gussetref03_Join.f k a r) (J a r) := by
  obtain ⟨h1, h2, h3⟩ := join_size_ a r ha hr
  have yes : Ev (fun k => gussetref03_Join.j0 k a r true) (N ((D a ++ ⟨#[47]⟩) ++ r)) := by
    refine Ev.step (fun k => by rw [gussetref03_Join.j0, if_pos rfl]) (Ev.bind (f := fun k t145 => (if t145.size + 1 ≤ 9223372036854775807 then (if (t145 ++ (⟨#[47]⟩ : ByteArray)).size + r.size ≤ 9223372036854775807 then ((gussetref03_Normal.f k ((t145 ++ (⟨#[47]⟩ : ByteArray)) ++ r)).bind fun bt146 => (some (bt146.1, bt146.2))) else (none)) else (none))) (refdir_D a (by omega)) ?_)
    simp only [if_pos h2, if_pos h3]
    exact Ev.bind (f := fun k t => some (t.1, t.2)) (ref_N _ h1) (Ev.now _)
  have no : Ev (fun k => gussetref03_Join.j0 k a r false) (⟨#[]⟩, 30) := Ev.step (f := fun _ => some (⟨#[]⟩, 30)) (fun k => by rw [gussetref03_Join.j0, if_neg (by decide)]) (Ev.now _)
  have short : ∀ (n : Nat) (l : List UInt8), l.length = n → ¬ (r.size : Int) ≥ (n : Int) → ¬ (r.extract 0 n).toList = l := by
    intro n l hl hn e
    have := congrArg List.length e
    rw [toL, ← sizeL, ByteArray.size_extract] at this
    omega
  have third : Ev (fun k => if (r.size : Int) ≥ 3 then (if 0 ≤ (3 : Int) then (if 3 ≤ (r.size : Int) then (gussetref03_Join.j0 k a r ((r.extract 0 3).toList == ([46, 46, 47] : List UInt8))) else (none)) else (none)) else (gussetref03_Join.j0 k a r false)) (if (r.extract 0 3).toList = [46, 46, 47] then N ((D a ++ ⟨#[47]⟩) ++ r) else (⟨#[]⟩, 30)) := by
    by_cases h : (r.size : Int) ≥ 3
    · simp only [if_pos h, show (0 : Int) ≤ 3 from by decide, if_true]
      by_cases c3 : (r.extract 0 3).toList = [46, 46, 47]
      · simp only [c3, BEq.rfl, if_true]
        exact yes
      · have d3 : ((r.extract 0 3).toList == [46, 46, 47]) = false := by simpa using c3
        simp only [d3, if_neg c3]
        exact no
    · simp only [if_neg h, if_neg (short 3 [46, 46, 47] rfl h)]
      exact no
  unfold gussetref03_Join.f J
  by_cases h : (r.size : Int) ≥ 2
  · simp only [if_pos h]
    by_cases c2 : (r.extract 0 2).toList = [46, 47]
    · simp only [c2, if_true, true_or]
      exact yes
    · simp only [c2, false_or]
      exact third
  · simp only [if_neg h, short 2 [46, 47] rfl h, false_or]
    exact third
end Go.Proofs.YtgjboocmdeckgaaDoor.Pure
