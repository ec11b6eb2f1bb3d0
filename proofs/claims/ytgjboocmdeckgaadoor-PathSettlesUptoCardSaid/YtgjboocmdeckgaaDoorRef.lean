/- The reference's text comes to the same normal form; both texts of Dir come to one. -/
import Derived.Test.YtgjboocmdeckgaaDoorSpec
namespace Go.Proofs.YtgjboocmdeckgaaDoor.Pure
open Go.RowKit Go.Proofs.YtgjboocmdeckgaaDoor.PPath Go.Proofs.YtgjboocmdeckgaaDoorW.PrintWords Go.Proofs.YtgjboocmdeckgaaDoorW.PrintLast

/-! ### parts -/
theorem extract_mkB (s : ByteArray) (a b : Nat) : s.extract a b = mkB ((s.data.toList.drop a).take (b - a)) := ext_data (by rw [data_mkB, Lib.extract_data])
theorem parts_ev (s : ByteArray) (hs : s.size ≤ 4194304) : ∀ (d i a : Nat) (acc : List ByteArray), s.size - i = d → a ≤ i → i ≤ s.size → acc.length ≤ i → 47 ∉ (s.data.toList.drop a).take (i - a) →
    Ev (fun k => gussetref03_parts.l0 k s acc (a : Int) (i : Int)) (acc ++ (segs (s.data.toList.drop a)).map mkB) := by
  intro d
  induction d with
  | zero =>
    intro i a acc hd ha hi hl hn
    have hie : i = s.size := by omega
    subst hie
    have e : segs (s.data.toList.drop a) = [s.data.toList.drop a] := segs_plain _ (by
      rw [List.take_of_length_le (by rw [List.length_drop, ← sizeL]; exact Nat.le_refl _)] at hn
      exact hn)
    rw [e]
    refine Ev.step (f := fun k => gussetref03_parts.l0 k s (acc ++ [s.extract a s.size]) ((s.size + 1 : Nat) : Int) ((s.size + 1 : Nat) : Int)) (fun k => ?_) ?_
    · rw [gussetref03_parts.l0, if_pos (by omega), if_pos rfl, if_pos (by omega), if_pos (by omega), if_pos (by omega), w_next (by omega), Int.toNat_natCast, Int.toNat_natCast]
    · refine Ev.step (f := fun _ => some (acc ++ [mkB (s.data.toList.drop a)])) (fun k => ?_) (Ev.now _)
      rw [gussetref03_parts.l0, if_neg (by omega), extract_mkB, List.take_of_length_le (by rw [List.length_drop, ← sizeL]; exact Nat.le_refl _)]
  | succ d ih =>
    intro i a acc hd ha hi hl hn
    have hlt : i < s.data.toList.length := by rw [← sizeL]; omega
    have hsp : s.data.toList.drop a = (s.data.toList.drop a).take (i - a) ++ s.data.toList[i] :: s.data.toList.drop (i + 1) := by
      rw [← List.drop_eq_getElem_cons hlt]
      have : s.data.toList.drop i = (s.data.toList.drop a).drop (i - a) := by rw [List.drop_drop]; congr 1; omega
      rw [this, List.take_append_drop]
    have hb := bt_nat s i hlt
    by_cases hc : s.data.toList[i] = 47
    · have hbi : bt s i = 47 := by rw [hb, hc]; rfl
      have e : segs (s.data.toList.drop a) = (s.data.toList.drop a).take (i - a) :: segs (s.data.toList.drop (i + 1)) := by
        conv => lhs; rw [hsp, hc]
        exact segs_app _ _ hn
      rw [e, List.map_cons, ← extract_mkB]
      have := ih (i + 1) (i + 1) (acc ++ [s.extract a i]) (by omega) (Nat.le_refl _) (by omega) (by simp; omega) (by simp)
      rw [List.append_assoc, List.singleton_append] at this
      refine Ev.step (fun k => ?_) this
      rw [gussetref03_parts.l0, if_pos (by omega), if_neg (by omega), if_pos (by omega), if_pos (by omega), if_pos hbi, if_pos (by omega), if_pos (by omega), if_pos (by omega), w_next (by omega), Int.toNat_natCast, Int.toNat_natCast]
    · have hbi : ¬ bt s i = 47 := by
        rw [hb]
        exact fun h => hc ((u8_eq _ 47 (by decide)).1 h)
      refine Ev.step (fun k => ?_) (ih (i + 1) a acc (by omega) (by omega) (by omega) (by omega) ?_)
      · rw [gussetref03_parts.l0, if_pos (by omega), if_neg (by omega), if_pos (by omega), if_pos (by omega), if_neg hbi, w_next (by omega)]
      · have e : (s.data.toList.drop a).take (i + 1 - a) = (s.data.toList.drop a).take (i - a) ++ [s.data.toList[i]] := by
          rw [show i + 1 - a = (i - a) + 1 by omega, List.take_add_one]
          congr 1
          rw [List.getElem?_drop, show a + (i - a) = i by omega, List.getElem?_eq_getElem hlt]
          rfl
        rw [e]
        intro hm
        rcases List.mem_append.1 hm with h | h
        · exact hn h
        · exact hc (List.mem_singleton.1 h).symm
theorem parts_is (s : ByteArray) (hs : s.size ≤ 4194304) : Ev (fun k => gussetref03_parts.f k s) (segB s) := by
  have := parts_ev s hs s.size 0 0 [] (by omega) (Nat.le_refl _) (Nat.zero_le _) (Nat.zero_le _) (by simp)
  simpa [gussetref03_parts.f, segB] using this

/-! ### a byte that may not be -/
theorem proc_bad : ∀ (S st : List ByteArray), (∃ x ∈ S, okB x = false) → proc S st = none
  | [], _, h => by obtain ⟨x, hx, _⟩ := h; cases hx
  | x :: xs, st, h => by
    have hd : okB x = true → ∃ y ∈ xs, okB y = false := by
      intro hx
      obtain ⟨y, hy, hb⟩ := h
      rcases List.mem_cons.1 hy with rfl | hy
      · rw [hx] at hb; cases hb
      · exact ⟨y, hy, hb⟩
    have hx0 : ∀ l, x.toList = l → l.all okC = true → okB x = true := fun l e hl => by rw [toL] at e; unfold okB; rw [e]; exact hl
    rw [proc]
    split
    · rename_i e; exact proc_bad xs st (hd (hx0 _ e rfl))
    · split
      · rename_i e; exact proc_bad xs st (hd (hx0 _ e (by decide)))
      · split
        · rename_i e
          split
          · rfl
          · exact proc_bad xs _ (hd (hx0 _ e (by decide)))
        · split
          · rename_i e; exact proc_bad xs _ (hd e)
          · rfl
theorem okC_46 : okC 46 = true := by decide
theorem bad_seg (s : ByteArray) (i : Nat) (hi : i < s.size) (h : okI (bt s i) = false) (h47 : ¬ bt s i = 47) : ∃ x ∈ segB s, okB x = false := by
  have hlt : i < s.data.toList.length := by rw [← sizeL]; exact hi
  rw [bt_nat s i hlt] at h h47
  have hc : s.data.toList[i] ≠ 47 := fun e => h47 (by rw [e]; rfl)
  obtain ⟨x, hx, hm⟩ := (mem_segs _ hc s.data.toList).1 (List.getElem_mem hlt)
  refine ⟨mkB x, List.mem_map_of_mem hx, ?_⟩
  unfold okB
  rw [data_mkB, ← Bool.not_eq_true, List.all_eq_true]
  intro h'
  have := h' _ hm
  unfold okC at this
  rw [h] at this
  cases this
theorem good_segs (s : ByteArray) (h : ∀ i : Nat, i < s.size → bt s i = 47 ∨ okI (bt s i) = true) : ∀ x ∈ segB s, okB x = true := by
  intro x hx
  obtain ⟨l, hl, rfl⟩ := List.mem_map.1 hx
  unfold okB
  rw [data_mkB, List.all_eq_true]
  intro c hc
  have hne : c ≠ 47 := fun e => no_slash_segs _ l hl (e ▸ hc)
  have hm := (mem_segs c hne s.data.toList).2 ⟨l, hl, hc⟩
  obtain ⟨i, hi, rfl⟩ := List.getElem_of_mem hm
  have hb := bt_nat s i hi
  rcases h i (by rw [sizeL]; exact hi) with h1 | h1
  · rw [hb] at h1
    exact absurd ((u8_eq _ 47 (by decide)).1 h1) hne
  · unfold okC
    rwa [hb] at h1

/-! ### the reference's three loops -/
theorem build_ev (st : List ByteArray) (hst : bytes st ≤ 1099511627776) : ∀ (d i : Nat), st.length - i = d → i ≤ st.length → 
    Ev (fun k => gussetref03_Normal.l2 k st (out (st.take i)) (i : Int)) (if ((out st).size : Int) > 200 then (⟨#[]⟩, 31) else (out st, 0)) := by
  have hl := len_le_bytes st
  have hbt : ∀ i, bytes (st.take i) ≤ bytes st := fun i => by
    have := bytes_app (st.take i) (st.drop i)
    rw [List.take_append_drop] at this
    omega
  intro d
  induction d with
  | zero =>
    intro i hd hi
    rw [List.take_of_length_le (by omega)]
    refine Ev.step (f := fun _ => some (if ((out st).size : Int) > 200 then ((⟨#[]⟩ : ByteArray), (31 : Int)) else (out st, 0))) (fun k => ?_) (Ev.now _)
    rw [gussetref03_Normal.l2, if_neg (by omega)]
    split <;> rfl
  | succ d ih =>
    intro i hd hi
    have hlt : i < st.length := by omega
    obtain ⟨x, hx, hdr, hm⟩ := getD_drop hlt
    have hti : st.take (i + 1) = st.take i ++ [x] := by
      rw [List.take_add_one, ← List.head?_drop, hdr]
      rfl
    have ho : out (st.take i) ++ ((⟨#[47]⟩ : ByteArray) ++ x) = out (st.take (i + 1)) := by
      rw [hti]
      apply ext_data
      simp [out, data_mkB, ByteArray.data_append]
    have hsz : bytes (st.take (i + 1)) = bytes (st.take i) + (x.size + 1) := by rw [hti, bytes_app]; simp [bytes]
    have hb1 := hbt (i + 1)
    refine Ev.step (fun k => ?_) (ih (i + 1) (by omega) (by omega))
    rw [gussetref03_Normal.l2, if_pos (by omega), if_pos (by omega), hx, if_pos (by omega), if_pos (by rw [out_size, ByteArray.size_append, size_mk_]; simp; omega), ho, w_next (by omega)]
theorem ref_ev (S : List ByteArray) (hS : bytes S ≤ 1099511627776) (hok : ∀ x ∈ S, okB x = true) : ∀ (d i : Nat) (st : List ByteArray), S.length - i = d → i ≤ S.length → bytes st + bytes (S.drop i) ≤ 1099511627776 →
    Ev (fun k => gussetref03_Normal.l1 k st S (i : Int)) (res (S.drop i) st) := by
  have hSl := len_le_bytes S
  intro d
  induction d with
  | zero =>
    intro i st hd hi hb
    have e : S.drop i = [] := List.drop_eq_nil_of_le (by omega)
    rw [e] at hb ⊢
    have hst := len_le_bytes st
    have hb' : bytes st ≤ 1099511627776 := by omega
    unfold res
    simp only [proc, fin]
    by_cases h0 : st.length = 0
    · rw [if_pos h0]
      refine Ev.step (f := fun _ => some (⟨#[]⟩, 30)) (fun k => ?_) (Ev.now _)
      rw [gussetref03_Normal.l1, if_neg (by omega), if_pos (by omega)]
    · rw [if_neg h0]
      have := build_ev st hb' st.length 0 (by omega) (Nat.zero_le _)
      refine Ev.step (fun k => ?_) this
      rw [gussetref03_Normal.l1, if_neg (by omega), if_neg (by omega)]
      rfl
  | succ d ih =>
    intro i st hd hi hb
    have hlt : i < S.length := by omega
    obtain ⟨x, hx, hdr, hm⟩ := getD_drop hlt
    have hbx : bytes (S.drop i) = (x.size + 1) + bytes (S.drop (i + 1)) := by rw [hdr]; simp [bytes]
    have hst := len_le_bytes st
    have next : ∀ st', bytes st' + bytes (S.drop (i + 1)) ≤ 1099511627776 → Ev (fun k => gussetref03_Normal.l1 k st' S ((i + 1 : Nat) : Int)) (res (S.drop (i + 1)) st') := fun st' h' => ih (i + 1) st' (by omega) (by omega) h'
    have hoi : okB x = true := hok x hm
    have h1 : ∀ b, Ev (fun k => gussetref03_Normal.j3 k st S (i : Int) x b) (if b = true then res (S.drop (i + 1)) st else if x.toList = [46, 46] then (if st.length = 0 then (⟨#[]⟩, 30) else res (S.drop (i + 1)) st.dropLast) else res (S.drop (i + 1)) (st ++ [x])) := by
      intro b
      by_cases hbb : b = true
      · rw [if_pos hbb]
        refine Ev.step (fun k => ?_) (next st (by omega))
        rw [gussetref03_Normal.j3, if_pos hbb, w_next (by omega)]
      · rw [if_neg hbb]
        by_cases hxx : x.toList = [46, 46]
        · rw [if_pos hxx]
          by_cases h0 : st.length = 0
          · rw [if_pos h0]
            refine Ev.step (f := fun _ => some (⟨#[]⟩, 30)) (fun k => ?_) (Ev.now _)
            rw [gussetref03_Normal.j3, if_neg hbb, if_pos hxx, if_pos (by omega)]
          · rw [if_neg h0]
            refine Ev.step (fun k => ?_) (next st.dropLast (by have := bytes_dropLast st; omega))
            rw [gussetref03_Normal.j3, if_neg hbb, if_pos hxx, if_neg (by omega), w_dec h0 (by omega), if_pos (by omega), if_pos (by omega), w_next (by omega), List.dropLast_eq_take, Int.toNat_natCast]
        · rw [if_neg hxx]
          refine Ev.step (fun k => ?_) (next (st ++ [x]) (by rw [bytes_app]; simp only [bytes, List.map_cons, List.map_nil, List.sum_cons, List.sum_nil] at *; omega))
          rw [gussetref03_Normal.j3, if_neg hbb, if_neg hxx, if_pos (by omega), if_pos (by omega), if_pos (by omega), hx, w_next (by omega)]
    have e : res (S.drop i) st = if x.toList = [] then res (S.drop (i + 1)) st else if x.toList = [46] then res (S.drop (i + 1)) st else if x.toList = [46, 46] then (if st.length = 0 then (⟨#[]⟩, 30) else res (S.drop (i + 1)) st.dropLast) else res (S.drop (i + 1)) (st ++ [x]) := by
      rw [hdr]
      unfold res
      rw [proc]
      by_cases c1 : x.toList = []
      · rw [if_pos c1, if_pos c1]
      · rw [if_neg c1, if_neg c1]
        by_cases c2 : x.toList = [46]
        · rw [if_pos c2, if_pos c2]
        · rw [if_neg c2, if_neg c2]
          by_cases c3 : x.toList = [46, 46]
          · rw [if_pos c3, if_pos c3]
            by_cases c4 : st.length = 0
            · rw [if_pos c4, if_pos c4]
            · rw [if_neg c4, if_neg c4]
          · rw [if_neg c3, if_neg c3, if_pos hoi]
    rw [e]
    by_cases c1 : x.toList = []
    · have := h1 (x.toList == [])
      rw [if_pos (by simp [c1])] at this
      rw [if_pos c1]
      refine Ev.step (fun k => ?_) this
      rw [gussetref03_Normal.l1, if_pos (by omega), if_pos (by omega), hx, if_pos c1]
    · rw [if_neg c1]
      have := h1 (x.toList == [46])
      refine Ev.step (fun k => ?_) (f := fun k => gussetref03_Normal.j3 k st S (i : Int) x (x.toList == [46])) ?_
      · rw [gussetref03_Normal.l1, if_pos (by omega), if_pos (by omega), hx, if_neg c1]
      · by_cases c2 : x.toList = [46]
        · rw [if_pos (by simp [c2])] at this
          rw [if_pos c2]
          exact this
        · rw [if_neg (by simp [c2])] at this
          rw [if_neg c2]
          exact this
theorem sign_ev (s : ByteArray) (hs : s.size ≤ 4194304) : ∀ (d i : Nat), s.size - i = d → i ≤ s.size → (∀ q : Nat, q < i → bt s q = 47 ∨ okI (bt s q) = true) → Ev (fun k => gussetref03_Normal.l0 k s (i : Int)) (res (segB s) []) := by
  intro d
  induction d with
  | zero =>
    intro i hd hi hq
    have hie : i = s.size := by omega
    subst hie
    have hbs := bytes_segB s
    have h1 := parts_is s hs
    have h2 := ref_ev (segB s) (by omega) (good_segs s hq) (segB s).length 0 [] (by omega) (Nat.zero_le _) (by simp only [List.drop_zero]; simp [bytes] at *; omega)
    rw [List.drop_zero] at h2
    refine Ev.step (fun k => ?_) (Ev.bind (f := fun k t => gussetref03_Normal.l1 k ([] : List ByteArray) t 0) h1 h2)
    rw [gussetref03_Normal.l0, if_neg (by omega)]
  | succ d ih =>
    intro i hd hi hq
    have more : (bt s i = 47 ∨ okI (bt s i) = true) → ∀ q : Nat, q < i + 1 → bt s q = 47 ∨ okI (bt s q) = true := fun h q hq' => by
      rcases Nat.lt_or_ge q i with h1 | h1
      · exact hq q h1
      · obtain rfl : q = i := by omega
        exact h
    by_cases h47 : bt s i = 47
    · refine Ev.step (fun k => ?_) (ih (i + 1) (by omega) (by omega) (more (.inl h47)))
      rw [gussetref03_Normal.l0, if_pos (by omega), if_pos (by omega), if_pos h47, w_next (by omega)]
    · by_cases hok : okI (bt s i) = true
      · refine Ev.step (fun k => ?_) (ih (i + 1) (by omega) (by omega) (more (.inr hok)))
        rw [gussetref03_Normal.l0, if_pos (by omega), if_pos (by omega), if_neg h47, sign_ok, Option.bind_some, if_pos hok, w_next (by omega)]
      · have hb := bad_seg s i (by omega) (by simpa using hok) h47
        have e : res (segB s) [] = (⟨#[]⟩, 30) := by unfold res; rw [proc_bad _ _ hb]
        rw [e]
        refine Ev.step (f := fun _ => some (⟨#[]⟩, 30)) (fun k => ?_) (Ev.now _)
        rw [gussetref03_Normal.l0, if_pos (by omega), if_pos (by omega), if_neg h47, sign_ok, Option.bind_some, if_neg hok]
theorem ref_N (s : ByteArray) (h : s.size ≤ 4194304) : Ev (fun k => gussetref03_Normal.f k s) (N s) := by
  rcases head_cases s with ⟨h1, h2⟩ | ⟨h1, h2, h3⟩
  · unfold gussetref03_Normal.f N
    simp only [if_pos h1, if_neg h2]
    exact Ev.step (f := fun _ => some (⟨#[]⟩, 30)) (fun k => by rw [gussetref03_Normal.j0, if_pos rfl]) (Ev.now _)
  · unfold gussetref03_Normal.f N
    simp only [if_neg h1, if_pos (show (0 : Int) < (s.size : Int) by omega)]
    by_cases hh : s.data.toList.head? = some 47
    · rw [if_pos hh]
      have hb : (bt s 0 != 47) = false := h3.2 hh
      simp only [hb]
      refine Ev.step (fun k => ?_) (sign_ev s h s.size 0 (by omega) (Nat.zero_le _) (fun q hq => by omega))
      rw [gussetref03_Normal.j0, if_neg (by decide)]
      rfl
    · rw [if_neg hh]
      have hb : (bt s 0 != 47) = true := by
        rw [← Bool.not_eq_false]
        exact fun e => hh (h3.1 e)
      simp only [hb]
      exact Ev.step (f := fun _ => some (⟨#[]⟩, 30)) (fun k => by rw [gussetref03_Normal.j0, if_pos rfl]) (Ev.now _)

/-! ### Dir -/
/-- Where the last slash ahead of place n stands; 0 if there is none. -/
def ls (s : ByteArray) : Nat → Nat
  | 0 => 0
  | n + 1 => if bt s n = 47 then n else ls s n
theorem ls_le (s : ByteArray) : ∀ n, ls s n ≤ n
  | 0 => Nat.le_refl _
  | n + 1 => by have := ls_le s n; rw [ls]; split <;> omega
def D (s : ByteArray) : ByteArray := s.extract 0 (ls s s.size)
theorem last_ev (s : ByteArray) (hs : s.size ≤ 4194304) : ∀ n : Nat, n ≤ s.size → ∃ r : Int, Ev (fun k => bytealg_LastIndexByteString.l0 k s 47 ((n : Int) - 1)) r ∧ mx 0 r = (ls s n : Int) := by
  intro n
  induction n with
  | zero =>
    intro _
    refine ⟨-1, Ev.step (f := fun _ => some (-1)) (fun k => ?_) (Ev.now _), by rw [ls]; rfl⟩
    rw [bytealg_LastIndexByteString.l0, if_neg (by omega)]
  | succ n ih =>
    intro hn
    obtain ⟨r, hr, hm⟩ := ih (by omega)
    have e : ((n + 1 : Nat) : Int) - 1 = (n : Int) := by omega
    rw [e, ls]
    by_cases hb : bt s n = 47
    · refine ⟨(n : Int), Ev.step (f := fun _ => some (n : Int)) (fun k => ?_) (Ev.now _), ?_⟩
      · rw [bytealg_LastIndexByteString.l0, if_pos (by omega), if_pos (by omega), if_pos (by omega), if_pos hb]
      · rw [if_pos hb]; unfold mx; omega
    · refine ⟨r, Ev.step (fun k => ?_) hr, by rw [if_neg hb]; exact hm⟩
      rw [bytealg_LastIndexByteString.l0, if_pos (by omega), if_pos (by omega), if_pos (by omega), if_neg hb]
      rw [show wrap64 ((n : Int) - 1) = (n : Int) - 1 by unfold wrap64; omega]
theorem wsize (s : ByteArray) (hs : s.size ≤ 4194304) : wrap64 ((s.size : Int) - 1) = (s.size : Int) - 1 := by unfold wrap64; omega
theorem dir_D (s : ByteArray) (hs : s.size ≤ 4194304) : Ev (fun k => path_Dir.f k s) (D s) := by
  obtain ⟨r, hr, hm⟩ := last_ev s hs s.size (Nat.le_refl _)
  have hl := ls_le s s.size
  have h1 : Ev (fun k => strings_LastIndexByte.f k s 47) r := by
    unfold strings_LastIndexByte.f bytealg_LastIndexByteString.f
    rw [wsize s hs]
    exact Ev.bind (f := fun _ t => some t) hr (Ev.now _)
  unfold path_Dir.f
  refine Ev.bind (f := fun k t => if 0 ≤ mx 0 t then (if mx 0 t ≤ (s.size : Int) then some (s.extract 0 ((mx 0 t) : Int).toNat) else none) else none) h1 ?_
  simp only [hm]
  rw [if_pos (by omega), if_pos (by omega), Int.toNat_natCast]
  exact Ev.now _
theorem extract_zero (s : ByteArray) : s.extract 0 0 = ⟨#[]⟩ := ext_data (by rw [Lib.extract_data]; simp)
theorem refdir_ev (s : ByteArray) (hs : s.size ≤ 4194304) : ∀ n : Nat, n ≤ s.size → Ev (fun k => gussetref03_Dir.l0 k s ((n : Int) - 1)) (s.extract 0 (ls s n)) := by
  intro n
  induction n with
  | zero =>
    intro _
    rw [ls, extract_zero]
    refine Ev.step (f := fun _ => some ⟨#[]⟩) (fun k => ?_) (Ev.now _)
    rw [gussetref03_Dir.l0, if_neg (by omega)]
  | succ n ih =>
    intro hn
    have e : ((n + 1 : Nat) : Int) - 1 = (n : Int) := by omega
    rw [e, ls]
    by_cases hb : bt s n = 47
    · rw [if_pos hb]
      refine Ev.step (f := fun _ => some (s.extract 0 n)) (fun k => ?_) (Ev.now _)
      rw [gussetref03_Dir.l0, if_pos (by omega), if_pos (by omega), if_pos (by omega), if_pos hb, if_pos (by omega), Int.toNat_natCast]
    · rw [if_neg hb]
      refine Ev.step (fun k => ?_) (ih (by omega))
      rw [gussetref03_Dir.l0, if_pos (by omega), if_pos (by omega), if_pos (by omega), if_neg hb]
      rw [show wrap64 ((n : Int) - 1) = (n : Int) - 1 by unfold wrap64; omega]
theorem refdir_D (s : ByteArray) (hs : s.size ≤ 4194304) : Ev (fun k => gussetref03_Dir.f k s) (D s) := by
  unfold gussetref03_Dir.f
  rw [wsize s hs]
  exact refdir_ev s hs s.size (Nat.le_refl _)
theorem awake_ev : Ev gussetlaw03_awake.f true := Ev.of gussetlaw03_awake.mono (k := 60) (by kernel_rfl)
end Go.Proofs.YtgjboocmdeckgaaDoor.Pure
