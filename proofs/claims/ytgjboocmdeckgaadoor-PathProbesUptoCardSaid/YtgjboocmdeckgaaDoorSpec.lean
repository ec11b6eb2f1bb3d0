/- What a path's normal form is, over lists of bytes, and that both texts, the program's and the reference's, come to it. -/
import Derived.Test.YtgjboocmdeckgaaDoorPPathx9
namespace Go.Proofs.YtgjboocmdeckgaaDoor.Pure
open Go.RowKit Go.Proofs.YtgjboocmdeckgaaDoor.PPath Go.Proofs.YtgjboocmdeckgaaDoorW.PrintWords Go.Proofs.YtgjboocmdeckgaaDoorW.PrintLast

/-! ### small words -/
def mkB (l : List UInt8) : ByteArray := ⟨l.toArray⟩
theorem mkB_data (s : ByteArray) : mkB s.data.toList = s := Lib.mk_data s
theorem data_mkB (l : List UInt8) : (mkB l).data.toList = l := by simp [mkB]
theorem toL (s : ByteArray) : s.toList = s.data.toList := Lib.toList_data s
theorem sizeL (s : ByteArray) : s.size = s.data.toList.length := Lib.size_eq s
theorem ext_data {a b : ByteArray} (h : a.data.toList = b.data.toList) : a = b := by rw [← mkB_data a, ← mkB_data b, h]
theorem w_next {i : Nat} (h : i < 4611686018427387904) : wrap64 ((i : Int) + 1) = ((i + 1 : Nat) : Int) := by unfold wrap64; omega
theorem w_pred {i : Nat} (h : i < 4611686018427387904) : wrap64 (((i + 1 : Nat) : Int) - 1) = (i : Int) := by unfold wrap64; omega
theorem bt_nat (s : ByteArray) (i : Nat) (h : i < s.data.toList.length) : bt s (i : Int) = (s.data.toList[i].toNat : Int) := by
  unfold bt
  rw [dif_pos (by rw [Int.toNat_natCast, sizeL]; exact h)]
  simp only [Int.toNat_natCast]
  rfl
theorem u8_eq (c : UInt8) (n : Nat) (hn : n < 256) : ((c.toNat : Int) = (n : Int)) ↔ c = UInt8.ofNat n := by
  constructor
  · intro h
    apply UInt8.toNat_inj.1
    rw [UInt8.toNat_ofNat_of_lt' (by simpa using hn)]
    omega
  · rintro rfl
    rw [UInt8.toNat_ofNat_of_lt' (by simpa using hn)]

/-! ### which bytes may stand in a part -/
def okI (c : Int) : Bool := (path_part.f c).getD false
theorem part_ok (c : Int) : path_part.f c = some (okI c) := by
  unfold okI path_part.f
  repeat' split
  all_goals rfl
theorem sign_ok (c : Int) : gussetref03_sign.f c = some (okI c) := by
  rw [← part_ok]
  rfl
def okC (c : UInt8) : Bool := okI c.toNat
def okB (x : ByteArray) : Bool := x.data.toList.all okC
theorem okB_iff (x : ByteArray) : okB x = true ↔ ∀ i : Nat, i < x.size → okI (bt x i) = true := by
  unfold okB okC
  rw [List.all_eq_true]
  constructor
  · intro h i hi
    rw [sizeL] at hi
    rw [bt_nat x i hi]
    exact h _ (List.getElem_mem hi)
  · intro h c hc
    obtain ⟨i, hi, rfl⟩ := List.getElem_of_mem hc
    have := h i (by rw [sizeL]; exact hi)
    rwa [bt_nat x i hi] at this

/-! ### a text between its slashes -/
def segs : List UInt8 → List (List UInt8)
  | [] => [[]]
  | c :: r => if c = 47 then [] :: segs r else match segs r with | [] => [] | x :: xs => (c :: x) :: xs
theorem segs_ne (l : List UInt8) : ∃ x xs, segs l = x :: xs := by
  induction l with
  | nil => exact ⟨_, _, rfl⟩
  | cons c r ih =>
    obtain ⟨x, xs, h⟩ := ih
    by_cases hc : c = 47
    · exact ⟨[], segs r, by simp [segs, hc]⟩
    · exact ⟨c :: x, xs, by simp [segs, hc, h]⟩
theorem segs_slash (r : List UInt8) : segs (47 :: r) = [] :: segs r := by simp [segs]
theorem segs_cons {c : UInt8} {r x : List UInt8} {xs : List (List UInt8)} (hc : c ≠ 47) (h : segs r = x :: xs) : segs (c :: r) = (c :: x) :: xs := by simp [segs, hc, h]
theorem segs_plain : ∀ (l : List UInt8), 47 ∉ l → segs l = [l]
  | [], _ => rfl
  | c :: r, h => by
    have hc : c ≠ 47 := fun e => h (by simp [e])
    exact segs_cons hc (segs_plain r (fun hm => h (List.mem_cons_of_mem _ hm)))
theorem segs_app : ∀ (l r : List UInt8), 47 ∉ l → segs (l ++ 47 :: r) = l :: segs r
  | [], r, _ => segs_slash r
  | c :: l, r, h => by
    have hc : c ≠ 47 := fun e => h (by simp [e])
    exact segs_cons hc (segs_app l r (fun hm => h (List.mem_cons_of_mem _ hm)))
theorem segs_length : ∀ l : List UInt8, (segs l).length ≤ l.length + 1
  | [] => by simp [segs]
  | c :: r => by
    have := segs_length r
    obtain ⟨x, xs, h⟩ := segs_ne r
    by_cases hc : c = 47
    · subst hc; rw [segs_slash]; simp; omega
    · rw [segs_cons hc h]; rw [h] at this; simp at this ⊢; omega
/-- A byte of the text that is no slash stands in one of them, and the other way round. -/
theorem mem_segs (c : UInt8) (hc : c ≠ 47) : ∀ l : List UInt8, c ∈ l ↔ ∃ x ∈ segs l, c ∈ x
  | [] => by simp [segs]
  | d :: r => by
    have ih := mem_segs c hc r
    obtain ⟨x, xs, h⟩ := segs_ne r
    by_cases hd : d = 47
    · subst hd
      rw [segs_slash, List.mem_cons, ih]
      simp [hc]
    · rw [segs_cons hd h, List.mem_cons, ih, h]
      simp only [List.mem_cons, exists_eq_or_imp]
      constructor
      · rintro (h | h | h)
        · exact .inl (.inl h)
        · exact .inl (.inr h)
        · exact .inr h
      · rintro ((h | h) | h)
        · exact .inl h
        · exact .inr (.inl h)
        · exact .inr (.inr h)
theorem no_slash_segs : ∀ (l : List UInt8) x, x ∈ segs l → 47 ∉ x
  | [], x, h => by simp [segs] at h; subst h; simp
  | d :: r, x, h => by
    obtain ⟨y, ys, hy⟩ := segs_ne r
    have ih := no_slash_segs r
    by_cases hd : d = 47
    · subst hd
      rw [segs_slash, List.mem_cons] at h
      rcases h with rfl | h
      · simp
      · exact ih x h
    · rw [segs_cons hd hy, List.mem_cons] at h
      rcases h with rfl | h
      · have := ih y (by rw [hy]; exact List.mem_cons_self)
        simp only [List.mem_cons, not_or]
        exact ⟨fun e => hd e.symm, this⟩
      · exact ih x (by rw [hy]; exact List.mem_cons_of_mem _ h)

/-! ### strings.Split at a slash -/
theorem splitK_cons (c : UInt8) (hc : c ≠ 47) (r : List UInt8) : ∀ n, ∃ x xs, Lib.splitK [47] 0 n r = x :: xs ∧ Lib.splitK [47] 0 n (c :: r) = (c :: x) :: xs := by
  intro n
  cases n with
  | zero => exact ⟨r, [], rfl, rfl⟩
  | succ n =>
    have hi : Lib.index (c :: r) [47] = if Lib.index r [47] == -1 then -1 else Lib.index r [47] + 1 := by
      rw [Lib.index_one, Lib.index_one]
      rw [Lib.indexByte, if_neg (by simpa using hc)]
    by_cases hm : Lib.index r [47] = -1
    · refine ⟨r, [], ?_, ?_⟩
      · rw [Lib.splitK, if_pos (by rw [hm]; rfl)]
      · rw [Lib.splitK, if_pos (by rw [hi, if_pos (by rw [hm]; rfl)]; rfl)]
    · have hg := Lib.index_ge r [47]
      obtain ⟨j, hj⟩ : ∃ j : Nat, Lib.index r [47] = j := ⟨(Lib.index r [47]).toNat, by omega⟩
      have hi' : Lib.index (c :: r) [47] = ((j + 1 : Nat) : Int) := by rw [hi, if_neg (by simpa using hm), hj]; omega
      refine ⟨r.take j, Lib.splitK [47] 0 n (r.drop (j + 1)), ?_, ?_⟩
      · rw [Lib.splitK, if_neg (by rw [hj]; first | (simp; done) | (simp; omega)), hj]
        simp
      · rw [Lib.splitK, if_neg (by rw [hi']; first | (simp; done) | (simp; omega)), hi']
        simp
theorem splitK_segs : ∀ l : List UInt8, Lib.splitK [47] 0 (Lib.count l [47]) l = segs l
  | [] => rfl
  | c :: r => by
    have ih := splitK_segs r
    by_cases hc : c = 47
    · subst hc
      rw [Lib.count_cons_eq, Nat.add_comm, segs_slash, ← ih, Lib.splitK]
      have h0 : Lib.index (47 :: r) [47] = 0 := by rw [Lib.index_one, Lib.indexByte]; rfl
      rw [if_neg (by rw [h0]; decide), h0]
      simp
    · rw [Lib.count_cons_ne _ _ _ hc]
      obtain ⟨x, xs, h1, h2⟩ := splitK_cons c hc r (Lib.count r [47])
      rw [h2, segs_cons hc (by rw [← ih, h1])]
def segB (s : ByteArray) : List ByteArray := (segs s.data.toList).map mkB
theorem map_inj_data {a b : List ByteArray} (h : a.map (·.data.toList) = b.map (·.data.toList)) : a = b := by
  have : (a.map (·.data.toList)).map mkB = (b.map (·.data.toList)).map mkB := by rw [h]
  simpa [List.map_map, Function.comp_def, mkB_data] using this
theorem segB_data (s : ByteArray) : (segB s).map (·.data.toList) = segs s.data.toList := by
  unfold segB
  rw [List.map_map]
  conv => rhs; rw [← List.map_id (segs s.data.toList)]
  exact List.map_congr_left fun x _ => data_mkB x
theorem segB_length (s : ByteArray) : (segB s).length ≤ s.size + 1 := by
  rw [sizeL]; unfold segB; rw [List.length_map]; exact segs_length _
theorem split_is (s : ByteArray) (h : s.size ≤ 1099511627776) (h2 : s.size < 4294967281) : strings_Split.f s (⟨#[47]⟩ : ByteArray) = some (segB s) := by
  have e : Lib.splitB (⟨#[47]⟩ : ByteArray) 0 (Lib.countB s (⟨#[47]⟩ : ByteArray)) s = segB s := by
    apply map_inj_data
    rw [Lib.splitB_data, segB_data]
    exact splitK_segs _
  have hl := Lib.splitB_all (⟨#[47]⟩ : ByteArray) (by decide) 0 _ s rfl
  have hn : Lib.countB s (⟨#[47]⟩ : ByteArray) ≤ s.size := Lib.countB_le _ (by decide) _ s (Nat.le_refl _)
  unfold strings_Split.f
  rw [if_pos ⟨h2, by decide, by omega, hl⟩, e]

/-! ### what stands behind the parts -/
def proc : List ByteArray → List ByteArray → Option (List ByteArray)
  | [], st => some st
  | x :: xs, st => if x.toList = [] then proc xs st else if x.toList = [46] then proc xs st else if x.toList = [46, 46] then (if st.length = 0 then none else proc xs st.dropLast) else if okB x = true then proc xs (st ++ [x]) else none
def out (st : List ByteArray) : ByteArray := mkB (st.flatMap fun x => 47 :: x.data.toList)
def fin (st : List ByteArray) : ByteArray × Int := if st.length = 0 then (⟨#[]⟩, 30) else if ((out st).size : Int) > 200 then (⟨#[]⟩, 31) else (out st, 0)
def res (S st : List ByteArray) : ByteArray × Int := match proc S st with | none => (⟨#[]⟩, 30) | some st => fin st
def bytes (st : List ByteArray) : Nat := (st.map fun x => x.size + 1).sum
theorem bytes_app (a b : List ByteArray) : bytes (a ++ b) = bytes a + bytes b := by simp [bytes]
theorem bytes_dropLast (a : List ByteArray) : bytes a.dropLast ≤ bytes a := by
  by_cases h : a = []
  · subst h; simp [bytes]
  · have := bytes_app a.dropLast [a.getLast h]
    rw [List.dropLast_concat_getLast h] at this
    omega
theorem len_le_bytes (a : List ByteArray) : a.length ≤ bytes a := by
  induction a with
  | nil => simp [bytes]
  | cons x r ih => simp only [bytes, List.map_cons, List.sum_cons, List.length_cons] at *; omega
theorem out_size (st : List ByteArray) : (out st).size = bytes st := by
  unfold out bytes
  rw [sizeL, data_mkB]
  induction st with
  | nil => rfl
  | cons x r ih => simp only [List.flatMap_cons, List.length_append, List.length_cons, ih, List.map_cons, List.sum_cons, sizeL]
theorem join_out (st : List ByteArray) (h : st ≠ []) : (⟨#[47]⟩ : ByteArray) ++ (⟨(Lib.join (st.map (·.data.toList)) [47]).toArray⟩ : ByteArray) = out st := by
  apply ext_data
  unfold out
  rw [data_mkB]
  obtain ⟨x, r, rfl⟩ := List.exists_cons_of_ne_nil h
  rw [List.map_cons, Lib.join_cons, Lib.joinTail]
  have e : ∀ r : List ByteArray, ((r.map (·.data.toList)).map ([47] ++ ·)).flatten = r.flatMap fun x => 47 :: x.data.toList := by
    intro r
    induction r with
    | nil => rfl
    | cons y r ih => simp only [List.map_cons, List.flatten_cons, ih, List.flatMap_cons]; rfl
  rw [e]
  simp [ByteArray.data_append]
theorem join_size (st : List ByteArray) (h : st ≠ []) : (Lib.join (st.map (·.data.toList)) [47]).length + 1 = bytes st := by
  have := congrArg ByteArray.size (join_out st h)
  rw [out_size, ByteArray.size_append] at this
  simp only [size_mk_] at this
  simp at this
  omega

/-! ### the program's text -/
theorem scan_ev (st : List ByteArray) (x : ByteArray) (S : List ByteArray) (i : Nat) (r : ByteArray × Int) (hx : x.size ≤ 1099511627776) (hl : st.length < 8796093022208) (hi : i < 1099511627776)
    (hok : okB x = true → Ev (fun k => path_Normal.l0 k (st ++ [x]) S (S.length : Int) ((i + 1 : Nat) : Int)) r) (hno : okB x = false → r = (⟨#[]⟩, 30)) :
    ∀ (d j : Nat), x.size - j = d → j ≤ x.size → (∀ q : Nat, q < j → okI (bt x q) = true) → Ev (fun k => path_Normal.l1 k st x S (S.length : Int) (i : Int) (x.size : Int) (j : Int)) r := by
  intro d
  induction d with
  | zero =>
    intro j hd hj hq
    have hje : j = x.size := by omega
    refine Ev.step (f := fun k => path_Normal.l0 k (st ++ [x]) S (S.length : Int) ((i + 1 : Nat) : Int)) (fun k => ?_) (hok ((okB_iff x).2 fun q hq' => hq q (by omega)))
    rw [path_Normal.l1, if_neg (by omega), if_pos hl, w_next (by omega)]
  | succ d ih =>
    intro j hd hj hq
    by_cases hb : okI (bt x j) = true
    · refine Ev.step (f := fun k => path_Normal.l1 k st x S (S.length : Int) (i : Int) (x.size : Int) ((j + 1 : Nat) : Int)) (fun k => ?_) (ih (j + 1) (by omega) (by omega) (fun q hq' => by
        rcases Nat.lt_or_ge q j with h | h
        · exact hq q h
        · obtain rfl : q = j := by omega
          exact hb))
      rw [path_Normal.l1, if_pos (by omega), if_pos (by omega), if_pos (by omega), part_ok, Option.bind_some, if_pos hb, w_next (by omega)]
    · have hf : okB x = false := by
        rw [← Bool.not_eq_true]
        exact fun h => hb ((okB_iff x).1 h j (by omega))
      refine Ev.step (f := fun _ => some r) (fun k => ?_) (Ev.now _)
      rw [path_Normal.l1, if_pos (by omega), if_pos (by omega), if_pos (by omega), part_ok, Option.bind_some, if_neg hb, hno hf]
theorem getD_drop {S : List ByteArray} {i : Nat} (h : i < S.length) : ∃ x, rdOf ByteArray.empty S (i : Int) = x ∧ S.drop i = x :: S.drop (i + 1) ∧ x ∈ S := by
  refine ⟨S[i], ?_, List.drop_eq_getElem_cons h, List.getElem_mem h⟩
  unfold rdOf
  rw [Int.toNat_natCast, List.getD_eq_getElem?_getD, List.getElem?_eq_getElem h]
  rfl
theorem w_dec {n : Nat} (h0 : n ≠ 0) (h : n < 4611686018427387904) : wrap64 ((n : Int) - 1) = ((n - 1 : Nat) : Int) := by unfold wrap64; omega
theorem prog_ev (S : List ByteArray) (hS : bytes S ≤ 1099511627776) : ∀ (d i : Nat) (st : List ByteArray), S.length - i = d → i ≤ S.length → bytes st + bytes (S.drop i) ≤ 1099511627776 →
    Ev (fun k => path_Normal.l0 k st S (S.length : Int) (i : Int)) (res (S.drop i) st) := by
  have hSl := len_le_bytes S
  intro d
  induction d with
  | zero =>
    intro i st hd hi hb
    have e : S.drop i = [] := List.drop_eq_nil_of_le (by omega)
    rw [e]
    have hst := len_le_bytes st
    refine Ev.step (f := fun _ => some (res [] st)) (fun k => ?_) (Ev.now _)
    rw [path_Normal.l0, if_neg (by omega)]
    unfold res
    simp only [proc, fin]
    by_cases h0 : st.length = 0
    · rw [if_pos (by omega), if_pos h0]
    · have hne : st ≠ [] := fun e => h0 (by rw [e]; rfl)
      have hj := join_size st hne
      have hj2 := join_out st hne
      rw [if_neg (by omega), if_neg h0]
      unfold strings_Join.f
      rw [if_pos ⟨by omega, by simp only; omega⟩, Option.bind_some]
      simp only
      rw [if_pos (by simp only [size_mk_, List.size_toArray]; omega), hj2]
      split <;> rfl
  | succ d ih =>
    intro i st hd hi hb
    have hlt : i < S.length := by omega
    obtain ⟨x, hx, hdr, hm⟩ := getD_drop hlt
    have hbx : bytes (S.drop i) = (x.size + 1) + bytes (S.drop (i + 1)) := by rw [hdr]; simp [bytes]
    have hst := len_le_bytes st
    have next : ∀ st', bytes st' + bytes (S.drop (i + 1)) ≤ 1099511627776 → Ev (fun k => path_Normal.l0 k st' S (S.length : Int) ((i + 1 : Nat) : Int)) (res (S.drop (i + 1)) st') := fun st' h' => ih (i + 1) st' (by omega) (by omega) h'
    have two : ∀ b r, (b = true → Ev (fun k => path_Normal.l0 k st S (S.length : Int) ((i + 1 : Nat) : Int)) r) → (b = false → x.toList = [46, 46] → st.length = 0 → r = (⟨#[]⟩, 30)) →
        (b = false → x.toList = [46, 46] → st.length ≠ 0 → Ev (fun k => path_Normal.l0 k st.dropLast S (S.length : Int) ((i + 1 : Nat) : Int)) r) →
        (b = false → ¬ x.toList = [46, 46] → Ev (fun k => path_Normal.l1 k st x S (S.length : Int) (i : Int) (x.size : Int) ((0 : Nat) : Int)) r) → Ev (fun k => path_Normal.j2 k st x S (S.length : Int) (i : Int) x b) r := by
      intro b r h1 h2 h3 h4
      cases b with
      | true =>
        refine Ev.step (fun k => ?_) (h1 rfl)
        rw [path_Normal.j2, if_pos rfl, w_next (by omega)]
      | false =>
        by_cases hxx : x.toList = [46, 46]
        · by_cases h0 : st.length = 0
          · rw [h2 rfl hxx h0]
            refine Ev.step (f := fun _ => some (⟨#[]⟩, 30)) (fun k => ?_) (Ev.now _)
            rw [path_Normal.j2, if_neg (by decide), if_pos hxx, if_pos (by omega)]
          · refine Ev.step (fun k => ?_) (h3 rfl hxx h0)
            rw [path_Normal.j2, if_neg (by decide), if_pos hxx, if_neg (by omega), w_dec h0 (by omega), if_pos (by omega), if_pos (by omega), w_next (by omega), List.dropLast_eq_take, Int.toNat_natCast]
        · refine Ev.step (fun k => ?_) (h4 rfl hxx)
          rw [path_Normal.j2, if_neg (by decide), if_neg hxx]
          rfl
    by_cases he : x.toList = []
    · refine Ev.step (f := fun k => path_Normal.j2 k st x S (S.length : Int) (i : Int) x (x.toList == [])) (fun k => ?_) (two _ _ (fun _ => ?_) (fun h => absurd h (by simp [he])) (fun h => absurd h (by simp [he])) (fun h => absurd h (by simp [he])))
      · rw [path_Normal.l0, if_pos (by omega), if_pos (by omega), if_pos (by omega), hx, if_pos he]
      · have := next st (by omega)
        rw [hdr]
        unfold res at *
        rw [proc, if_pos he]
        exact this
    · refine Ev.step (f := fun k => path_Normal.j2 k st x S (S.length : Int) (i : Int) x (x.toList == [46])) (fun k => ?_) (two _ _ (fun h => ?_) (fun h h2 h0 => ?_) (fun h h2 h0 => ?_) (fun h h2 => ?_))
      · rw [path_Normal.l0, if_pos (by omega), if_pos (by omega), if_pos (by omega), hx, if_neg he]
      · have h1 : x.toList = [46] := by simpa using h
        have := next st (by omega)
        rw [hdr]
        unfold res at *
        rw [proc, if_neg he, if_pos h1]
        exact this
      · have h1 : ¬ x.toList = [46] := by simpa using h
        rw [hdr]
        unfold res
        rw [proc, if_neg he, if_neg h1, if_pos h2, if_pos h0]
      · have h1 : ¬ x.toList = [46] := by simpa using h
        have := next st.dropLast (by have := bytes_dropLast st; omega)
        rw [hdr]
        unfold res at *
        rw [proc, if_neg he, if_neg h1, if_pos h2, if_neg h0]
        exact this
      · have h1 : ¬ x.toList = [46] := by simpa using h
        have e : res (S.drop i) st = if okB x = true then res (S.drop (i + 1)) (st ++ [x]) else (⟨#[]⟩, 30) := by
          rw [hdr]
          unfold res
          rw [proc, if_neg he, if_neg h1, if_neg h2]
          by_cases ho : okB x = true
          · rw [if_pos ho, if_pos ho]
          · rw [if_neg ho, if_neg ho]
        refine scan_ev st x S i _ (by omega) (by omega) (by omega) (fun ho => ?_) (fun ho => ?_) x.size 0 (by omega) (by omega) (fun q hq => by omega)
        · rw [e, if_pos ho]
          exact next (st ++ [x]) (by rw [bytes_app]; simp only [bytes, List.map_cons, List.map_nil, List.sum_cons, List.sum_nil] at *; omega)
        · rw [e, if_neg (by simp [ho])]

/-- The normal form of a text. -/
def N (s : ByteArray) : ByteArray × Int := if s.data.toList.head? = some 47 then res (segB s) [] else (⟨#[]⟩, 30)
theorem flat_segs : ∀ l : List UInt8, ((segs l).map fun x => x.length + 1).sum = l.length + 1
  | [] => rfl
  | c :: r => by
    have ih := flat_segs r
    obtain ⟨x, xs, h⟩ := segs_ne r
    by_cases hc : c = 47
    · subst hc; rw [segs_slash]; simp only [List.map_cons, List.sum_cons, ih, List.length_cons, List.length_nil]; omega
    · rw [segs_cons hc h]; rw [h] at ih; simp only [List.map_cons, List.sum_cons, List.length_cons] at *; omega
theorem bytes_segB (s : ByteArray) : bytes (segB s) = s.size + 1 := by
  have h := flat_segs s.data.toList
  rw [← segB_data s, List.map_map, ← sizeL] at h
  rw [← h]
  unfold bytes
  congr 1
theorem head_cases (s : ByteArray) : (s.toList = [] ∧ s.data.toList.head? ≠ some 47) ∨ (¬ s.toList = [] ∧ 0 < s.size ∧ ((bt s 0 != 47) = false ↔ s.data.toList.head? = some 47)) := by
  rw [toL]
  cases h : s.data.toList with
  | nil => exact .inl ⟨rfl, by simp⟩
  | cons c r =>
    have hl : 0 < s.data.toList.length := by rw [h]; simp
    refine .inr ⟨by simp, by rw [sizeL]; exact hl, ?_⟩
    have hb := bt_nat s 0 hl
    have hc : s.data.toList[0] = c := by simp [h]
    rw [hc] at hb
    have hu := u8_eq c 47 (by decide)
    rw [show ((0 : Nat) : Int) = 0 from rfl] at hb
    rw [hb]
    simp only [List.head?_cons, Option.some.injEq, bne_eq_false_iff_eq]
    exact hu
theorem prog_N (s : ByteArray) (h : s.size ≤ 4194304) : Ev (fun k => path_Normal.f k s) (N s) := by
  rcases head_cases s with ⟨h1, h2⟩ | ⟨h1, h2, h3⟩
  · unfold path_Normal.f N
    simp only [if_pos h1, if_neg h2]
    exact Ev.step (f := fun _ => some (⟨#[]⟩, 30)) (fun k => by rw [path_Normal.j0, if_pos rfl]) (Ev.now _)
  · unfold path_Normal.f N
    simp only [if_neg h1, if_pos (show (0 : Int) < (s.size : Int) by omega)]
    by_cases hh : s.data.toList.head? = some 47
    · rw [if_pos hh]
      have hb : (bt s 0 != 47) = false := h3.2 hh
      simp only [hb]
      refine Ev.step (f := fun k => path_Normal.l0 k [] (segB s) ((segB s).length : Int) ((0 : Nat) : Int)) (fun k => ?_) ?_
      · rw [path_Normal.j0, if_neg (by decide), split_is s (by omega) (by omega), Option.bind_some]
        rfl
      · have hbs := bytes_segB s
        exact prog_ev (segB s) (by omega) _ 0 [] rfl (Nat.zero_le _) (by simp only [List.drop_zero]; simp [bytes] at *; omega)
    · rw [if_neg hh]
      have hb : (bt s 0 != 47) = true := by
        rw [← Bool.not_eq_false]
        exact fun e => hh (h3.1 e)
      simp only [hb]
      exact Ev.step (f := fun _ => some (⟨#[]⟩, 30)) (fun k => by rw [path_Normal.j0, if_pos rfl]) (Ev.now _)
end Go.Proofs.YtgjboocmdeckgaaDoor.Pure
