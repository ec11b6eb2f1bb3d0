/- HB, as this claim needs it. -/
import Derived.Test.YtjcajpkgamolkaaDoorHAq
import Derived.Test.YtjcajpkgamolkaaDoorPTypx3q
import Derived.Lib.ItoaLen
namespace Go.Proofs.YtjcajpkgamolkaaDoor.Ty
open Go.RowKit Go.Proofs.YtjcajpkgamolkaaDoor.PTyp Go.Proofs.YtjcajpkgamolkaaDoorW.PrintWords Go.Proofs.YtjcajpkgamolkaaDoorW.PrintLast Go.Proofs.YtjcajpkgamolkaaDoorW.PrintMore
set_option linter.unusedVariables false
set_option linter.unusedSimpArgs false
theorem wrap_id (n : Int) (h : -9223372036854775808 ≤ n ∧ n ≤ 9223372036854775807) : wrap64 n = n := by
  unfold wrap64; omega
mutual
def wT : Ty → Nat
  | ⟨_, _, ns, l⟩ => 1 + ns.length + wTs l
def wTs : List Ty → Nat
  | [] => 0
  | t :: r => wT t + wTs r
end
theorem wT_mk (k n : Int) (ns : List ByteArray) (l : List Ty) : wT ⟨k, n, ns, l⟩ = 1 + ns.length + wTs l := by rw [wT]
theorem wT_is (t : Ty) : wT t = 1 + t.f2.length + wTs t.f3 := by cases t; rw [wT]
theorem wTs_nil : wTs [] = 0 := by rw [wTs]
theorem wTs_cons (t : Ty) (r : List Ty) : wTs (t :: r) = wT t + wTs r := by rw [wTs]
theorem wTs_append : ∀ (l m : List Ty), wTs (l ++ m) = wTs l + wTs m
  | [], m => by simp [wTs_nil]
  | t :: r, m => by rw [List.cons_append, wTs_cons, wTs_cons, wTs_append r m]; omega
theorem wT_pos (t : Ty) : 1 ≤ wT t := by rw [wT_is]; omega
theorem wTs_len : ∀ l : List Ty, l.length ≤ wTs l
  | [] => by simp
  | t :: r => by rw [wTs_cons]; have := wT_pos t; have := wTs_len r; simp; omega
theorem wTs_mem {l : List Ty} {t : Ty} (h : t ∈ l) : wT t ≤ wTs l := by
  induction l with
  | nil => cases h
  | cons a r ih =>
    rw [wTs_cons]
    rcases List.mem_cons.1 h with rfl | h
    · omega
    · have := ih h; omega
theorem size_le_w (t : Ty) : sizeT t ≤ wT t := by
  refine Ty.ind (p := fun t => sizeT t ≤ wT t) ?_ t
  intro k n ns l ih
  have hl : ∀ m : List Ty, (∀ t ∈ m, sizeT t ≤ wT t) → sizeTs m ≤ wTs m := by
    intro m
    induction m with
    | nil => intro _; simp [sizeTs_nil]
    | cons a r ih2 => intro h; rw [sizeTs_cons, wTs_cons]; have := h a (by simp); have := ih2 (fun t ht => h t (by simp [ht])); omega
  rw [sizeT_mk, wT_mk]
  have := hl l ih
  omega
theorem sizes_le_w (l : List Ty) : sizeTs l ≤ wTs l := by
  induction l with
  | nil => simp [sizeTs_nil]
  | cons a r ih => rw [sizeTs_cons, wTs_cons]; have := size_le_w a; omega
theorem rd_at {l : List Ty} {i : Nat} (h : i < l.length) : rd_T25 l (i : Int) = l[i] := by
  unfold rd_T25
  rw [Int.toNat_natCast, List.getD_eq_getElem?_getD, List.getElem?_eq_getElem h]; rfl
theorem rdB_at {l : List ByteArray} {i : Nat} (h : i < l.length) : rdOf ByteArray.empty l (i : Int) = l[i] := by
  unfold rdOf
  rw [Int.toNat_natCast, List.getD_eq_getElem?_getD, List.getElem?_eq_getElem h]; rfl
theorem drop_at {α : Type} {l : List α} {i : Nat} (h : i < l.length) : l.drop i = l[i] :: l.drop (i + 1) := List.drop_eq_getElem_cons h
theorem ints_is (a b : Int) : types_ints.f a b = some (cmpI a b) := by unfold types_ints.f cmpI; split <;> (try split) <;> simp_all
theorem cmpBytes_is : ∀ (x y : List UInt8), Lib.compareBytes x y = if x < y then -1 else if y < x then 1 else 0
  | [], [] => by simp [Lib.compareBytes]
  | [], _ :: _ => by simp [Lib.compareBytes]
  | _ :: _, [] => by simp [Lib.compareBytes]
  | a :: x, b :: y => by
    rw [Lib.compareBytes, cmpBytes_is x y]
    simp only [List.cons_lt_cons_iff]
    by_cases h1 : a < b
    · simp [h1]
    · by_cases h2 : b < a
      · have h3 : ¬ a = b := fun e => by subst e; exact h1 h2
        simp [h1, h2, h3]
      · have h3 : a = b := UInt8.le_antisymm (UInt8.not_lt.1 h2) (UInt8.not_lt.1 h1)
        subst h3
        simp [h1]
theorem strs_is (a b : ByteArray) : strings_Compare.f a b = some (cmpB a b) := by
  unfold strings_Compare.f cmpB
  rw [cmpBytes_is, Lib.toList_data, Lib.toList_data]
theorem size_l (l : List Ty) (hw : wTs l ≤ 1099511627776) (IH : ∀ t ∈ l, Ev (fun k => types_Size.f k t.f0 t.f1 t.f2 t.f3) (sizeT t : Int)) : ∀ (j i : Nat) (s : Int), i + j = l.length → 0 ≤ s → s + sizeTs (l.drop i) ≤ 1099511627777 → Ev (fun k => types_Size.l0 k s l (l.length : Int) (i : Int)) (s + sizeTs (l.drop i)) := by
  intro j
  induction j with
  | zero =>
    intro i s hi h0 hs
    refine Ev.step (f := fun _ => some _) (fun k => ?_) (Ev.now _)
    rw [types_Size.l0, if_neg (by omega), List.drop_eq_nil_of_le (by omega), sizeTs_nil]
    simp
  | succ j ih =>
    intro i s hi h0 hs
    have hlt : i < l.length := by omega
    rw [drop_at hlt, sizeTs_cons] at hs ⊢
    have e := ih (i + 1) (s + sizeT l[i]) (by omega) (by omega) (by omega)
    have hl := wTs_len l
    refine Ev.step (f := fun k => (types_Size.f k l[i].f0 l[i].f1 l[i].f2 l[i].f3).bind fun t => types_Size.l0 k (wrap64 (s + t)) l (l.length : Int) (wrap64 ((i : Int) + 1))) (fun k => ?_) ?_
    · rw [types_Size.l0, if_pos (by omega), if_pos (by omega), if_pos (by omega), rd_at hlt]
    · refine Ev.bind (f := fun k t => types_Size.l0 k (wrap64 (s + t)) l (l.length : Int) (wrap64 ((i : Int) + 1))) (IH _ (List.getElem_mem hlt)) ?_
      rw [wrap_id _ (by omega), wrap_id _ (by omega)]
      rw [show s + ((sizeT l[i] + sizeTs (l.drop (i + 1)) : Nat) : Int) = s + (sizeT l[i] : Int) + (sizeTs (l.drop (i + 1)) : Int) by omega]
      exact e
theorem size_ev (t : Ty) : wT t ≤ 1099511627776 → Ev (fun k => types_Size.f k t.f0 t.f1 t.f2 t.f3) (sizeT t : Int) := by
  refine Ty.ind (p := fun t => wT t ≤ 1099511627776 → Ev (fun k => types_Size.f k t.f0 t.f1 t.f2 t.f3) (sizeT t : Int)) ?_ t
  intro k n ns l ih hw
  rw [wT_mk] at hw
  have hsz := sizes_le_w l
  have := size_l l (by omega) (fun t ht => ih t ht (by have := wTs_mem ht; omega)) l.length 0 1 (by omega) (by omega) (by rw [List.drop_zero]; omega)
  rw [List.drop_zero] at this
  refine Ev.step (f := fun k => types_Size.l0 k 1 l (l.length : Int) 0) (fun k => by rw [types_Size.f]) ?_
  rw [sizeT_mk]
  simpa using this
section
variable (a b : Ty)
abbrev c0 (k : Nat) (x5 : Int) : Option Int := types_Compare.l0 k x5 a.f0 a.f1 a.f2 a.f3 b.f0 b.f1 b.f2 b.f3
abbrev c1 (k : Nat) (x6 x7 : Int) : Option Int := types_Compare.l1 k 3 x6 x7 a.f0 a.f1 a.f2 a.f3 b.f0 b.f1 b.f2 b.f3
abbrev c2 (k : Nat) (x6 x8 : Int) : Option Int := types_Compare.l2 k 5 x6 x8 a.f0 a.f1 a.f2 a.f3 b.f0 b.f1 b.f2 b.f3
theorem orI_0 (y : Int) : orI 0 y = y := if_pos rfl
theorem orI_ne {x : Int} (h : x ≠ 0) (y : Int) : orI x y = x := if_neg h
theorem cmp_l1 (hl : a.f2.length = b.f2.length) (hs : a.f2.length ≤ 1099511627776) (r : Int) (hr : Ev (fun k => c0 a b k 4) r) : ∀ (j i : Nat), i + j = a.f2.length → Ev (fun k => c1 a b k 0 i) (orI (cmpBs (a.f2.drop i) (b.f2.drop i)) r) := by
  intro j
  induction j with
  | zero =>
    intro i hi
    rw [List.drop_eq_nil_of_le (by omega), List.drop_eq_nil_of_le (by omega), cmpBs, orI_0]
    · refine Ev.step (f := fun k => c0 a b k 4) (fun k => ?_) hr
      show types_Compare.l1 (k + 1) _ _ _ _ _ _ _ _ _ _ _ = _
      rw [types_Compare.l1, if_neg (by omega), if_pos rfl, wrap_id _ (by omega)]
      rfl
    · intro _ _ _ _ h; cases h
  | succ j ih =>
    intro i hi
    have h1 : i < a.f2.length := by omega
    have h2 : i < b.f2.length := by omega
    rw [drop_at h1, drop_at h2, cmpBs]
    have e : ∀ k, c1 a b (k + 1) 0 i = c1 a b k (cmpB a.f2[i] b.f2[i]) ((i + 1 : Nat) : Int) := fun k => by
      show types_Compare.l1 (k + 1) _ _ _ _ _ _ _ _ _ _ _ = _
      rw [types_Compare.l1, if_pos (by omega), if_pos rfl, if_pos (by omega), if_pos (by omega), rdB_at h1, rdB_at h2, strs_is, Option.bind_some, wrap_id _ (by omega)]
      rfl
    refine Ev.step e ?_
    by_cases hz : cmpB a.f2[i] b.f2[i] = 0
    · rw [hz, orI_0]
      exact ih (i + 1) (by omega)
    · rw [orI_ne hz, orI_ne hz]
      refine Ev.step (f := fun _ => some _) (fun k => ?_) (Ev.now _)
      show types_Compare.l1 (k + 1) _ _ _ _ _ _ _ _ _ _ _ = _
      rw [types_Compare.l1]
      split <;> first | rfl | rw [if_neg hz]
theorem cmp_l2 (hl : a.f3.length = b.f3.length) (hs : a.f3.length ≤ 1099511627776) (IH : ∀ t ∈ a.f3, ∀ u ∈ b.f3, Ev (fun k => types_Compare.f k t.f0 t.f1 t.f2 t.f3 u.f0 u.f1 u.f2 u.f3) (cmpT t u)) : ∀ (j i : Nat), i + j = a.f3.length → Ev (fun k => c2 a b k 0 i) (cmpTs (a.f3.drop i) (b.f3.drop i)) := by
  intro j
  induction j with
  | zero =>
    intro i hi
    rw [List.drop_eq_nil_of_le (by omega), List.drop_eq_nil_of_le (by omega)]
    have e0 : cmpTs [] [] = 0 := by simp [cmpTs]
    rw [e0]
    refine Ev.step (f := fun k => c0 a b k 6) (fun k => ?_) (Ev.step (f := fun _ => some 0) (fun k => ?_) (Ev.now _))
    · show types_Compare.l2 (k + 1) _ _ _ _ _ _ _ _ _ _ _ = _
      rw [types_Compare.l2, if_neg (by omega), if_pos rfl, wrap_id _ (by omega)]
      rfl
    · show types_Compare.l0 (k + 1) _ _ _ _ _ _ _ _ _ = _
      rw [types_Compare.l0]
      simp
  | succ j ih =>
    intro i hi
    have h1 : i < a.f3.length := by omega
    have h2 : i < b.f3.length := by omega
    rw [drop_at h1, drop_at h2, cmpTs]
    refine Ev.step (f := fun k => (types_Compare.f k a.f3[i].f0 a.f3[i].f1 a.f3[i].f2 a.f3[i].f3 b.f3[i].f0 b.f3[i].f1 b.f3[i].f2 b.f3[i].f3).bind fun t => c2 a b k t ((i + 1 : Nat) : Int)) (fun k => ?_) ?_
    · show types_Compare.l2 (k + 1) _ _ _ _ _ _ _ _ _ _ _ = _
      rw [types_Compare.l2, if_pos (by omega), if_pos rfl, if_pos (by omega), if_pos (by omega), rd_at h1, rd_at h2, wrap_id _ (by omega)]
      rfl
    · refine Ev.bind (f := fun k t => c2 a b k t ((i + 1 : Nat) : Int)) (IH _ (List.getElem_mem h1) _ (List.getElem_mem h2)) ?_
      by_cases hz : cmpT a.f3[i] b.f3[i] = 0
      · rw [hz, orI_0]
        exact ih (i + 1) (by omega)
      · rw [orI_ne hz]
        refine Ev.step (f := fun _ => some _) (fun k => ?_) (Ev.now _)
        show types_Compare.l2 (k + 1) _ _ _ _ _ _ _ _ _ _ _ = _
        rw [types_Compare.l2]
        split <;> first | rfl | rw [if_neg hz]
theorem step_l0 (i : Int) (h0 : 0 ≤ i) (h6 : i < 6) (x r : Int) (hr : x = 0 → Ev (fun k => c0 a b k (i + 1)) r) (e : ∀ k, c0 a b (k + 1) i = if x = 0 then c0 a b k (i + 1) else some x) : Ev (fun k => c0 a b k i) (orI x r) := by
  by_cases hz : x = 0
  · rw [hz, orI_0]
    exact Ev.step (fun k => (e k).trans (if_pos hz)) (hr hz)
  · rw [orI_ne hz]
    exact Ev.step (f := fun _ => some _) (fun k => (e k).trans (if_neg hz)) (Ev.now _)
end
theorem cmp_ev (a : Ty) : ∀ b : Ty, wT a ≤ 1099511627776 → wT b ≤ 1099511627776 → Ev (fun k => types_Compare.f k a.f0 a.f1 a.f2 a.f3 b.f0 b.f1 b.f2 b.f3) (cmpT a b) := by
  refine Ty.ind (p := fun a => ∀ b : Ty, wT a ≤ 1099511627776 → wT b ≤ 1099511627776 → Ev (fun k => types_Compare.f k a.f0 a.f1 a.f2 a.f3 b.f0 b.f1 b.f2 b.f3) (cmpT a b)) ?_ a
  intro k n ns l ih b hwa hwb
  obtain ⟨k', n', ns', l'⟩ := b
  rw [wT_mk] at hwa hwb
  have hla := wTs_len l
  have hlb := wTs_len l'
  rw [cmpT_mk]
  refine Ev.step (f := fun q => c0 ⟨k, n, ns, l⟩ ⟨k', n', ns', l'⟩ q 0) (fun q => by rw [types_Compare.f]) ?_
  refine step_l0 _ _ 0 (by omega) (by omega) _ _ (fun _ => ?_) (fun q => by
    show types_Compare.l0 (q + 1) _ _ _ _ _ _ _ _ _ = _
    rw [types_Compare.l0, if_pos rfl, ints_is, Option.bind_some, wrap_id _ (by omega)])
  refine step_l0 _ _ 1 (by omega) (by omega) _ _ (fun _ => ?_) (fun q => by
    show types_Compare.l0 (q + 1) _ _ _ _ _ _ _ _ _ = _
    rw [types_Compare.l0, if_neg (by omega), if_pos rfl, ints_is, Option.bind_some, wrap_id _ (by omega)])
  refine step_l0 _ _ 2 (by omega) (by omega) _ _ (fun h2 => ?_) (fun q => by
    show types_Compare.l0 (q + 1) _ _ _ _ _ _ _ _ _ = _
    rw [types_Compare.l0, if_neg (by omega), if_neg (by omega), if_pos rfl, ints_is, Option.bind_some, wrap_id _ (by omega)])
  refine Ev.step (f := fun q => c1 ⟨k, n, ns, l⟩ ⟨k', n', ns', l'⟩ q 0 ((0 : Nat) : Int)) (fun q => by
    show types_Compare.l0 (q + 1) _ _ _ _ _ _ _ _ _ = _
    rw [types_Compare.l0, if_neg (by omega), if_neg (by omega), if_neg (by omega), if_pos (by omega)]
    rfl) ?_
  have h1 := cmp_l1 ⟨k, n, ns, l⟩ ⟨k', n', ns', l'⟩ (len_eq h2) (by show ns.length ≤ _; omega) (orI (cmpI l.length l'.length) (cmpTs l l')) ?_ ns.length 0 (by show 0 + ns.length = ns.length; omega)
  · simpa using h1
  · refine step_l0 _ _ 4 (by omega) (by omega) _ _ (fun h5 => ?_) (fun q => by
      show types_Compare.l0 (q + 1) _ _ _ _ _ _ _ _ _ = _
      rw [types_Compare.l0, if_neg (by omega), if_neg (by omega), if_neg (by omega), if_neg (by omega), if_pos rfl, ints_is, Option.bind_some, wrap_id _ (by omega)])
    refine Ev.step (f := fun q => c2 ⟨k, n, ns, l⟩ ⟨k', n', ns', l'⟩ q 0 ((0 : Nat) : Int)) (fun q => by
      show types_Compare.l0 (q + 1) _ _ _ _ _ _ _ _ _ = _
      rw [types_Compare.l0, if_neg (by omega), if_neg (by omega), if_neg (by omega), if_neg (by omega), if_neg (by omega), if_pos (by omega)]
      rfl) ?_
    have h2 := cmp_l2 ⟨k, n, ns, l⟩ ⟨k', n', ns', l'⟩ (len_eq h5) (by show l.length ≤ _; omega) (fun t ht u hu => ih t ht u (by have := wTs_mem (l := l) ht; omega) (by have := wTs_mem (l := l') hu; omega)) l.length 0 (by show 0 + l.length = l.length; omega)
    simpa using h2
end Go.Proofs.YtjcajpkgamolkaaDoor.Ty
namespace Go.Proofs.YtjcajpkgamolkaaDoor.Ty
open Go.RowKit Go.Proofs.YtjcajpkgamolkaaDoor.PTyp
set_option linter.unusedVariables false
set_option linter.unusedSimpArgs false
def itoaB (n : Int) : ByteArray := ⟨(Lib.itoa n).toArray⟩
def joinB (l : List ByteArray) (s : ByteArray) : ByteArray := ⟨(Lib.join (l.map (·.data.toList)) s.data.toList).toArray⟩
def brackB (x : ByteArray) : ByteArray := ((⟨#[40]⟩ : ByteArray) ++ x) ++ (⟨#[41]⟩ : ByteArray)
def withinB (ks : List Int) (p : Int × ByteArray) : ByteArray := if p.1 ∈ ks then brackB p.2 else p.2
def slotB (n x : ByteArray) : ByteArray := ((((⟨#[32]⟩ : ByteArray) ++ n) ++ (⟨#[58, 32]⟩ : ByteArray)) ++ x) ++ (⟨#[59]⟩ : ByteArray)
def slotsB : List ByteArray → List ByteArray → ByteArray
  | n :: ns, x :: xs => slotB n x ++ slotsB ns xs
  | _, _ => ⟨#[]⟩
def wordB (k : Int) : ByteArray :=
  if k = 1 then ⟨#[97, 110, 121]⟩ else if k = 2 then ⟨#[110, 117, 109, 98, 101, 114]⟩ else if k = 3 then ⟨#[115, 116, 114, 105, 110, 103]⟩
  else if k = 4 then ⟨#[98, 111, 111, 108, 101, 97, 110]⟩ else if k = 5 then ⟨#[110, 117, 108, 108]⟩ else if k = 6 then ⟨#[117, 110, 100, 101, 102, 105, 110, 101, 100]⟩ else ⟨#[]⟩
def markB (k : Int) : ByteArray := if k = 11 then ⟨#[105, 110, 115, 116]⟩ else if k = 12 then ⟨#[99, 108, 97, 115, 115]⟩ else ⟨#[115, 112, 97, 99, 101]⟩
def recB (ns : List ByteArray) (xs : List ByteArray) : ByteArray :=
  let s := (⟨#[123]⟩ : ByteArray) ++ slotsB ns xs
  (if 0 < xs.length then s ++ (⟨#[32]⟩ : ByteArray) else s) ++ (⟨#[125]⟩ : ByteArray)
def showK (k n : Int) (ns : List ByteArray) (xs : List (Int × ByteArray)) : ByteArray :=
  if k = 7 then withinB [10, 9] (xs.headD (0, ⟨#[]⟩)) ++ (⟨#[91, 93]⟩ : ByteArray)
  else if k = 8 then recB ns (xs.map (withinB []))
  else if k = 9 then (((⟨#[40]⟩ : ByteArray) ++ joinB ((xs.take (xs.length - 1)).map (withinB [])) ⟨#[44, 32]⟩) ++ (⟨#[41, 32, 61, 62, 32]⟩ : ByteArray)) ++ (xs.getLastD (0, ⟨#[]⟩)).2
  else if k = 10 then joinB (xs.map (withinB [9])) ⟨#[32, 124, 32]⟩
  else if 11 ≤ k then (markB k ++ (⟨#[35]⟩ : ByteArray)) ++ itoaB n
  else wordB k
mutual
def showT : Ty → ByteArray
  | ⟨k, n, ns, l⟩ => showK k n ns (showTs l)
def showTs : List Ty → List (Int × ByteArray)
  | [] => []
  | a :: x => (a.f0, showT a) :: showTs x
end
def pairT (t : Ty) : Int × ByteArray := (t.f0, showT t)
theorem showTs_is : ∀ l : List Ty, showTs l = l.map pairT
  | [] => by rw [showTs]; rfl
  | a :: x => by rw [showTs, showTs_is x]; rfl
theorem showT_is (t : Ty) : showT t = showK t.f0 t.f1 t.f2 (t.f3.map pairT) := by cases t; rw [showT, showTs_is]
def inT (ks : List Int) (t : Ty) : ByteArray := withinB ks (pairT t)
theorem inT_is (ks : List Int) (t : Ty) : inT ks t = if t.f0 ∈ ks then brackB (showT t) else showT t := rfl
def sumB : List ByteArray → Nat
  | [] => 0
  | n :: r => 8 + n.size + sumB r
mutual
def zT : Ty → Nat
  | ⟨_, _, ns, l⟩ => 48 + sumB ns + zTs l
def zTs : List Ty → Nat
  | [] => 0
  | t :: r => zT t + zTs r
end
theorem zT_is (t : Ty) : zT t = 48 + sumB t.f2 + zTs t.f3 := by cases t; rw [zT]
theorem zTs_nil : zTs [] = 0 := by rw [zTs]
theorem zTs_cons (t : Ty) (r : List Ty) : zTs (t :: r) = zT t + zTs r := by rw [zTs]
theorem zTs_mem {l : List Ty} {t : Ty} (h : t ∈ l) : zT t ≤ zTs l := by
  induction l with
  | nil => cases h
  | cons a r ih =>
    rw [zTs_cons]
    rcases List.mem_cons.1 h with rfl | h
    · omega
    · have := ih h; omega
theorem sumB_len : ∀ l : List ByteArray, 8 * l.length ≤ sumB l
  | [] => by simp [sumB]
  | n :: r => by have := sumB_len r; simp only [sumB, List.length_cons]; omega
theorem wT_le_z (t : Ty) : wT t ≤ zT t := by
  refine Ty.ind (p := fun t => wT t ≤ zT t) ?_ t
  intro k n ns l ih
  have hl : ∀ m : List Ty, (∀ t ∈ m, wT t ≤ zT t) → wTs m ≤ zTs m := by
    intro m
    induction m with
    | nil => intro _; simp [wTs_nil]
    | cons a r ih2 => intro h; rw [wTs_cons, zTs_cons]; have := h a (by simp); have := ih2 (fun t ht => h t (by simp [ht])); omega
  rw [wT_mk, zT_is]
  have := hl l ih
  have := sumB_len ns
  show 1 + ns.length + wTs l ≤ 48 + sumB ns + zTs l
  omega
theorem wT8_le_z (t : Ty) : 8 * wT t ≤ zT t := by
  refine Ty.ind (p := fun t => 8 * wT t ≤ zT t) ?_ t
  intro k n ns l ih
  have hl : ∀ m : List Ty, (∀ t ∈ m, 8 * wT t ≤ zT t) → 8 * wTs m ≤ zTs m := by
    intro m
    induction m with
    | nil => intro _; simp [wTs_nil]
    | cons a r ih2 => intro h; rw [wTs_cons, zTs_cons]; have := h a (by simp); have := ih2 (fun t ht => h t (by simp [ht])); omega
  rw [wT_mk, zT_is]
  have := hl l ih
  have := sumB_len ns
  show 8 * (1 + ns.length + wTs l) ≤ 48 + sumB ns + zTs l
  omega
theorem wTs_le_z : ∀ l : List Ty, wTs l ≤ zTs l
  | [] => by simp [wTs_nil]
  | a :: r => by rw [wTs_cons, zTs_cons]; have := wT_le_z a; have := wTs_le_z r; omega
mutual
def rngT : Ty → Bool
  | ⟨_, n, _, l⟩ => decide (-9223372036854775808 ≤ n ∧ n ≤ 9223372036854775807) && rngTs l
def rngTs : List Ty → Bool
  | [] => true
  | t :: r => rngT t && rngTs r
end
theorem rngTs_iff : ∀ l : List Ty, rngTs l = true ↔ ∀ t ∈ l, rngT t = true
  | [] => by simp [rngTs]
  | t :: r => by rw [rngTs, Bool.and_eq_true, rngTs_iff r]; simp
theorem rngT_iff (t : Ty) : rngT t = true ↔ (-9223372036854775808 ≤ t.f1 ∧ t.f1 ≤ 9223372036854775807) ∧ ∀ x ∈ t.f3, rngT x = true := by
  cases t; rw [rngT, Bool.and_eq_true, decide_eq_true_eq, rngTs_iff]
theorem app_size (a b : ByteArray) : (a ++ b).size = a.size + b.size := ByteArray.size_append
theorem mk_size (a : Array UInt8) : (ByteArray.mk a).size = a.size := rfl
theorem brackB_size (x : ByteArray) : (brackB x).size = x.size + 2 := by unfold brackB; rw [app_size, app_size]; show 1 + _ + 1 = _; omega
theorem withinB_size (ks : List Int) (p : Int × ByteArray) : (withinB ks p).size ≤ p.2.size + 2 := by unfold withinB; split <;> (try rw [brackB_size]) <;> omega
theorem slotB_size (n x : ByteArray) : (slotB n x).size = n.size + x.size + 4 := by unfold slotB; simp only [app_size]; show 1 + _ + 2 + _ + 1 = _; omega
def sumS : List ByteArray → Nat
  | [] => 0
  | x :: r => x.size + sumS r
theorem sumS_append : ∀ a b : List ByteArray, sumS (a ++ b) = sumS a + sumS b
  | [], b => by simp [sumS]
  | x :: r, b => by rw [List.cons_append, sumS, sumS, sumS_append r b]; omega
theorem slotsB_size : ∀ ns xs : List ByteArray, (slotsB ns xs).size ≤ sumB ns + sumS xs
  | [], _ => by simp [slotsB, mk_size]
  | _ :: _, [] => by simp [slotsB, mk_size]
  | n :: ns, x :: xs => by have := slotsB_size ns xs; simp only [slotsB, sumB, sumS]; rw [app_size, slotB_size]; omega
theorem join_two (x y : List UInt8) (r : List (List UInt8)) (s : List UInt8) : Lib.join (x :: y :: r) s = x ++ (s ++ Lib.join (y :: r) s) := by rw [Lib.join_cons, Lib.join_cons]; simp [Lib.joinTail]
theorem join_len : ∀ (l : List (List UInt8)) (s : List UInt8), (Lib.join l s).length ≤ (l.map List.length).sum + l.length * s.length
  | [], s => by simp [Lib.join_nil]
  | [x], s => by simp [Lib.join_one]
  | x :: y :: r, s => by
    have := join_len (y :: r) s
    rw [join_two]
    simp only [List.length_append, List.map_cons, List.sum_cons, List.length_cons] at this ⊢
    have e : (r.length + 1 + 1) * s.length = (r.length + 1) * s.length + s.length := by rw [Nat.succ_mul]
    omega
theorem joinB_size (l : List ByteArray) (s : ByteArray) : (joinB l s).size ≤ sumS l + l.length * s.size := by
  have h := join_len (l.map (·.data.toList)) s.data.toList
  have e : ((l.map (·.data.toList)).map List.length).sum = sumS l := by
    clear h
    induction l with
    | nil => rfl
    | cons a r ih => simp only [List.map_cons, List.sum_cons, sumS, ih]; rfl
  rw [e, List.length_map] at h
  exact h
theorem sumS_in (ks : List Int) : ∀ xs : List (Int × ByteArray), sumS (xs.map (withinB ks)) ≤ sumS (xs.map (·.2)) + 2 * xs.length
  | [] => by simp [sumS]
  | x :: r => by have := sumS_in ks r; have := withinB_size ks x; simp only [List.map_cons, sumS, List.length_cons]; omega
theorem itoaB_size (n : Int) (h : -9223372036854775808 ≤ n ∧ n ≤ 9223372036854775807) : (itoaB n).size ≤ 21 := by
  have := Lib.itoa_length_le n h.1 h.2
  show (Lib.itoa n).toArray.size ≤ _
  simp only [List.size_toArray]
  omega
theorem wordB_size (k : Int) : (wordB k).size ≤ 9 := by unfold wordB; repeat' split <;> (try (rw [mk_size]; decide))
theorem markB_size (k : Int) : (markB k).size ≤ 5 := by unfold markB; repeat' split <;> (try (rw [mk_size]; decide))
theorem z91 : (⟨#[91, 93]⟩ : ByteArray).size = 2 := rfl
theorem z123 : (⟨#[123]⟩ : ByteArray).size = 1 := rfl
theorem z125 : (⟨#[125]⟩ : ByteArray).size = 1 := rfl
theorem z32 : (⟨#[32]⟩ : ByteArray).size = 1 := rfl
theorem z40 : (⟨#[40]⟩ : ByteArray).size = 1 := rfl
theorem z41 : (⟨#[41, 32, 61, 62, 32]⟩ : ByteArray).size = 5 := rfl
theorem z35 : (⟨#[35]⟩ : ByteArray).size = 1 := rfl
theorem z44 : (⟨#[44, 32]⟩ : ByteArray).size = 2 := rfl
theorem z124 : (⟨#[32, 124, 32]⟩ : ByteArray).size = 3 := rfl
theorem z0 : (⟨#[]⟩ : ByteArray).size = 0 := rfl
theorem recB_size (ns : List ByteArray) (xs : List ByteArray) : (recB ns xs).size ≤ sumB ns + sumS xs + 3 := by
  have h1 := slotsB_size ns xs
  unfold recB
  simp only [app_size, z125]
  split <;> (simp only [app_size, z123, z32]; omega)
theorem last_size (xs : List (Int × ByteArray)) : sumS ((xs.take (xs.length - 1)).map (·.2)) + (xs.getLastD (0, ⟨#[]⟩)).2.size ≤ sumS (xs.map (·.2)) := by
  rcases List.eq_nil_or_concat xs with rfl | ⟨r, x, rfl⟩
  · exact Nat.le_refl 0
  · simp [sumS_append, sumS]
theorem showK_size (k n : Int) (hn : -9223372036854775808 ≤ n ∧ n ≤ 9223372036854775807) (ns : List ByteArray) (xs : List (Int × ByteArray)) : (showK k n ns xs).size + 16 ≤ 48 + sumB ns + sumS (xs.map (·.2)) + 16 * xs.length := by
  unfold showK
  have hi := itoaB_size n hn
  have hw := wordB_size k
  have hm := markB_size k
  split
  · rw [app_size, z91]
    cases xs with
    | nil =>
      have h := withinB_size [10, 9] (0, ⟨#[]⟩)
      simp only [z0] at h
      rw [List.headD_nil]
      omega
    | cons a r =>
      have h := withinB_size [10, 9] a
      rw [List.headD_cons, List.map_cons, sumS, List.length_cons]
      omega
  split
  · have h1 := recB_size ns (xs.map (withinB []))
    have h2 := sumS_in [] xs
    omega
  split
  · have h1 := joinB_size ((xs.take (xs.length - 1)).map (withinB [])) ⟨#[44, 32]⟩
    have h3 := sumS_in [] (xs.take (xs.length - 1))
    rw [z44, List.length_map] at h1
    have h4 : (xs.take (xs.length - 1)).length ≤ xs.length := by rw [List.length_take]; omega
    have h5 := last_size xs
    simp only [app_size, z40, z41]
    omega
  split
  · have h1 := joinB_size (xs.map (withinB [9])) ⟨#[32, 124, 32]⟩
    have h3 := sumS_in [9] xs
    rw [z124, List.length_map] at h1
    omega
  split
  · simp only [app_size, z35]; omega
  · omega
theorem sum_pairs : ∀ l : List Ty, (∀ t ∈ l, (showT t).size + 16 ≤ zT t) → sumS ((l.map pairT).map (·.2)) + 16 * l.length ≤ zTs l
  | [], _ => by simp [sumS, zTs_nil]
  | t :: r, h => by
    have h1 := h t (by simp)
    have h2 := sum_pairs r (fun x hx => h x (by simp [hx]))
    rw [zTs_cons]
    simp only [List.map_cons, sumS, List.length_cons] at h2 ⊢
    show (showT t).size + _ + _ ≤ _
    omega
theorem showT_size (t : Ty) : rngT t = true → (showT t).size + 16 ≤ zT t := by
  refine Ty.ind (p := fun t => rngT t = true → (showT t).size + 16 ≤ zT t) ?_ t
  intro k n ns l ih hr
  rw [rngT_iff] at hr
  have h1 := showK_size k n hr.1 ns (l.map pairT)
  have h2 := sum_pairs l (fun t ht => ih t ht (hr.2 t ht))
  rw [List.length_map] at h1
  rw [showT_is, zT_is]
  show (showK k n ns (l.map pairT)).size + 16 ≤ 48 + sumB ns + zTs l
  omega
end Go.Proofs.YtjcajpkgamolkaaDoor.Ty
namespace Go.Proofs.YtjcajpkgamolkaaDoor.Ty
open Go.RowKit Go.Proofs.YtjcajpkgamolkaaDoor.PTyp Go.Proofs.YtjcajpkgamolkaaDoorW.PrintWords Go.Proofs.YtjcajpkgamolkaaDoorW.PrintLast Go.Proofs.YtjcajpkgamolkaaDoorW.PrintMore
set_option linter.unusedVariables false
set_option linter.unusedSimpArgs false
theorem eta25 (t : Ty) : (⟨t.f0, t.f1, t.f2, t.f3⟩ : S25) = t := by cases t; rfl
end Go.Proofs.YtjcajpkgamolkaaDoor.Ty
