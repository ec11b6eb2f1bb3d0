/- HA, as this claim needs it. -/
import Derived.Test.YtjcajpkgamolkaaDoorPTypx0q
import Derived.Sort.Walk0
namespace Go.Proofs.YtjcajpkgamolkaaDoor.Ty
open Go.RowKit Go.Proofs.YtjcajpkgamolkaaDoor.PTyp
set_option linter.unusedVariables false
set_option linter.unusedSimpArgs false
abbrev Ty := S25
def Ty.k (t : Ty) : Int := t.f0
def Ty.n (t : Ty) : Int := t.f1
def Ty.ns (t : Ty) : List ByteArray := t.f2
def Ty.l (t : Ty) : List Ty := t.f3
instance : Inhabited Ty := ⟨S25.mk 0 0 [] []⟩
theorem Ty.ind {p : Ty → Prop} (h : ∀ k n ns l, (∀ t ∈ l, p t) → p (.mk k n ns l)) : ∀ t, p t := by
  intro t
  refine S25.rec (motive_1 := p) (motive_2 := fun l => ∀ t ∈ l, p t) (fun k n ns l ih => h k n ns l ih) (fun t ht => by cases ht) (fun a r ha hr t ht => ?_) t
  rcases List.mem_cons.1 ht with rfl | ht
  · exact ha
  · exact hr t ht
def cmpI (a b : Int) : Int := if a < b then -1 else if a > b then 1 else 0
def cmpB (a b : ByteArray) : Int := if a.toList < b.toList then -1 else if b.toList < a.toList then 1 else 0
def orI (x y : Int) : Int := if x = 0 then y else x
def cmpBs : List ByteArray → List ByteArray → Int
  | a :: x, b :: y => orI (cmpB a b) (cmpBs x y)
  | _, _ => 0
mutual
def cmpT : Ty → Ty → Int
  | .mk k n ns l, .mk k' n' ns' l' => orI (cmpI k k') (orI (cmpI n n') (orI (cmpI ns.length ns'.length) (orI (cmpBs ns ns') (orI (cmpI l.length l'.length) (cmpTs l l')))))
def cmpTs : List Ty → List Ty → Int
  | a :: x, b :: y => orI (cmpT a b) (cmpTs x y)
  | _, _ => 0
end
def Tr (x y z : Int) : Prop := (x ≤ 0 → y ≤ 0 → z ≤ 0) ∧ (x < 0 → y ≤ 0 → z < 0) ∧ (x ≤ 0 → y < 0 → z < 0) ∧ (x = 0 → y = 0 → z = 0)
theorem Tr.orI {x y z x' y' z' : Int} (h : Tr x y z) (h' : x = 0 → y = 0 → Tr x' y' z') : Tr (orI x x') (orI y y') (orI z z') := by
  unfold Ty.orI
  obtain ⟨h1, h2, h3, h4⟩ := h
  by_cases hx : x = 0
  · by_cases hy : y = 0
    · rw [if_pos hx, if_pos hy, if_pos (h4 hx hy)]; exact h' hx hy
    · rw [if_pos hx, if_neg hy]
      refine ⟨fun a b => ?_, fun a b => ?_, fun a b => ?_, fun a b => absurd b hy⟩ <;>
      · have := h3 (by omega) (by omega)
        rw [if_neg (by omega)]; omega
  · by_cases hy : y = 0
    · rw [if_neg hx, if_pos hy]
      refine ⟨fun a b => ?_, fun a b => ?_, fun a b => ?_, fun a b => absurd a hx⟩ <;>
      · have := h2 (by omega) (by omega)
        rw [if_neg (by omega)]; omega
    · rw [if_neg hx, if_neg hy]
      refine ⟨fun a b => ?_, fun a b => ?_, fun a b => ?_, fun a b => absurd a hx⟩ <;>
      · have := h2 (by omega) (by omega)
        rw [if_neg (by omega)]; omega
def Sk (x y : Int) : Prop := y = -x ∧ -1 ≤ x ∧ x ≤ 1
theorem Sk.orI {x y x' y' : Int} (h : Sk x y) (h' : x = 0 → Sk x' y') : Sk (orI x x') (orI y y') := by
  obtain ⟨rfl, h1, h2⟩ := h
  unfold Ty.orI
  by_cases hx : x = 0
  · rw [if_pos hx, if_pos (by omega)]; exact h' hx
  · rw [if_neg hx, if_neg (by omega)]; exact ⟨rfl, h1, h2⟩
theorem cmpI_sk (a b : Int) : Sk (cmpI a b) (cmpI b a) := by unfold cmpI Sk; (repeat' split) <;> omega
theorem cmpI_tr (a b c : Int) : Tr (cmpI a b) (cmpI b c) (cmpI a c) := by unfold cmpI Tr; (repeat' split) <;> omega
theorem cmpI_eq {a b : Int} (h : cmpI a b = 0) : a = b := by unfold cmpI at h; (repeat' split at h) <;> omega
theorem cmpI_self (a : Int) : cmpI a a = 0 := by unfold cmpI; simp
theorem len_eq {a b : Nat} (h : cmpI a b = 0) : a = b := by have := cmpI_eq h; omega
theorem bl_tri (x y : List UInt8) : x < y ∨ x = y ∨ y < x := by
  rcases Decidable.em (x < y) with h | h
  · exact Or.inl h
  · rcases Decidable.em (y < x) with h' | h'
    · exact Or.inr (Or.inr h')
    · exact Or.inr (Or.inl (List.le_antisymm (List.not_lt.1 h') (List.not_lt.1 h)))
theorem toList_inj {a b : ByteArray} (h : a.toList = b.toList) : a = b := by
  rw [Lib.toList_data, Lib.toList_data] at h
  cases a; cases b
  simp only at h
  congr 1
  exact Array.toList_inj.1 h
theorem cmpB_lt {a b : ByteArray} : cmpB a b < 0 ↔ a.toList < b.toList := by
  unfold cmpB
  split
  · simp [*]
  · split <;> simp [*]
theorem cmpB_eq {a b : ByteArray} (h : cmpB a b = 0) : a = b := by
  unfold cmpB at h
  split at h
  · omega
  · split at h
    · omega
    · rename_i h1 h2
      rcases bl_tri a.toList b.toList with h3 | h3 | h3
      · exact absurd h3 h1
      · exact toList_inj h3
      · exact absurd h3 h2
theorem cmpB_self (a : ByteArray) : cmpB a a = 0 := by unfold cmpB; simp [List.lt_irrefl]
theorem cmpB_sk (a b : ByteArray) : Sk (cmpB a b) (cmpB b a) := by
  unfold cmpB Sk
  by_cases h1 : a.toList < b.toList
  · have h2 : ¬ b.toList < a.toList := fun h => List.lt_irrefl _ (List.lt_trans h1 h)
    simp [h1, h2]
  · by_cases h2 : b.toList < a.toList <;> simp [h1, h2]
theorem cmpB_tr (a b c : ByteArray) : Tr (cmpB a b) (cmpB b c) (cmpB a c) := by
  rcases bl_tri a.toList b.toList with h1 | h1 | h1
  · have e1 : cmpB a b < 0 := cmpB_lt.2 h1
    rcases bl_tri b.toList c.toList with h2 | h2 | h2
    · have e2 : cmpB b c < 0 := cmpB_lt.2 h2
      have e3 : cmpB a c < 0 := cmpB_lt.2 (List.lt_trans h1 h2)
      unfold Tr; omega
    · obtain rfl := toList_inj h2
      have := cmpB_self b
      unfold Tr; omega
    · have e2 : cmpB c b < 0 := cmpB_lt.2 h2
      have := (cmpB_sk c b).1
      unfold Tr; omega
  · obtain rfl := toList_inj h1
    have := cmpB_self a
    unfold Tr; omega
  · have e1 : cmpB b a < 0 := cmpB_lt.2 h1
    have := (cmpB_sk b a).1
    unfold Tr; omega
theorem cmpBs_self : ∀ x : List ByteArray, cmpBs x x = 0
  | [] => rfl
  | a :: x => by rw [cmpBs, cmpB_self, orI, if_pos rfl, cmpBs_self x]
theorem cmpBs_eq : ∀ {x y : List ByteArray}, x.length = y.length → cmpBs x y = 0 → x = y
  | [], [], _, _ => rfl
  | [], _ :: _, h, _ => by simp at h
  | _ :: _, [], h, _ => by simp at h
  | a :: x, b :: y, h, h0 => by
    rw [cmpBs] at h0
    unfold orI at h0
    split at h0
    · rename_i h1
      rw [cmpB_eq h1, cmpBs_eq (by simpa using h) h0]
    · rename_i h1; exact absurd h0 h1
theorem cmpBs_sk : ∀ (x y : List ByteArray), Sk (cmpBs x y) (cmpBs y x)
  | [], [] => by simp [cmpBs, Sk]
  | [], _ :: _ => by simp [cmpBs, Sk]
  | _ :: _, [] => by simp [cmpBs, Sk]
  | a :: x, b :: y => by rw [cmpBs, cmpBs]; exact (cmpB_sk a b).orI (fun _ => cmpBs_sk x y)
theorem cmpBs_tr : ∀ (x y z : List ByteArray), x.length = y.length → y.length = z.length → Tr (cmpBs x y) (cmpBs y z) (cmpBs x z)
  | [], [], [], _, _ => by simp [cmpBs, Tr]
  | a :: x, b :: y, c :: z, h1, h2 => by
    rw [cmpBs, cmpBs, cmpBs]
    exact (cmpB_tr a b c).orI (fun _ _ => cmpBs_tr x y z (by simpa using h1) (by simpa using h2))
  | [], _ :: _, _, h, _ => by simp at h
  | _ :: _, [], _, h, _ => by simp at h
  | _, [], _ :: _, _, h => by simp at h
  | _, _ :: _, [], _, h => by simp at h
theorem cmpT_mk (k n : Int) (ns : List ByteArray) (l : List Ty) (k' n' : Int) (ns' : List ByteArray) (l' : List Ty) :
    cmpT (.mk k n ns l) (.mk k' n' ns' l') = orI (cmpI k k') (orI (cmpI n n') (orI (cmpI ns.length ns'.length) (orI (cmpBs ns ns') (orI (cmpI l.length l'.length) (cmpTs l l'))))) := by rw [cmpT]
theorem orI_zero {x y : Int} (h : orI x y = 0) : x = 0 ∧ y = 0 := by
  unfold orI at h
  split at h
  · rename_i hx; exact ⟨hx, h⟩
  · rename_i hx; exact absurd h hx
theorem cmpT_self (a : Ty) : cmpT a a = 0 := by
  refine Ty.ind (p := fun a => cmpT a a = 0) ?_ a
  intro k n ns l ih
  have hl : ∀ m : List Ty, (∀ t ∈ m, cmpT t t = 0) → cmpTs m m = 0 := by
    intro m
    induction m with
    | nil => intro _; rw [cmpTs]; simp
    | cons a r ih2 => intro h; rw [cmpTs, h a (by simp), orI, if_pos rfl, ih2 (fun t ht => h t (by simp [ht]))]
  rw [cmpT_mk, cmpI_self, cmpI_self, cmpI_self, cmpI_self, cmpBs_self, hl l ih]
  rfl
theorem cmpT_eq {a b : Ty} : cmpT a b = 0 → a = b := by
  refine Ty.ind (p := fun a => ∀ b, cmpT a b = 0 → a = b) ?_ a b
  intro k n ns l ih b h
  obtain ⟨k', n', ns', l'⟩ := b
  rw [cmpT_mk] at h
  obtain ⟨h1, h⟩ := orI_zero h
  obtain ⟨h2, h⟩ := orI_zero h
  obtain ⟨h3, h⟩ := orI_zero h
  obtain ⟨h4, h⟩ := orI_zero h
  obtain ⟨h5, h⟩ := orI_zero h
  have hl : ∀ m m' : List Ty, (∀ t ∈ m, ∀ b, cmpT t b = 0 → t = b) → m.length = m'.length → cmpTs m m' = 0 → m = m' := by
    intro m
    induction m with
    | nil => intro m' _ he _; cases m' with
      | nil => rfl
      | cons b s => simp at he
    | cons a r ih2 => intro m' hh he hc; cases m' with
      | nil => simp at he
      | cons b s =>
        rw [cmpTs] at hc
        obtain ⟨e1, e2⟩ := orI_zero hc
        rw [hh a (by simp) b e1, ih2 s (fun t ht => hh t (by simp [ht])) (by simpa using he) e2]
  rw [cmpI_eq h1, cmpI_eq h2, cmpBs_eq (len_eq h3) h4, hl l l' ih (len_eq h5) h]
theorem cmpT_sk (a b : Ty) : Sk (cmpT a b) (cmpT b a) := by
  refine Ty.ind (p := fun a => ∀ b, Sk (cmpT a b) (cmpT b a)) ?_ a b
  intro k n ns l ih b
  obtain ⟨k', n', ns', l'⟩ := b
  have hl : ∀ m m' : List Ty, (∀ t ∈ m, ∀ b, Sk (cmpT t b) (cmpT b t)) → Sk (cmpTs m m') (cmpTs m' m) := by
    intro m
    induction m with
    | nil => intro m' _; cases m' <;> (simp [cmpTs, Sk])
    | cons a r ih2 => intro m' hh; cases m' with
      | nil => rw [cmpTs, cmpTs] <;> simp [Sk]
      | cons b s => rw [cmpTs, cmpTs]; exact (hh a (by simp) b).orI (fun _ => ih2 s (fun t ht => hh t (by simp [ht])))
  rw [cmpT_mk, cmpT_mk]
  exact (cmpI_sk _ _).orI fun _ => (cmpI_sk _ _).orI fun _ => (cmpI_sk _ _).orI fun _ => (cmpBs_sk _ _).orI fun _ => (cmpI_sk _ _).orI fun _ => hl l l' ih
theorem cmpT_tr (a b c : Ty) : Tr (cmpT a b) (cmpT b c) (cmpT a c) := by
  refine Ty.ind (p := fun a => ∀ b c, Tr (cmpT a b) (cmpT b c) (cmpT a c)) ?_ a b c
  intro k n ns l ih b c
  obtain ⟨k', n', ns', l'⟩ := b
  obtain ⟨k2, n2, ns2, l2⟩ := c
  have hl : ∀ m m' m2 : List Ty, (∀ t ∈ m, ∀ b c, Tr (cmpT t b) (cmpT b c) (cmpT t c)) → m.length = m'.length → m'.length = m2.length → Tr (cmpTs m m') (cmpTs m' m2) (cmpTs m m2) := by
    intro m
    induction m with
    | nil => intro m' m2 _ h1 h2; cases m' with
      | nil => cases m2 with
        | nil => rw [cmpTs] <;> simp [Tr]
        | cons _ _ => simp at h2
      | cons _ _ => simp at h1
    | cons a r ih2 => intro m' m2 hh h1 h2; cases m' with
      | nil => simp at h1
      | cons b s => cases m2 with
        | nil => simp at h2
        | cons c u => rw [cmpTs, cmpTs, cmpTs]; exact (hh a (by simp) b c).orI (fun _ _ => ih2 s u (fun t ht => hh t (by simp [ht])) (by simpa using h1) (by simpa using h2))
  rw [cmpT_mk, cmpT_mk, cmpT_mk]
  exact (cmpI_tr _ _ _).orI fun _ _ => (cmpI_tr _ _ _).orI fun _ _ => (cmpI_tr _ _ _).orI fun h3 h3' => (cmpBs_tr _ _ _ (len_eq h3) (len_eq h3')).orI fun _ _ => (cmpI_tr _ _ _).orI fun h5 h5' => hl l l' l2 ih (len_eq h5) (len_eq h5')
end Go.Proofs.YtjcajpkgamolkaaDoor.Ty
namespace Go.Proofs.YtjcajpkgamolkaaDoor.Ty
open Go.RowKit Go.Proofs.YtjcajpkgamolkaaDoor.PTyp
set_option linter.unusedVariables false
set_option linter.unusedSimpArgs false
mutual
def sizeT : Ty → Nat
  | .mk _ _ _ l => 1 + sizeTs l
def sizeTs : List Ty → Nat
  | [] => 0
  | t :: r => sizeT t + sizeTs r
end
theorem sizeT_mk (k n : Int) (ns : List ByteArray) (l : List Ty) : sizeT (.mk k n ns l) = 1 + sizeTs l := by rw [sizeT]
theorem sizeTs_nil : sizeTs [] = 0 := by rw [sizeTs]
theorem sizeTs_cons (t : Ty) (r : List Ty) : sizeTs (t :: r) = sizeT t + sizeTs r := by rw [sizeTs]
def risesB : List ByteArray → Bool
  | a :: b :: r => Op.bytesLess a.toList b.toList && risesB (b :: r)
  | _ => true
def partsOk : List Ty → Bool
  | a :: b :: r => !(a.k == 10 || a.k == 1) && decide (cmpT a b < 0) && partsOk (b :: r)
  | [a] => !(a.k == 10 || a.k == 1)
  | [] => true
def shapeT (t : Ty) : Bool :=
  if 1 ≤ t.k ∧ t.k ≤ 6 then t.ns.length == 0 && t.l.length == 0 && t.n == 0
  else if t.k = 7 then t.ns.length == 0 && t.l.length == 1 && t.n == 0
  else if t.k = 8 then risesB t.ns && t.l.length == t.ns.length && t.n == 0
  else if t.k = 9 then t.ns.length == 0 && decide (1 ≤ t.l.length) && t.n == 0
  else if t.k = 10 then partsOk t.l && t.ns.length == 0 && decide (2 ≤ t.l.length) && t.n == 0
  else if 11 ≤ t.k ∧ t.k ≤ 13 then t.ns.length == 0 && t.l.length == 0 && decide (0 ≤ t.n)
  else false
mutual
def mayT : Ty → Bool
  | .mk k n ns l => shapeT (.mk k n ns l) && mayTs l
def mayTs : List Ty → Bool
  | [] => true
  | t :: r => mayT t && mayTs r
end
theorem mayT_mk (k n : Int) (ns : List ByteArray) (l : List Ty) : mayT (.mk k n ns l) = (shapeT (.mk k n ns l) && mayTs l) := by rw [mayT]
theorem mayTs_nil : mayTs [] = true := by rw [mayTs]
theorem mayTs_cons (t : Ty) (r : List Ty) : mayTs (t :: r) = (mayT t && mayTs r) := by rw [mayTs]
theorem mayTs_iff : ∀ l : List Ty, mayTs l = true ↔ ∀ t ∈ l, mayT t = true
  | [] => by simp [mayTs_nil]
  | t :: r => by rw [mayTs_cons, Bool.and_eq_true, mayTs_iff r]; simp
def checkT (t : Ty) : Int := if mayT t = false then 1 else if 300 < sizeT t then 3 else 0
end Go.Proofs.YtjcajpkgamolkaaDoor.Ty
namespace Go.Proofs.YtjcajpkgamolkaaDoor.Ty
open Go.RowKit Go.Proofs.YtjcajpkgamolkaaDoor.PTyp
set_option linter.unusedVariables false
set_option linter.unusedSimpArgs false
theorem cmpT_lt_trans {a b c : Ty} (h : cmpT a b < 0) (h' : cmpT b c < 0) : cmpT a c < 0 := (cmpT_tr a b c).2.1 h (by omega)
theorem cmpT_lt_asymm {a b : Ty} (h : cmpT a b < 0) : ¬ cmpT b a < 0 := by have := (cmpT_sk a b).1; omega
def Rises (l : List Ty) : Prop := l.Pairwise (fun a b => cmpT a b < 0)
theorem Rises.uniq : ∀ {u v : List Ty}, Rises u → Rises v → (∀ t, t ∈ u ↔ t ∈ v) → u = v
  | [], [], _, _, _ => rfl
  | [], b :: v, _, _, h => absurd ((h b).2 (by simp)) (by simp)
  | a :: u, [], _, _, h => absurd ((h a).1 (by simp)) (by simp)
  | a :: u, b :: v, hu, hv, h => by
    obtain ⟨hu1, hu2⟩ := List.pairwise_cons.1 hu
    obtain ⟨hv1, hv2⟩ := List.pairwise_cons.1 hv
    have e : a = b := by
      rcases List.mem_cons.1 ((h a).1 (by simp)) with h1 | h1
      · exact h1
      · rcases List.mem_cons.1 ((h b).2 (by simp)) with h2 | h2
        · exact h2.symm
        · exact absurd (hv1 a h1) (cmpT_lt_asymm (hu1 b h2))
    subst e
    congr 1
    refine Rises.uniq hu2 hv2 fun t => ⟨fun ht => ?_, fun ht => ?_⟩
    · rcases List.mem_cons.1 ((h t).1 (by simp [ht])) with h1 | h1
      · exact absurd (hu1 t ht) (by rw [h1, cmpT_self]; omega)
      · exact h1
    · rcases List.mem_cons.1 ((h t).2 (by simp [ht])) with h1 | h1
      · exact absurd (hv1 t ht) (by rw [h1, cmpT_self]; omega)
      · exact h1
def insT : List Ty → Ty → List Ty
  | [], t => [t]
  | a :: r, t => if cmpT a t < 0 then a :: insT r t else if cmpT a t = 0 then a :: r else t :: a :: r
theorem insT_mem : ∀ (l : List Ty) (t x : Ty), x ∈ insT l t ↔ x = t ∨ x ∈ l
  | [], t, x => by simp [insT]
  | a :: r, t, x => by
    rw [insT]
    split
    · simp only [List.mem_cons, insT_mem r t x]
      constructor
      · rintro (h | h | h) <;> simp [h]
      · rintro (h | h | h) <;> simp [h]
    · split
      · rename_i h1 h2
        have e := cmpT_eq h2
        subst e
        simp
      · simp
theorem insT_rises : ∀ {l : List Ty} (t : Ty), Rises l → Rises (insT l t)
  | [], t, _ => by simp [insT, Rises]
  | a :: r, t, h => by
    obtain ⟨h1, h2⟩ := List.pairwise_cons.1 h
    rw [insT]
    split
    · rename_i hlt
      refine List.pairwise_cons.2 ⟨fun x hx => ?_, insT_rises t h2⟩
      rcases (insT_mem r t x).1 hx with rfl | hx
      · exact hlt
      · exact h1 x hx
    · split
      · exact h
      · rename_i n1 n2
        have ht : cmpT t a < 0 := by have := (cmpT_sk a t).1; omega
        refine List.pairwise_cons.2 ⟨fun x hx => ?_, h⟩
        rcases List.mem_cons.1 hx with rfl | hx
        · exact ht
        · exact cmpT_lt_trans ht (h1 x hx)
def insAll (l : List Ty) (m : List Ty) : List Ty := m.foldl insT l
theorem insAll_mem : ∀ (m l : List Ty) (x : Ty), x ∈ insAll l m ↔ x ∈ m ∨ x ∈ l
  | [], l, x => by simp [insAll]
  | t :: m, l, x => by
    show x ∈ insAll (insT l t) m ↔ _
    rw [insAll_mem m, insT_mem, List.mem_cons]
    constructor
    · rintro (h | h | h) <;> simp [h]
    · rintro ((h | h) | h) <;> simp [h]
theorem insAll_rises : ∀ (m : List Ty) {l : List Ty}, Rises l → Rises (insAll l m)
  | [], l, h => h
  | t :: m, l, h => insAll_rises m (insT_rises t h)
def normT (m : List Ty) : List Ty := insAll [] m
theorem normT_mem {m : List Ty} {x : Ty} : x ∈ normT m ↔ x ∈ m := by unfold normT; rw [insAll_mem]; simp
theorem normT_rises (m : List Ty) : Rises (normT m) := insAll_rises m List.Pairwise.nil
theorem normT_eq {m u : List Ty} (h : Rises u) (hm : ∀ t, t ∈ u ↔ t ∈ m) : u = normT m := h.uniq (normT_rises m) fun t => by rw [normT_mem]; exact hm t
def onceT : List Ty → List Ty
  | a :: b :: r => if cmpT a b = 0 then onceT (b :: r) else a :: onceT (b :: r)
  | l => l
theorem onceT_mem : ∀ (l : List Ty) (x : Ty), x ∈ onceT l ↔ x ∈ l
  | [], x => by simp [onceT]
  | [a], x => by simp [onceT]
  | a :: b :: r, x => by
    rw [onceT]
    split
    · rename_i h
      have e := cmpT_eq h
      subst e
      rw [onceT_mem (a :: r) x]
      simp
    · rw [List.mem_cons, onceT_mem (b :: r) x, List.mem_cons (a := x) (b := a)]
theorem onceT_rises : ∀ {l : List Ty}, l.Pairwise (fun a b => ¬ cmpT b a < 0) → Rises (onceT l)
  | [], _ => by simp [onceT, Rises]
  | [a], _ => by simp [onceT, Rises]
  | a :: b :: r, h => by
    obtain ⟨h1, h2⟩ := List.pairwise_cons.1 h
    rw [onceT]
    split
    · exact onceT_rises h2
    · rename_i hne
      refine List.pairwise_cons.2 ⟨fun x hx => ?_, onceT_rises h2⟩
      have hx' := (onceT_mem (b :: r) x).1 hx
      have hab : cmpT a b < 0 := by have := h1 b (by simp); have := (cmpT_sk a b).1; omega
      rcases List.mem_cons.1 hx' with rfl | hx'
      · exact hab
      · have hbx : ¬ cmpT x b < 0 := (List.pairwise_cons.1 h2).1 x hx'
        have := (cmpT_sk b x).1
        exact (cmpT_tr a b x).2.1 hab (by omega)
def partsOf (t : Ty) : List Ty := if t.k = 10 then t.l else [t]
def anyT : Ty := .mk 1 0 [] []
def zeroT : Ty := .mk 0 0 [] []
def joinT (u : List Ty) : Ty := if u.length = 1 then u.headD zeroT else .mk 10 0 [] u
def unionT (l : List Ty) : Ty × Int :=
  if l.length = 0 then (zeroT, 1)
  else if mayTs l = false then (zeroT, 1)
  else if l.any (fun t => t.k == 1) then (anyT, 0)
  else if l.any (fun t => decide (300 < sizeT t)) || decide (300 < sizeT (joinT (normT (l.flatMap partsOf)))) then (zeroT, 3)
  else (joinT (normT (l.flatMap partsOf)), 0)
end Go.Proofs.YtjcajpkgamolkaaDoor.Ty
namespace Go.Proofs.YtjcajpkgamolkaaDoor.Ty
open Go.RowKit Go.Proofs.YtjcajpkgamolkaaDoor.PTyp
set_option linter.unusedVariables false
set_option linter.unusedSimpArgs false
end Go.Proofs.YtjcajpkgamolkaaDoor.Ty
namespace Go.Proofs.YtjcajpkgamolkaaDoor.Ty
open Go.RowKit Go.Proofs.YtjcajpkgamolkaaDoor.PTyp
set_option linter.unusedVariables false
set_option linter.unusedSimpArgs false
abbrev Sl := ByteArray × Ty
def insS : List Sl → Sl → List Sl
  | [], t => [t]
  | a :: r, t => if cmpB a.1 t.1 < 0 then a :: insS r t else t :: a :: r
theorem insS_mem : ∀ (l : List Sl) (t x : Sl), x ∈ insS l t ↔ x = t ∨ x ∈ l
  | [], t, x => by simp [insS]
  | a :: r, t, x => by
    rw [insS]
    split
    · simp only [List.mem_cons, insS_mem r t x]
      constructor
      · rintro (h | h | h) <;> simp [h]
      · rintro (h | h | h) <;> simp [h]
    · simp
def RisesS (l : List Sl) : Prop := l.Pairwise (fun a b => cmpB a.1 b.1 < 0)
theorem cmpB_lt_trans {a b c : ByteArray} (h : cmpB a b < 0) (h' : cmpB b c < 0) : cmpB a c < 0 := (cmpB_tr a b c).2.1 h (by omega)
theorem insS_rises : ∀ {l : List Sl} (t : Sl), RisesS l → (∀ x ∈ l, x.1 ≠ t.1) → RisesS (insS l t)
  | [], t, _, _ => by simp [insS, RisesS]
  | a :: r, t, h, hn => by
    obtain ⟨h1, h2⟩ := List.pairwise_cons.1 h
    rw [insS]
    split
    · rename_i hlt
      refine List.pairwise_cons.2 ⟨fun x hx => ?_, insS_rises t h2 (fun x hx => hn x (by simp [hx]))⟩
      rcases (insS_mem r t x).1 hx with rfl | hx
      · exact hlt
      · exact h1 x hx
    · rename_i n1
      have ht : cmpB t.1 a.1 < 0 := by
        have := (cmpB_sk a.1 t.1).1
        by_cases e : cmpB a.1 t.1 = 0
        · exact absurd (cmpB_eq e) (hn a (by simp))
        · omega
      refine List.pairwise_cons.2 ⟨fun x hx => ?_, h⟩
      rcases List.mem_cons.1 hx with rfl | hx
      · exact ht
      · exact cmpB_lt_trans ht (h1 x hx)
theorem RisesS.uniq : ∀ {u v : List Sl}, RisesS u → RisesS v → (∀ t, t ∈ u ↔ t ∈ v) → u = v
  | [], [], _, _, _ => rfl
  | [], b :: v, _, _, h => absurd ((h b).2 (by simp)) (by simp)
  | a :: u, [], _, _, h => absurd ((h a).1 (by simp)) (by simp)
  | a :: u, b :: v, hu, hv, h => by
    obtain ⟨hu1, hu2⟩ := List.pairwise_cons.1 hu
    obtain ⟨hv1, hv2⟩ := List.pairwise_cons.1 hv
    have asy : ∀ {x y : ByteArray}, cmpB x y < 0 → ¬ cmpB y x < 0 := fun {x y} h => by have := (cmpB_sk x y).1; omega
    have e : a = b := by
      rcases List.mem_cons.1 ((h a).1 (by simp)) with h1 | h1
      · exact h1
      · rcases List.mem_cons.1 ((h b).2 (by simp)) with h2 | h2
        · exact h2.symm
        · exact absurd (hv1 a h1) (asy (hu1 b h2))
    subst e
    congr 1
    refine RisesS.uniq hu2 hv2 fun t => ⟨fun ht => ?_, fun ht => ?_⟩
    · rcases List.mem_cons.1 ((h t).1 (by simp [ht])) with h1 | h1
      · exact absurd (hu1 t ht) (by rw [h1, cmpB_self]; omega)
      · exact h1
    · rcases List.mem_cons.1 ((h t).2 (by simp [ht])) with h1 | h1
      · exact absurd (hv1 t ht) (by rw [h1, cmpB_self]; omega)
      · exact h1
def normS (m : List Sl) : List Sl := m.foldl insS []
def twice : List Sl → Bool
  | [] => false
  | a :: r => r.any (fun b => b.1.toList == a.1.toList) || twice r
def recordT (l : List Sl) : Ty × Int :=
  if (!mayTs (l.map (·.2))) || twice l then (zeroT, 1)
  else if 300 < 1 + sizeTs (l.map (·.2)) then (zeroT, 3)
  else (.mk 8 0 ((normS l).map (·.1)) ((normS l).map (·.2)), 0)
end Go.Proofs.YtjcajpkgamolkaaDoor.Ty
