/- HS, as this claim needs it. -/
import Derived.Sort.LotA
import Derived.Shelf.GgSortMore.Stable
import Derived.Shelf.SlSortFuncK.RowK2
import Derived.Shelf.GgSortFunc.SmallK
namespace Go.SymP
set_option linter.unusedVariables false
open Go.Sort
variable {α : Type} [Inhabited α]
variable {lt : α → α → Bool}
theorem get_swp (d : Array α) {i j : Nat} (hi : i < d.size) (hj : j < d.size) (k : Nat) : (swp d i j)[k]! = if k = j then d[i]! else if k = i then d[j]! else d[k]! := swp_get d hi hj k
structure ShiftL (d dk : Array α) (a k : Nat) : Prop where
  at_ : dk[k]! = d[a]!
  mid : ∀ x, a ≤ x → x < k → dk[x]! = d[x + 1]!
  out : ∀ x, x < a ∨ k < x → dk[x]! = d[x]!
theorem ShiftL.start (d : Array α) (a : Nat) : ShiftL d d a a := ⟨rfl, fun x h h' => by omega, fun x _ => rfl⟩
theorem ShiftL.step {d dk : Array α} {a k : Nat} (h : ShiftL d dk a k) (hak : a ≤ k) (hk : k + 1 < dk.size) : ShiftL d (swp dk k (k + 1)) a (k + 1) := by
  have g := get_swp dk (show k < dk.size by omega) hk
  refine ⟨?_, fun x h1 h2 => ?_, fun x h1 => ?_⟩
  · rw [g, if_pos rfl]; exact h.at_
  · rw [g, if_neg (by omega)]
    by_cases e : x = k
    · subst e; rw [if_pos rfl]; exact h.out (x + 1) (by omega)
    · rw [if_neg e]; exact h.mid x h1 (by omega)
  · rw [g, if_neg (by omega), if_neg (by omega)]; exact h.out x (by omega)
structure ShiftR (d dk : Array α) (m k : Nat) : Prop where
  at_ : dk[k]! = d[m]!
  mid : ∀ x, k < x → x ≤ m → dk[x]! = d[x - 1]!
  out : ∀ x, x < k ∨ m < x → dk[x]! = d[x]!
theorem ShiftR.start (d : Array α) (m : Nat) : ShiftR d d m m := ⟨rfl, fun x h h' => by omega, fun x _ => rfl⟩
theorem ShiftR.step {d dk : Array α} {m k : Nat} (h : ShiftR d dk m (k + 1)) (hkm : k + 1 ≤ m) (hm : m < dk.size) : ShiftR d (swp dk (k + 1) k) m k := by
  have g := get_swp dk (show k + 1 < dk.size by omega) (show k < dk.size by omega)
  refine ⟨?_, fun x h1 h2 => ?_, fun x h1 => ?_⟩
  · rw [g, if_pos rfl]; exact h.at_
  · rw [g, if_neg (by omega)]
    by_cases e : x = k + 1
    · subst e; rw [if_pos rfl]; exact h.out k (by omega)
    · rw [if_neg e]; exact h.mid x (by omega) h2
  · rw [g, if_neg (by omega), if_neg (by omega)]; exact h.out x (by omega)
structure SwR (d dk : Array α) (a b i : Nat) : Prop where
  l : ∀ x, x < i → dk[a + x]! = d[b + x]!
  r : ∀ x, x < i → dk[b + x]! = d[a + x]!
  out : ∀ x, (x < a ∨ a + i ≤ x) → (x < b ∨ b + i ≤ x) → dk[x]! = d[x]!
theorem SwR.start (d : Array α) (a b : Nat) : SwR d d a b 0 := ⟨fun x h => by omega, fun x h => by omega, fun x _ _ => rfl⟩
theorem SwR.step {d dk : Array α} {a b i n : Nat} (h : SwR d dk a b i) (hin : i < n) (hab : a + n ≤ b) (hb : b + n ≤ dk.size) : SwR d (swp dk (a + i) (b + i)) a b (i + 1) := by
  have g := get_swp dk (show a + i < dk.size by omega) (show b + i < dk.size by omega)
  refine ⟨fun x hx => ?_, fun x hx => ?_, fun x h1 h2 => ?_⟩
  · rw [g, if_neg (by omega)]
    by_cases e : x = i
    · subst e; rw [if_pos rfl]; exact h.out _ (by omega) (by omega)
    · rw [if_neg (by omega)]; exact h.l x (by omega)
  · rw [g]
    by_cases e : x = i
    · subst e; rw [if_pos rfl]; exact h.out _ (by omega) (by omega)
    · rw [if_neg (by omega), if_neg (by omega)]; exact h.r x (by omega)
  · rw [g, if_neg (by omega), if_neg (by omega)]; exact h.out x (by omega) (by omega)
def rotT (d : Array α) (a m b x : Nat) : α := if x < a ∨ b ≤ x then d[x]! else if x < a + (b - m) then d[m + (x - a)]! else d[a + (x - (a + (b - m)))]!
structure RotI (d dk : Array α) (a m b i j : Nat) : Prop where
  out : ∀ x, x < m - i ∨ m + j ≤ x → dk[x]! = rotT d a m b x
  l : ∀ x, m - i ≤ x → x < m - i + j → rotT d a m b x = dk[x + i]!
  r : ∀ x, m - i + j ≤ x → x < m + j → rotT d a m b x = dk[x - j]!
theorem RotI.start (d : Array α) {a m b : Nat} (h1 : a ≤ m) (h2 : m ≤ b) : RotI d d a m b (m - a) (b - m) := by
  refine ⟨fun x hx => ?_, fun x h h' => ?_, fun x h h' => ?_⟩
  · unfold rotT; rw [if_pos (by omega)]
  · unfold rotT; rw [if_neg (by omega), if_pos (by omega)]; congr 1; omega
  · unfold rotT; rw [if_neg (by omega), if_neg (by omega)]; congr 1; omega
theorem RotI.left {d dk dl : Array α} {a m b i j : Nat} (h : RotI d dk a m b i j) (hi : i ≤ m) (hij : j < i) (s : SwR dk dl (m - i) m j) : RotI d dl a m b (i - j) j := by
  refine ⟨fun x hx => ?_, fun x h1 h2 => ?_, fun x h1 h2 => ?_⟩
  · by_cases e : x < m - i ∨ m + j ≤ x
    · rw [s.out x (by omega) (by omega)]; exact h.out x e
    · have := s.l (x - (m - i)) (by omega)
      rw [show m - i + (x - (m - i)) = x by omega] at this
      rw [this, h.l x (by omega) (by omega)]; congr 1; omega
  · have := s.r (x + (i - j) - m) (by omega)
    rw [show m + (x + (i - j) - m) = x + (i - j) by omega] at this
    rw [this, h.r x (by omega) (by omega)]; congr 1; omega
  · rw [s.out (x - j) (by omega) (by omega)]; exact h.r x (by omega) (by omega)
theorem RotI.right {d dk dl : Array α} {a m b i j : Nat} (h : RotI d dk a m b i j) (hi : i ≤ m) (hij : i < j) (s : SwR dk dl (m - i) (m + j - i) i) : RotI d dl a m b i (j - i) := by
  refine ⟨fun x hx => ?_, fun x h1 h2 => ?_, fun x h1 h2 => ?_⟩
  · by_cases e : x < m - i ∨ m + j ≤ x
    · rw [s.out x (by omega) (by omega)]; exact h.out x e
    · have := s.r (x - (m + j - i)) (by omega)
      rw [show m + j - i + (x - (m + j - i)) = x by omega] at this
      rw [this, h.r x (by omega) (by omega)]; congr 1; omega
  · rw [s.out (x + i) (by omega) (by omega)]; exact h.l x (by omega) (by omega)
  · have := s.l (x - (j - i) - (m - i)) (by omega)
    rw [show m - i + (x - (j - i) - (m - i)) = x - (j - i) by omega] at this
    rw [this, h.l x (by omega) (by omega)]; congr 1; omega
theorem RotI.done {d dk dl : Array α} {a m b i : Nat} (h : RotI d dk a m b i i) (hi : i ≤ m) (s : SwR dk dl (m - i) m i) (x : Nat) : dl[x]! = rotT d a m b x := by
  by_cases e : x < m - i ∨ m + i ≤ x
  · rw [s.out x (by omega) (by omega)]; exact h.out x e
  · by_cases e2 : x < m
    · have := s.l (x - (m - i)) (by omega)
      rw [show m - i + (x - (m - i)) = x by omega] at this
      rw [this, h.l x (by omega) (by omega)]; congr 1; omega
    · have := s.r (x - m) (by omega)
      rw [show m + (x - m) = x by omega] at this
      rw [this, h.r x (by omega) (by omega)]; congr 1; omega
theorem sortedIn_join {a m b : Nat} {d : Array α} (h1 : SortedIn lt a m d) (h2 : SortedIn lt m b d) (h : ∀ i j, a ≤ i → i < m → m ≤ j → j < b → lt d[j]! d[i]! = false) : SortedIn lt a b d := by
  intro i j hi hij hj
  by_cases e : j < m
  · exact h1 i j hi hij e
  · by_cases e2 : m ≤ i
    · exact h2 i j e2 hij hj
    · exact h i j hi (by omega) (by omega) hj
theorem le_of_sorted (hS : SWO lt) {a b i j : Nat} {d : Array α} (h : SortedIn lt a b d) (hi : a ≤ i) (hij : i ≤ j) (hj : j < b) : lt d[j]! d[i]! = false := by
  by_cases e : i = j
  · subst e; exact hS.irrefl _
  · exact h i j hi (by omega) hj
theorem ins_left (hS : SWO lt) {a b i : Nat} {d dk : Array α} (hR : SortedIn lt (a + 1) b d) (hi : a + 1 ≤ i) (hib : i ≤ b) (h1 : i = a + 1 ∨ lt d[i - 1]! d[a]! = true) (h2 : i = b ∨ lt d[i]! d[a]! = false) (s : ShiftL d dk a (i - 1)) : SortedIn lt a b dk := by
  have lo : ∀ x, a + 1 ≤ x → x < i → lt d[a]! d[x]! = false := fun x hx hxi => by
    rcases h1 with h1 | h1
    · omega
    · exact hS.ntrans _ _ _ (hS.asymmA h1) (le_of_sorted hS hR hx (by omega) (by omega))
  have hi_ : ∀ x, i ≤ x → x < b → lt d[x]! d[a]! = false := fun x hx hxb => by
    rcases h2 with h2 | h2
    · omega
    · exact hS.ntrans _ _ _ (le_of_sorted hS hR hi hx hxb) h2
  intro p q hp hpq hq
  by_cases eq : q = i - 1
  · subst eq
    rw [s.at_, s.mid p hp hpq]; exact lo _ (by omega) (by omega)
  · by_cases ep : p = i - 1
    · subst ep
      rw [s.at_, s.out q (by omega)]; exact hi_ q (by omega) hq
    · by_cases c1 : q < i - 1
      · rw [s.mid q (by omega) c1, s.mid p hp (by omega)]; exact hR _ _ (by omega) (by omega) (by omega)
      · rw [s.out q (by omega)]
        by_cases c2 : p < i - 1
        · rw [s.mid p hp c2]; exact le_of_sorted hS hR (by omega) (by omega) hq
        · rw [s.out p (by omega)]; exact hR _ _ (by omega) hpq hq
theorem ins_right (hS : SWO lt) {a m i : Nat} {d dk : Array α} (hL : SortedIn lt a m d) (hi : a ≤ i) (him : i ≤ m) (h1 : i = a ∨ lt d[m]! d[i - 1]! = false) (h2 : i = m ∨ lt d[m]! d[i]! = true) (s : ShiftR d dk m i) : SortedIn lt a (m + 1) dk := by
  have lo : ∀ x, a ≤ x → x < i → lt d[m]! d[x]! = false := fun x hx hxi => by
    rcases h1 with h1 | h1
    · omega
    · exact hS.ntrans _ _ _ h1 (le_of_sorted hS hL hx (by omega) (by omega))
  have hi_ : ∀ x, i ≤ x → x < m → lt d[x]! d[m]! = false := fun x hx hxb => by
    rcases h2 with h2 | h2
    · omega
    · exact hS.ntrans _ _ _ (le_of_sorted hS hL hi hx hxb) (hS.asymmA h2)
  intro p q hp hpq hq
  by_cases eq : q = i
  · subst eq
    rw [s.at_, s.out p (by omega)]; exact lo _ hp (by omega)
  · by_cases ep : p = i
    · subst ep
      rw [s.at_, s.mid q (by omega) (by omega)]; exact hi_ _ (by omega) (by omega)
    · by_cases c1 : q < i
      · rw [s.out q (by omega), s.out p (by omega)]; exact hL _ _ hp hpq (by omega)
      · rw [s.mid q (by omega) (by omega)]
        by_cases c2 : p < i
        · rw [s.out p (by omega)]; exact le_of_sorted hS hL hp (by omega) (by omega)
        · rw [s.mid p (by omega) (by omega)]; exact hL _ _ (by omega) (by omega) (by omega)
structure Halves (lt : α → α → Bool) (d : Array α) (a start mid e b : Nat) : Prop where
  s1 : SortedIn lt a start d
  s2 : SortedIn lt start mid d
  s3 : SortedIn lt mid e d
  s4 : SortedIn lt e b d
  cross : ∀ i j, a ≤ i → i < mid → mid ≤ j → j < b → lt d[j]! d[i]! = false
theorem halves (hS : SWO lt) {a m b start mid e : Nat} {d dk : Array α} (hL : SortedIn lt a m d) (hR : SortedIn lt m b d) (ha : a ≤ start) (hsm : start ≤ m) (hme : m ≤ e) (heb : e ≤ b) (hn : start + e = mid + m)
    (h1 : start = a ∨ e = b ∨ lt d[e]! d[start - 1]! = false) (h2 : start = m ∨ e = m ∨ lt d[e - 1]! d[start]! = true) (hT : ∀ x, dk[x]! = rotT d start m e x) : Halves lt dk a start mid e b := by
  have g1 : ∀ x, a ≤ x → x < start → dk[x]! = d[x]! := fun x _ h => by rw [hT]; unfold rotT; rw [if_pos (by omega)]
  have g2 : ∀ x, start ≤ x → x < mid → dk[x]! = d[m + (x - start)]! := fun x h h' => by rw [hT]; unfold rotT; rw [if_neg (by omega), if_pos (by omega)]
  have g3 : ∀ x, mid ≤ x → x < e → dk[x]! = d[start + (x - mid)]! := fun x h h' => by rw [hT]; unfold rotT; rw [if_neg (by omega), if_neg (by omega)]; congr 1; omega
  have g4 : ∀ x, e ≤ x → x < b → dk[x]! = d[x]! := fun x h _ => by rw [hT]; unfold rotT; rw [if_pos (by omega)]
  refine ⟨fun i j hi hij hj => ?_, fun i j hi hij hj => ?_, fun i j hi hij hj => ?_, fun i j hi hij hj => ?_, fun i j hi him hj hjb => ?_⟩
  · rw [g1 i (by omega) (by omega), g1 j (by omega) hj]; exact hL i j hi hij (by omega)
  · rw [g2 i hi (by omega), g2 j (by omega) hj]; exact hR _ _ (by omega) (by omega) (by omega)
  · rw [g3 i hi (by omega), g3 j (by omega) hj]; exact hL _ _ (by omega) (by omega) (by omega)
  · rw [g4 i hi (by omega), g4 j (by omega) hj]; exact hR _ _ (by omega) hij hj
  · by_cases ci : i < start
    · rw [g1 i hi ci]
      by_cases cj : j < e
      · rw [g3 j hj cj]; exact hL _ _ hi (by omega) (by omega)
      · rw [g4 j (by omega) hjb]
        rcases h1 with h1 | h1 | h1
        · omega
        · omega
        · exact hS.ntrans _ _ _ (le_of_sorted hS hR hme (by omega) hjb) (hS.ntrans _ _ _ h1 (le_of_sorted hS hL hi (by omega) (by omega)))
    · rw [g2 i (by omega) him]
      by_cases cj : j < e
      · rw [g3 j hj cj]
        rcases h2 with h2 | h2 | h2
        · omega
        · omega
        · exact hS.ntrans _ _ _ (le_of_sorted hS hL (by omega) (by omega) (by omega)) (hS.ntrans _ _ _ (hS.asymmA h2) (le_of_sorted hS hR (by omega) (by omega) (by omega)))
      · rw [g4 j (by omega) hjb]; exact hR _ _ (by omega) (by omega) hjb
theorem rotT_none {d : Array α} {start m e : Nat} (h : start = m ∨ m = e) (hsm : start ≤ m) (hme : m ≤ e) (x : Nat) : d[x]! = rotT d start m e x := by
  unfold rotT
  split
  · rfl
  · split
    · congr 1; omega
    · congr 1; omega
theorem halves_done {d d1 d2 : Array α} {a start mid e b : Nat} (h : Halves lt d a start mid e b) (ham : a ≤ mid) (hmb : mid ≤ b) (hb : b ≤ d.size) (p1 : PermIn a mid d d1) (s1 : SortedIn lt a mid d1) (p2 : PermIn mid b d1 d2) (s2 : SortedIn lt mid b d2) : SortedIn lt a b d2 := by
  have e1 : ∀ i, a ≤ i → i < mid → d2[i]! = d1[i]! := fun i _ h' => p2.2.1 i (by omega)
  have e2 : ∀ j, mid ≤ j → j < b → d1[j]! = d[j]! := fun j h' _ => p1.2.1 j (by omega)
  refine sortedIn_join (m := mid) ?_ s2 ?_
  · intro i j hi hij hj
    rw [e1 i hi (by omega), e1 j (by omega) hj]; exact s1 i j hi hij hj
  · intro i j hi him hj hjb
    rw [e1 i hi him]
    have q1 : ∀ j, mid ≤ j → j < b → ∀ i, a ≤ i → i < mid → lt d[j]! d1[i]! = false := fun j h1 h2 => permIn_all d d1 a mid (fun y => lt d[j]! y = false) (by omega) p1 (fun i h3 h4 => h.cross i j h3 h4 h1 h2)
    have q2 := permIn_all d1 d2 mid b (fun y => lt y d1[i]! = false) (by rw [p1.1]; exact hb) p2 (fun j h1 h2 => by rw [e2 j h1 h2]; exact q1 j h1 h2 i hi him)
    exact q2 j hj hjb
def Blocks (lt : α → α → Bool) (bs n : Nat) (d : Array α) : Prop := ∀ q, SortedIn lt (q * bs) (min ((q + 1) * bs) n) d
end Go.SymP
namespace Go.Srt
open Go.Shelf Go.RowKit Go.Lib Go.Sort Go.Proofs
set_option linter.unusedVariables false
set_option linter.unusedSimpArgs false
variable {P : Program} {ρ : Ren} {α : Type} [Inhabited α]
structure Turn (b : Nat) (W W' : World) : Prop where
  os : W'.os = W.os
  tape : W'.tape = W.tape
  output : W'.output = W.output
  size : W.heap.size ≤ W'.heap.size
  block : ∀ k, k < W.heap.size → k ≠ b → W'.heap[k]? = W.heap[k]?
theorem Turn.refl (b : Nat) (W : World) : Turn b W W := ⟨rfl, rfl, rfl, Nat.le_refl _, fun _ _ _ => rfl⟩
theorem Turn.trans {b : Nat} {W X Y : World} (h : Turn b W X) (k : Turn b X Y) : Turn b W Y :=
  ⟨k.os.trans h.os, k.tape.trans h.tape, k.output.trans h.output, Nat.le_trans h.size k.size, fun i hi ho => (k.block i (Nat.lt_of_lt_of_le hi h.size) ho).trans (h.block i hi ho)⟩
theorem Turn.of_below {b : Nat} {W X : World} (h : Below W.heap.size W X) : Turn b W X := ⟨h.os, h.tape, h.output, h.size, fun i hi _ => h.block i hi⟩
theorem Turn.alloc (b : Nat) (W : World) (o : Obj) : Turn b W (W.alloc o) := .of_below ((Below.refl _ _).alloc (Nat.le_refl _) _)
theorem Turn.cell {b : Nat} {W X : World} (h : Turn b W X) {k : Nat} (hk : k < W.heap.size) (hb : k ≠ b) {o : Nat} {v : Value} (hc : W.cell? ⟨k, o, none⟩ = some v) : X.cell? ⟨k, o, none⟩ = some v := by
  have e := h.block k hk hb
  unfold World.cell? at hc ⊢
  rw [e]; exact hc
structure Sorts (P : Program) (g sf : Nat) (lb sb : Array Value) (lt : α → α → Bool) (b n : Nat) (I : Array α → World → Prop) : Prop where
  size : ∀ d W, I d W → d.size = n
  lt_ : ∀ d W, I d W → b < W.heap.size
  below : ∀ d W W', I d W → Below W.heap.size W W' → I d W'
  eg : ∀ args w, (callFunc g args).run P w = .ok (.enter g args) w
  less : ∀ d W, I d W → ∀ i j : Nat, i < n → j < n → Calls P g (#[.int .i64 i, .int .i64 j] ++ lb) W fun e w' => e = .returned (.bool (lt d[i]! d[j]!)) ∧ Below W.heap.size W w'
  swap : ∀ d W, I d W → ∀ i j : Nat, i < n → j < n → ∃ W', (callFunc sf (#[.int .i64 i, .int .i64 j] ++ sb)).run P W = .ok (.value (.tuple #[])) W' ∧ I (swp d i j) W' ∧ Turn b W W'
set_option maxHeartbeats 2000000 in
set_option maxRecDepth 100000 in
theorem insertion (L : LaysGt.n29 P ρ) {g sf : Nat} {lb sb : Array Value} {lt : α → α → Bool} {blk n : Nat} {I : Array α → World → Prop} (S : Sorts P g sf lb sb lt blk n I) (d : Array α) (w : World) (hI : I d w) (a b : Nat) (hab : a ≤ b) (hb : b ≤ n) (hn : n < 4611686018427387904) :
    Calls P (ρ.f 29) #[.agg #[.func (.func g) #[] lb, .func (.func sf) #[] sb], .int .i64 a, .int .i64 b] w fun e w' =>
      e = .returned (.tuple #[]) ∧ I (Sort.insertionSort lt d a b) w' ∧ Turn blk w w' := by
  have mixed := L.mixed; have t0 := L.t0; have a0 := L.a0; have z0 := L.z0; have v0 := L.v0; have t3 := L.t3; have a3 := L.a3; have z3 := L.z3; have v3 := L.v3; have t4 := L.t4; have a4 := L.a4; have z4 := L.z4; have v4 := L.v4; have t26 := L.t26; have a26 := L.a26; have z26 := L.z26; have v26 := L.v26; have t38 := L.t38; have a38 := L.a38; have z38 := L.z38; have v38 := L.v38; have t42 := L.t42; have a42 := L.a42; have z42 := L.z42; have v42 := L.v42
  have u42 := run_underlying L.t42
  have eg := S.eg
  have hblk := S.lt_ _ _ hI
  have hI1 : I d (w.alloc (.cells #[.func (.func g) #[] lb, .func (.func sf) #[] sb] (ρ.t 42))) := S.below _ _ _ hI ((Below.refl _ _).alloc (Nat.le_refl _) _)
  go_enter L.f29, BodyGt.n29_ntmps ρ
  go_wp2
  go_loopw [6] (fun vi wr => ∃ (i : Nat) (dk : Array α), vi = .int .i64 i ∧ a < i ∧ i ≤ b + 1 ∧ I dk wr ∧ Turn blk (w.alloc (.cells #[.func (.func g) #[] lb, .func (.func sf) #[] sb] (ρ.t 42))) wr ∧
      insOuter lt a b i dk = insOuter lt a b (a + 1) d) (fun vi _ => b + 1 - (RowKit.intOf vi).toNat)
  case atStart => exact ⟨a + 1, d, by go_num, by omega, by omega, hI1, Turn.refl _ _, rfl⟩
  case round =>
    obtain ⟨i, dk, rfl, hai, hib, hIk, hT, hO⟩ := hrel
    have HO : Hid (insOuter lt a b i dk = insOuter lt a b (a + 1) d) := hO
    clear hO
    go_wp2
    · go_loopw [7] (fun vj wr2 => ∃ (j : Nat) (dj : Array α), vj = .int .i64 j ∧ a ≤ j ∧ j ≤ i ∧ I dj wr2 ∧ Turn blk (w.alloc (.cells #[.func (.func g) #[] lb, .func (.func sf) #[] sb] (ρ.t 42))) wr2 ∧
          insInner lt a j dj = insInner lt a i dk) (fun vj _ => (RowKit.intOf vj).toNat)
      case atStart => exact ⟨i, dk, rfl, by omega, Nat.le_refl _, hIk, hT, rfl⟩
      case round =>
        obtain ⟨j, dj, rfl, haj, hji, hIj, hTj, hIn⟩ := hrel
        have hlt : i < b := by assumption
        have cc : ∀ k v, ((w.alloc (.cells #[.func (.func g) #[] lb, .func (.func sf) #[] sb] (ρ.t 42)))).cell? ⟨w.heap.size, k, none⟩ = some v → ∀ W, Turn blk (w.alloc (.cells #[.func (.func g) #[] lb, .func (.func sf) #[] sb] (ρ.t 42))) W → W.cell? ⟨w.heap.size, k, none⟩ = some v := fun k v h W hW => hW.cell (by simp) (by omega) h
        have c0 := cc 0 (.func (.func g) #[] lb) (by simp)
        have c1 := cc 1 (.func (.func sf) #[] sb) (by simp)
        have c0' := c0 _ hTj
        have HI : Hid (insInner lt a j dj = insInner lt a i dk) := hIn
        have TJ : Hid (Turn blk (w.alloc (.cells #[.func (.func g) #[] lb, .func (.func sf) #[] sb] (ρ.t 42))) wr) := hTj
        clear hIn hI hI1 cc hTj hIk hT
        have out : (j ≤ a ∨ lt dj[j]! dj[j - 1]! = false) → ∀ W, Below wr.heap.size wr W → ∃ i' dk', Value.int .i64 ((i : Int) + 1) = .int .i64 (i' : Nat) ∧ a < i' ∧ i' ≤ b + 1 ∧ I dk' W ∧
            Turn blk (w.alloc (.cells #[.func (.func g) #[] lb, .func (.func sf) #[] sb] (ρ.t 42))) W ∧ insOuter lt a b i' dk' = insOuter lt a b (a + 1) d := fun hs W hW =>
          ⟨i + 1, dj, by go_num, by omega, by omega, S.below _ _ _ hIj hW, TJ.out.trans (.of_below hW),
            by rw [← HO.out, insOuter_go _ _ _ _ _ hlt, ← HI.out, insInner_stop _ _ _ _ hs]⟩
        have OUT : Hid _ := out
        clear out
        by_cases hja : a < j
        · have hl := S.less dj wr hIj j (j - 1) (by omega) (by omega)
          rw [show (((j - 1 : Nat) : Int)) = (j : Int) - 1 by omega] at hl
          cases hlv : lt dj[j]! dj[j - 1]! with
          | true =>
            rw [hlv] at hl
            go_wp2_with (go_at_fn g; refine hl.mono ?_; rintro e w1 ⟨rfl, hB⟩; have c1w := c1 _ (TJ.out.trans (.of_below hB)))
            obtain ⟨W', hs, hI', hT'⟩ := S.swap dj w1 (S.below _ _ _ hIj hB) j (j - 1) (by omega) (by omega)
            rw [show (((j - 1 : Nat) : Int)) = (j : Int) - 1 by omega] at hs
            rw [hs, Oper.upon_value]
            go_wp2
            go_roundw
            case rel =>
              (repeat apply Exists.intro)
              refine ⟨⟨j - 1, swp dj j (j - 1), by congr 1 <;> omega, by omega, by omega, hI', (TJ.out.trans (.of_below hB)).trans hT', by rw [← HI.out, insInner_go lt a j dj hja hlv]⟩, by rw [decide_eq_true hlt, show ((j - 1 : Nat) : Int) = (j : Int) - 1 by omega]⟩
            case measure => simp [RowKit.intOf]; omega
          | false =>
            rw [hlv] at hl
            go_wp2_with (go_at_fn g; refine hl.mono ?_; rintro e w1 ⟨rfl, hB⟩)
            go_roundw
            case rel => exact OUT.out (Or.inr hlv) _ hB
            case measure => simp [RowKit.intOf]; omega
        · go_wp2
          go_roundw
          case rel => exact OUT.out (Or.inl (by omega)) _ (Below.refl _ _)
          case measure => simp [RowKit.intOf]; omega
    · have hge : ¬ i < b := by assumption
      go_end0
      exact ⟨rfl, by unfold Sort.insertionSort; rw [← HO.out, insOuter_stop _ _ _ _ _ hge]; exact hIk, (Turn.alloc _ _ _).trans hT⟩
end Go.Srt
namespace Go.Srt
open Go.Shelf Go.RowKit Go.Lib Go.Sort Go.Proofs Go.SymP
set_option linter.unusedVariables false
set_option linter.unusedSimpArgs false
variable {P : Program} {ρ : Ren} {α : Type} [Inhabited α]
def Within (n a b : Nat) (d d' : Array α) : Prop := ∀ lo hi, lo ≤ a → b ≤ hi → hi ≤ n → PermIn lo hi d d'
theorem Within.refl (n a b : Nat) (d : Array α) : Within n a b d d := fun _ _ _ _ _ => permIn_refl _ _ _
theorem Within.trans {n a b a' b' a2 b2 : Nat} {d d' d2 : Array α} (h : Within n a b d d') (k : Within n a' b' d' d2) (h1 : a2 ≤ a) (h2 : a2 ≤ a') (h3 : b ≤ b2) (h4 : b' ≤ b2) : Within n a2 b2 d d2 :=
  fun lo hi hl hh hn => permIn_trans _ _ _ _ _ (h lo hi (by omega) (by omega) hn) (k lo hi (by omega) (by omega) hn)
theorem Within.swp {n a b : Nat} (d : Array α) (hs : d.size = n) {i j : Nat} (hi : a ≤ i) (hib : i < b) (hj : a ≤ j) (hjb : j < b) : Within n a b d (swp d i j) :=
  fun lo hi' hl hh hn => swp_permIn _ _ _ _ _ (by omega) (by omega) (by omega) (by omega) (by omega)
set_option maxHeartbeats 2000000 in
set_option maxRecDepth 100000 in
theorem swapRange (L : LaysGt.n49 P ρ) {g sf : Nat} {lb sb : Array Value} {lt : α → α → Bool} {blk N : Nat} {I : Array α → World → Prop} (S : Sorts P g sf lb sb lt blk N I) (d : Array α) (w : World) (hI : I d w) (a b n : Nat) (hab : a + n ≤ b) (hb : b + n ≤ N) (hN : N < 4611686018427387904) :
    Calls P (ρ.f 49) #[.agg #[.func (.func g) #[] lb, .func (.func sf) #[] sb], .int .i64 a, .int .i64 b, .int .i64 n] w fun e w' =>
      e = .returned (.tuple #[]) ∧ ∃ d', I d' w' ∧ SwR d d' a b n ∧ Within N a (b + n) d d' ∧ Turn blk w w' := by
  have mixed := L.mixed; have t0 := L.t0; have a0 := L.a0; have z0 := L.z0; have v0 := L.v0; have t3 := L.t3; have a3 := L.a3; have z3 := L.z3; have v3 := L.v3; have t4 := L.t4; have a4 := L.a4; have z4 := L.z4; have v4 := L.v4; have t26 := L.t26; have a26 := L.a26; have z26 := L.z26; have v26 := L.v26; have t38 := L.t38; have a38 := L.a38; have z38 := L.z38; have v38 := L.v38; have t42 := L.t42; have a42 := L.a42; have z42 := L.z42; have v42 := L.v42
  have u42 := run_underlying L.t42
  have hblk := S.lt_ _ _ hI
  have hI1 : I d (w.alloc (.cells #[.func (.func g) #[] lb, .func (.func sf) #[] sb] (ρ.t 42))) := S.below _ _ _ hI ((Below.refl _ _).alloc (Nat.le_refl _) _)
  go_enter L.f49, BodyGt.n49_ntmps ρ
  go_wp2
  go_loopw [8] (fun vi wr => ∃ (i : Nat) (dk : Array α), vi = .int .i64 i ∧ i ≤ n ∧ I dk wr ∧ Turn blk (w.alloc (.cells #[.func (.func g) #[] lb, .func (.func sf) #[] sb] (ρ.t 42))) wr ∧
      SwR d dk a b i ∧ Within N a (b + n) d dk) (fun vi _ => n + 1 - (RowKit.intOf vi).toNat)
  case atStart => exact ⟨0, d, by go_num, by omega, hI1, Turn.refl _ _, SwR.start d a b, Within.refl _ _ _ _⟩
  case round =>
    obtain ⟨i, dk, rfl, hin, hIk, hT, hS, hW⟩ := hrel
    have c1 := hT.cell (k := w.heap.size) (o := 1) (v := .func (.func sf) #[] sb) (by simp) (by omega) (by simp)
    by_cases hi : i < n
    · obtain ⟨W', hs, hI', hT'⟩ := S.swap dk wr hIk (a + i) (b + i) (by omega) (by omega)
      have AS : Hid (SwR d dk a b i) := hS
      have AW : Hid (Within N a (b + n) d dk) := hW
      clear hS hW hI hI1
      go_wp2
      rw [show ((a + i : Nat) : Int) = (a : Int) + i by omega, show ((b + i : Nat) : Int) = (b : Int) + i by omega] at hs
      rw [hs, Oper.upon_value]
      go_wp2
      go_roundw
      case rel => exact ⟨i + 1, _, by go_num, by omega, hI', hT.trans hT', AS.out.step hi hab (by have := S.size _ _ hIk; omega), AW.out.trans (Within.swp dk (S.size _ _ hIk) (a := a) (b := b + n) (by omega) (by omega) (by omega) (by omega)) (Nat.le_refl _) (Nat.le_refl _) (Nat.le_refl _) (Nat.le_refl _)⟩
      case measure => simp [RowKit.intOf]; omega
    · go_wp2
      go_end0
      have e : i = n := by omega
      subst e
      exact ⟨rfl, dk, hIk, hS, hW, (Turn.alloc _ _ _).trans hT⟩
end Go.Srt
namespace Go.Srt
open Go.Shelf Go.RowKit Go.Lib Go.Sort Go.Proofs Go.SymP
set_option linter.unusedVariables false
set_option linter.unusedSimpArgs false
variable {P : Program} {ρ : Ren} {α : Type} [Inhabited α]
set_option maxHeartbeats 2000000 in
set_option maxRecDepth 100000 in
theorem rotate (L : LaysGt.n42 P ρ) {g sf : Nat} {lb sb : Array Value} {lt : α → α → Bool} {blk N : Nat} {I : Array α → World → Prop} (S : Sorts P g sf lb sb lt blk N I) (d : Array α) (w : World) (hI : I d w) (a m b : Nat) (ham : a < m) (hmb : m < b) (hb : b ≤ N) (hN : N < 4611686018427387904) :
    Calls P (ρ.f 42) #[.agg #[.func (.func g) #[] lb, .func (.func sf) #[] sb], .int .i64 a, .int .i64 m, .int .i64 b] w fun e w' =>
      e = .returned (.tuple #[]) ∧ ∃ d', I d' w' ∧ (∀ x, d'[x]! = rotT d a m b x) ∧ Within N a b d d' ∧ Turn blk w w' := by
  have mixed := L.mixed; have t0 := L.t0; have a0 := L.a0; have z0 := L.z0; have v0 := L.v0; have t3 := L.t3; have a3 := L.a3; have z3 := L.z3; have v3 := L.v3; have t4 := L.t4; have a4 := L.a4; have z4 := L.z4; have v4 := L.v4; have t26 := L.t26; have a26 := L.a26; have z26 := L.z26; have v26 := L.v26; have t38 := L.t38; have a38 := L.a38; have z38 := L.z38; have v38 := L.v38; have t42 := L.t42; have a42 := L.a42; have z42 := L.z42; have v42 := L.v42
  have u42 := run_underlying L.t42
  have hblk := S.lt_ _ _ hI
  have hI1 : I d (w.alloc (.cells #[.func (.func g) #[] lb, .func (.func sf) #[] sb] (ρ.t 42))) := S.below _ _ _ hI ((Below.refl _ _).alloc (Nat.le_refl _) _)
  have hc : ∀ (a b n : Nat) (d : Array α) (w : World), a + n ≤ b → b + n ≤ N → I d w → Calls P (ρ.f 49) #[.agg #[.func (.func g) #[] lb, .func (.func sf) #[] sb], .int .i64 a, .int .i64 b, .int .i64 n] w fun e w' =>
      e = .returned (.tuple #[]) ∧ ∃ d', I d' w' ∧ SwR d d' a b n ∧ Within N a (b + n) d d' ∧ Turn blk w w' := fun a b n d w h1 h2 h3 => swapRange { L with } S d w h3 a b n h1 h2 hN
  have e49 : ∀ args w, (callFunc (ρ.f 49) args).run P w = .ok (.enter (ρ.f 49) args) w := enters_of L.f49 (by kernel_rfl) rfl
  have HC : Hid _ := hc
  clear hc
  go_enter L.f42, BodyGt.n42_ntmps ρ
  go_wp2
  go_loopw [8, 9] (fun vi vj wr => ∃ (i j : Nat) (dk : Array α), vi = .int .i64 i ∧ vj = .int .i64 j ∧ 0 < i ∧ 0 < j ∧ i ≤ m - a ∧ j ≤ b - m ∧ I dk wr ∧ Turn blk (w.alloc (.cells #[.func (.func g) #[] lb, .func (.func sf) #[] sb] (ρ.t 42))) wr ∧
      RotI d dk a m b i j ∧ Within N a b d dk) (fun vi vj _ => (RowKit.intOf vi).toNat + (RowKit.intOf vj).toNat)
  case atStart => exact ⟨m - a, b - m, d, by go_num, by go_num, by omega, by omega, Nat.le_refl _, Nat.le_refl _, hI1, Turn.refl _ _, RotI.start d (by omega) (by omega), Within.refl _ _ _ _⟩
  case round =>
    obtain ⟨i, j, dk, rfl, rfl, hi0, hj0, him, hjb, hIk, hT, hR, hW⟩ := hrel
    have HT : Hid _ := hT
    have HR : Hid (RotI d dk a m b i j) := hR
    have HW : Hid (Within N a b d dk) := hW
    have c0 := hT.cell (k := w.heap.size) (o := 0) (v := .func (.func g) #[] lb) (by simp) (by omega) (by simp)
    have c1 := hT.cell (k := w.heap.size) (o := 1) (v := .func (.func sf) #[] sb) (by simp) (by omega) (by simp)
    clear hT hR hW hI hI1
    rcases Nat.lt_trichotomy i j with hij | hij | hij
    · have hl := HC.out (m - i) (m + j - i) i dk wr (by omega) (by omega) hIk
      rw [show ((m - i : Nat) : Int) = (m : Int) - i by omega, show ((m + j - i : Nat) : Int) = (m : Int) + j - i by omega] at hl
      go_wp2_with (go_at_fn (ρ.f 49); refine hl.mono ?_; rintro e w1 ⟨rfl, d1, hI1, hS1, hW1, hT1⟩)
      go_roundw
      case rel => exact ⟨i, j - i, d1, rfl, by go_num, hi0, by omega, him, by omega, hI1, HT.out.trans hT1, HR.out.right (by omega) hij hS1, HW.out.trans hW1 (Nat.le_refl _) (by omega) (Nat.le_refl _) (by omega)⟩
      case measure => simp [RowKit.intOf]; omega
    · subst hij
      have hl := HC.out (m - i) m i dk wr (by omega) (by omega) hIk
      rw [show ((m - i : Nat) : Int) = (m : Int) - i by omega] at hl
      go_wp2_with (go_at_fn (ρ.f 49); refine hl.mono ?_; rintro e w1 ⟨rfl, d1, hI1, hS1, hW1, hT1⟩)
      go_end0
      exact ⟨rfl, d1, hI1, HR.out.done (by omega) hS1, HW.out.trans hW1 (Nat.le_refl _) (by omega) (Nat.le_refl _) (by omega), (Turn.alloc _ _ _).trans (HT.out.trans hT1)⟩
    · have hl := HC.out (m - i) m j dk wr (by omega) (by omega) hIk
      rw [show ((m - i : Nat) : Int) = (m : Int) - i by omega] at hl
      go_wp2_with (go_at_fn (ρ.f 49); refine hl.mono ?_; rintro e w1 ⟨rfl, d1, hI1, hS1, hW1, hT1⟩)
      go_roundw
      case rel => exact ⟨i - j, j, d1, by go_num, rfl, by omega, hj0, by omega, hjb, hI1, HT.out.trans hT1, HR.out.left (by omega) hij hS1, HW.out.trans hW1 (Nat.le_refl _) (by omega) (Nat.le_refl _) (by omega)⟩
      case measure => simp [RowKit.intOf]; omega
end Go.Srt
namespace Go.Srt
open Go.Shelf Go.RowKit Go.Lib Go.Sort Go.Proofs Go.SymP
set_option linter.unusedVariables false
set_option linter.unusedSimpArgs false
variable {P : Program} {ρ : Ren} {α : Type} [Inhabited α]
theorem shiftR_down {d dk : Array α} {m k : Nat} (h : ShiftR d dk m k) (h0 : 0 < k) (hkm : k ≤ m) (hm : m < dk.size) : ShiftR d (swp dk k (k - 1)) m (k - 1) := by
  obtain ⟨q, rfl⟩ : ∃ q, k = q + 1 := ⟨k - 1, by omega⟩
  exact h.step hkm hm
set_option maxHeartbeats 4000000 in
set_option maxRecDepth 100000 in
theorem merge_left (L : LaysGt.n30 P ρ) {g sf : Nat} {lb sb : Array Value} {lt : α → α → Bool} {blk N : Nat} {I : Array α → World → Prop} (S : Sorts P g sf lb sb lt blk N I) (hS : SWO lt) (d : Array α) (w : World) (hI : I d w) (a m b : Nat) (ham : a + 1 = m) (hmb : m < b) (hb : b ≤ N) (hN : N < 4611686018427387904) (hR : SortedIn lt m b d) :
    Calls P (ρ.f 30) #[.agg #[.func (.func g) #[] lb, .func (.func sf) #[] sb], .int .i64 a, .int .i64 m, .int .i64 b] w fun e w' =>
      e = .returned (.tuple #[]) ∧ ∃ d', I d' w' ∧ Within N a b d d' ∧ SortedIn lt a b d' ∧ Turn blk w w' := by
  have mixed := L.mixed; have t0 := L.t0; have a0 := L.a0; have z0 := L.z0; have v0 := L.v0; have t3 := L.t3; have a3 := L.a3; have z3 := L.z3; have v3 := L.v3; have t4 := L.t4; have a4 := L.a4; have z4 := L.z4; have v4 := L.v4; have t26 := L.t26; have a26 := L.a26; have z26 := L.z26; have v26 := L.v26; have t38 := L.t38; have a38 := L.a38; have z38 := L.z38; have v38 := L.v38; have t42 := L.t42; have a42 := L.a42; have z42 := L.z42; have v42 := L.v42; have t47 := L.t47; have a47 := L.a47; have z47 := L.z47; have v47 := L.v47
  have u42 := run_underlying L.t42
  have hblk := S.lt_ _ _ hI
  have eg := S.eg
  have hI1 : I d (w.alloc (.cells #[.func (.func g) #[] lb, .func (.func sf) #[] sb] (ρ.t 42))) := S.below _ _ _ hI ((Below.refl _ _).alloc (Nat.le_refl _) _)
  have e30 : ∀ args w, (callFunc (ρ.f 30) args).run P w = .ok (.enter (ρ.f 30) args) w := enters_of L.f30 (by kernel_rfl) rfl
  have e42 : ∀ args w, (callFunc (ρ.f 42) args).run P w = .ok (.enter (ρ.f 42) args) w := enters_of L.f42 (by kernel_rfl) rfl
  have HR : Hid (SortedIn lt m b d) := hR
  clear hR hI
  have hm1 : ((m : Int) - a == 1) = true := by simp; omega
  go_enter L.f30, BodyGt.n30_ntmps ρ
  go_wp2
  go_loopw [8, 9] (fun vi vj wr => ∃ (i j : Nat), vi = .int .i64 i ∧ vj = .int .i64 j ∧ m ≤ i ∧ i ≤ j ∧ j ≤ b ∧ I d wr ∧ Hid (Turn blk (w.alloc (.cells #[.func (.func g) #[] lb, .func (.func sf) #[] sb] (ρ.t 42))) wr) ∧
      Hid (i = m ∨ lt d[i - 1]! d[a]! = true) ∧ Hid (j = b ∨ lt d[j]! d[a]! = false)) (fun vi vj _ => (RowKit.intOf vj).toNat - (RowKit.intOf vi).toNat)
  case atStart => exact ⟨m, b, rfl, rfl, Nat.le_refl _, by omega, Nat.le_refl _, hI1, Turn.refl _ _, Or.inl rfl, Or.inl rfl⟩
  case round =>
    obtain ⟨i, j, rfl, rfl, hmi, hij, hjb, hIk, HT, H1, H2⟩ := hrel
    clear hI1
    have c0 := HT.out.cell (k := w.heap.size) (o := 0) (v := .func (.func g) #[] lb) (by simp) (by omega) (by simp)
    have c1 := HT.out.cell (k := w.heap.size) (o := 1) (v := .func (.func sf) #[] sb) (by simp) (by omega) (by simp)
    by_cases hlt : i < j
    · have hl := S.less d wr hIk ((i + j) / 2) a (by omega) (by omega)
      rw [show (((i + j) / 2 : Nat) : Int) = ((i : Int) + j) / 2 by omega] at hl
      cases hlv : lt d[(i + j) / 2]! d[a]! with
      | true =>
        rw [hlv] at hl
        go_wp2_with (go_at_fn g; refine hl.mono ?_; rintro e w1 ⟨rfl, hB⟩)
        go_roundw
        case rel => exact ⟨(i + j) / 2 + 1, j, by go_num, rfl, by omega, by omega, hjb, S.below _ _ _ hIk hB, HT.out.trans (.of_below hB), Or.inr (by simpa using hlv), H2⟩
        case measure => simp [RowKit.intOf]; omega
      | false =>
        rw [hlv] at hl
        go_wp2_with (go_at_fn g; refine hl.mono ?_; rintro e w1 ⟨rfl, hB⟩)
        go_roundw
        case rel => exact ⟨i, (i + j) / 2, rfl, by go_num, hmi, by omega, by omega, S.below _ _ _ hIk hB, HT.out.trans (.of_below hB), H1, Or.inr hlv⟩
        case measure => simp [RowKit.intOf]; omega
    · have e : j = i := by omega
      subst e
      go_wp2
      go_loopw [11] (fun vk wr2 => ∃ (k : Nat) (dk : Array α), vk = .int .i64 k ∧ a ≤ k ∧ k ≤ j - 1 ∧ I dk wr2 ∧ Hid (Turn blk (w.alloc (.cells #[.func (.func g) #[] lb, .func (.func sf) #[] sb] (ρ.t 42))) wr2) ∧
          Hid (ShiftL d dk a k) ∧ Hid (Within N a b d dk)) (fun vk _ => j - (RowKit.intOf vk).toNat)
      case atStart => exact ⟨a, d, rfl, Nat.le_refl _, by omega, hIk, HT, ShiftL.start d a, Within.refl _ _ _ _⟩
      case round =>
        clear HT c0 c1
        obtain ⟨k, dk, rfl, hak, hki, hIk2, HT, HS, HW⟩ := hrel
        have c1 := HT.out.cell (k := w.heap.size) (o := 1) (v := .func (.func sf) #[] sb) (by simp) (by omega) (by simp)
        by_cases hk : k < j - 1
        · obtain ⟨W', hs, hI', hT'⟩ := S.swap dk wr hIk2 k (k + 1) (by omega) (by omega)
          rw [show ((k + 1 : Nat) : Int) = (k : Int) + 1 by omega] at hs
          have hz := S.size _ _ hIk2
          go_wp2
          go_roundw
          case rel => exact ⟨k + 1, _, by go_num, by omega, by omega, hI', HT.out.trans hT', HS.out.step hak (by omega), HW.out.trans (Within.swp dk hz (a := a) (b := b) (by omega) (by omega) (by omega) (by omega)) (Nat.le_refl _) (Nat.le_refl _) (Nat.le_refl _) (Nat.le_refl _)⟩
          case measure => simp [RowKit.intOf]; omega
        · have e : k = j - 1 := by omega
          subst e
          go_wp2
          first | go_end0 | ((try simp only [Exit.inBlock, Exit.then]); refine bodyPost_ret (results_none rfl _ _ _) rfl ?_)
          exact ⟨rfl, dk, hIk2, HW.out, ins_left hS (by rw [ham]; exact HR.out) (by omega) hjb (by rw [ham]; exact H1.out) H2.out HS.out, (Turn.alloc _ _ _).trans HT.out⟩
set_option maxHeartbeats 4000000 in
set_option maxRecDepth 100000 in
theorem merge_right (L : LaysGt.n30 P ρ) {g sf : Nat} {lb sb : Array Value} {lt : α → α → Bool} {blk N : Nat} {I : Array α → World → Prop} (S : Sorts P g sf lb sb lt blk N I) (hS : SWO lt) (d : Array α) (w : World) (hI : I d w) (a m b : Nat) (ham : a + 1 < m) (hmb : m + 1 = b) (hb : b ≤ N) (hN : N < 4611686018427387904) (hL : SortedIn lt a m d) :
    Calls P (ρ.f 30) #[.agg #[.func (.func g) #[] lb, .func (.func sf) #[] sb], .int .i64 a, .int .i64 m, .int .i64 b] w fun e w' =>
      e = .returned (.tuple #[]) ∧ ∃ d', I d' w' ∧ Within N a b d d' ∧ SortedIn lt a b d' ∧ Turn blk w w' := by
  have mixed := L.mixed; have t0 := L.t0; have a0 := L.a0; have z0 := L.z0; have v0 := L.v0; have t3 := L.t3; have a3 := L.a3; have z3 := L.z3; have v3 := L.v3; have t4 := L.t4; have a4 := L.a4; have z4 := L.z4; have v4 := L.v4; have t26 := L.t26; have a26 := L.a26; have z26 := L.z26; have v26 := L.v26; have t38 := L.t38; have a38 := L.a38; have z38 := L.z38; have v38 := L.v38; have t42 := L.t42; have a42 := L.a42; have z42 := L.z42; have v42 := L.v42; have t47 := L.t47; have a47 := L.a47; have z47 := L.z47; have v47 := L.v47
  have u42 := run_underlying L.t42
  have hblk := S.lt_ _ _ hI
  have eg := S.eg
  have hI1 : I d (w.alloc (.cells #[.func (.func g) #[] lb, .func (.func sf) #[] sb] (ρ.t 42))) := S.below _ _ _ hI ((Below.refl _ _).alloc (Nat.le_refl _) _)
  have e30 : ∀ args w, (callFunc (ρ.f 30) args).run P w = .ok (.enter (ρ.f 30) args) w := enters_of L.f30 (by kernel_rfl) rfl
  have e42 : ∀ args w, (callFunc (ρ.f 42) args).run P w = .ok (.enter (ρ.f 42) args) w := enters_of L.f42 (by kernel_rfl) rfl
  have HL : Hid (SortedIn lt a m d) := hL
  clear hL hI
  have hm1 : ((m : Int) - a == 1) = false := by simp; omega
  have hm2 : ((b : Int) - m == 1) = true := by simp; omega
  go_enter L.f30, BodyGt.n30_ntmps ρ
  go_wp2
  go_loopw [12, 13] (fun vi vj wr => ∃ (i j : Nat), vi = .int .i64 i ∧ vj = .int .i64 j ∧ a ≤ i ∧ i ≤ j ∧ j ≤ m ∧ I d wr ∧ Hid (Turn blk (w.alloc (.cells #[.func (.func g) #[] lb, .func (.func sf) #[] sb] (ρ.t 42))) wr) ∧
      Hid (i = a ∨ lt d[m]! d[i - 1]! = false) ∧ Hid (j = m ∨ lt d[m]! d[j]! = true)) (fun vi vj _ => (RowKit.intOf vj).toNat - (RowKit.intOf vi).toNat)
  case atStart => exact ⟨a, m, rfl, rfl, Nat.le_refl _, by omega, Nat.le_refl _, hI1, Turn.refl _ _, Or.inl rfl, Or.inl rfl⟩
  case round =>
    obtain ⟨i, j, rfl, rfl, hmi, hij, hjb, hIk, HT, H1, H2⟩ := hrel
    clear hI1
    have c0 := HT.out.cell (k := w.heap.size) (o := 0) (v := .func (.func g) #[] lb) (by simp) (by omega) (by simp)
    have c1 := HT.out.cell (k := w.heap.size) (o := 1) (v := .func (.func sf) #[] sb) (by simp) (by omega) (by simp)
    by_cases hlt : i < j
    · have hl := S.less d wr hIk m ((i + j) / 2) (by omega) (by omega)
      rw [show (((i + j) / 2 : Nat) : Int) = ((i : Int) + j) / 2 by omega] at hl
      cases hlv : lt d[m]! d[(i + j) / 2]! with
      | true =>
        rw [hlv] at hl
        go_wp2_with (go_at_fn g; refine hl.mono ?_; rintro e w1 ⟨rfl, hB⟩)
        go_roundw
        case rel => exact ⟨i, (i + j) / 2, rfl, by go_num, hmi, by omega, by omega, S.below _ _ _ hIk hB, HT.out.trans (.of_below hB), H1, Or.inr hlv⟩
        case measure => simp [RowKit.intOf]; omega
      | false =>
        rw [hlv] at hl
        go_wp2_with (go_at_fn g; refine hl.mono ?_; rintro e w1 ⟨rfl, hB⟩)
        go_roundw
        case rel => exact ⟨(i + j) / 2 + 1, j, by go_num, rfl, by omega, by omega, hjb, S.below _ _ _ hIk hB, HT.out.trans (.of_below hB), Or.inr (by simpa using hlv), H2⟩
        case measure => simp [RowKit.intOf]; omega
    · have e : j = i := by omega
      subst e
      go_wp2
      go_loopw [15] (fun vk wr2 => ∃ (k : Nat) (dk : Array α), vk = .int .i64 k ∧ j ≤ k ∧ k ≤ m ∧ I dk wr2 ∧ Hid (Turn blk (w.alloc (.cells #[.func (.func g) #[] lb, .func (.func sf) #[] sb] (ρ.t 42))) wr2) ∧
          Hid (ShiftR d dk m k) ∧ Hid (Within N a b d dk)) (fun vk _ => (RowKit.intOf vk).toNat)
      case atStart => exact ⟨m, d, rfl, by omega, Nat.le_refl _, hIk, HT, ShiftR.start d m, Within.refl _ _ _ _⟩
      case round =>
        clear HT c0 c1
        obtain ⟨k, dk, rfl, hak, hki, hIk2, HT, HS, HW⟩ := hrel
        have c1 := HT.out.cell (k := w.heap.size) (o := 1) (v := .func (.func sf) #[] sb) (by simp) (by omega) (by simp)
        by_cases hk : j < k
        · obtain ⟨W', hs, hI', hT'⟩ := S.swap dk wr hIk2 k (k - 1) (by omega) (by omega)
          rw [show ((k - 1 : Nat) : Int) = (k : Int) - 1 by omega] at hs
          have hz := S.size _ _ hIk2
          go_wp2
          go_roundw
          case rel => exact ⟨k - 1, _, by go_num, by omega, by omega, hI', HT.out.trans hT', shiftR_down HS.out (by omega) (by omega) (by omega), HW.out.trans (Within.swp dk hz (a := a) (b := b) (by omega) (by omega) (by omega) (by omega)) (Nat.le_refl _) (Nat.le_refl _) (Nat.le_refl _) (Nat.le_refl _)⟩
          case measure => simp [RowKit.intOf]; omega
        · have e : k = j := by omega
          subst e
          go_wp2
          first | go_end0 | ((try simp only [Exit.inBlock, Exit.then]); refine bodyPost_ret (results_none rfl _ _ _) rfl ?_)
          exact ⟨rfl, dk, hIk2, HW.out, by rw [← hmb]; exact ins_right hS HL.out hmi hjb H1.out H2.out HS.out, (Turn.alloc _ _ _).trans HT.out⟩
end Go.Srt
namespace Go.Srt
open Go.Shelf Go.RowKit Go.Lib Go.Sort Go.Proofs Go.SymP
set_option linter.unusedVariables false
set_option linter.unusedSimpArgs false
variable {P : Program} {ρ : Ren} {α : Type} [Inhabited α]
def Held_ (p : Prop) : Prop := p
theorem held_ {p : Prop} (h : Held_ p) : p := h
theorem _root_.Go.Sort.SortedIn.of_eq {lt : α → α → Bool} {a b : Nat} {d d' : Array α} (h : SortedIn lt a b d) (e : ∀ x, a ≤ x → x < b → d'[x]! = d[x]!) : SortedIn lt a b d' := fun i j hi hij hj => by rw [e i hi (by omega), e j (by omega) hj]; exact h i j hi hij hj
theorem Within.mono {n a b a' b' : Nat} {d d' : Array α} (h : Within n a b d d') (h1 : a' ≤ a) (h2 : b ≤ b') : Within n a' b' d d' := fun lo hi hl hh hn => h lo hi (by omega) (by omega) hn
set_option maxHeartbeats 4000000 in
set_option maxRecDepth 100000 in
theorem merge_more1 (L : LaysGt.n30 P ρ) {g sf : Nat} {lb sb : Array Value} {lt : α → α → Bool} {blk N : Nat} {I : Array α → World → Prop} (S : Sorts P g sf lb sb lt blk N I) (hS : SWO lt) (hN : N < 4611686018427387904) (k : Nat) (HI : Hid (∀ (a m b : Nat) (d : Array α) (w : World), b - a ≤ k → a < m → m < b → b ≤ N → I d w → SortedIn lt a m d → SortedIn lt m b d → Calls P (ρ.f 30) #[.agg #[.func (.func g) #[] lb, .func (.func sf) #[] sb], .int .i64 a, .int .i64 m, .int .i64 b] w fun e w' =>
      e = .returned (.tuple #[]) ∧ ∃ d', I d' w' ∧ Within N a b d d' ∧ SortedIn lt a b d' ∧ Turn blk w w')) (a m b : Nat) (d : Array α) (w : World) (hk : b - a ≤ k + 1) (ham : a + 1 < m) (hmb : m + 1 < b) (hb : b ≤ N) (hI : I d w) (hL : SortedIn lt a m d) (hR : SortedIn lt m b d) (hc : ((a + b) / 2) < m) :
    Calls P (ρ.f 30) #[.agg #[.func (.func g) #[] lb, .func (.func sf) #[] sb], .int .i64 a, .int .i64 m, .int .i64 b] w fun e w' =>
      e = .returned (.tuple #[]) ∧ ∃ d', I d' w' ∧ Within N a b d d' ∧ SortedIn lt a b d' ∧ Turn blk w w' := by
  have mixed := L.mixed; have t0 := L.t0; have a0 := L.a0; have z0 := L.z0; have v0 := L.v0; have t3 := L.t3; have a3 := L.a3; have z3 := L.z3; have v3 := L.v3; have t4 := L.t4; have a4 := L.a4; have z4 := L.z4; have v4 := L.v4; have t26 := L.t26; have a26 := L.a26; have z26 := L.z26; have v26 := L.v26; have t38 := L.t38; have a38 := L.a38; have z38 := L.z38; have v38 := L.v38; have t42 := L.t42; have a42 := L.a42; have z42 := L.z42; have v42 := L.v42; have t47 := L.t47; have a47 := L.a47; have z47 := L.z47; have v47 := L.v47
  have u42 := run_underlying L.t42
  have hblk := S.lt_ _ _ hI
  have eg := S.eg
  have hI1 : I d (w.alloc (.cells #[.func (.func g) #[] lb, .func (.func sf) #[] sb] (ρ.t 42))) := S.below _ _ _ hI ((Below.refl _ _).alloc (Nat.le_refl _) _)
  have e30 : ∀ args w, (callFunc (ρ.f 30) args).run P w = .ok (.enter (ρ.f 30) args) w := enters_of L.f30 (by kernel_rfl) rfl
  have e42 : ∀ args w, (callFunc (ρ.f 42) args).run P w = .ok (.enter (ρ.f 42) args) w := enters_of L.f42 (by kernel_rfl) rfl
  have HL : Hid (SortedIn lt a m d) := hL
  have HR : Hid (SortedIn lt m b d) := hR
  have HC : Hid (∀ (a m b : Nat) (d : Array α) (w : World), a < m → m < b → b ≤ N → I d w → Calls P (ρ.f 42) #[.agg #[.func (.func g) #[] lb, .func (.func sf) #[] sb], .int .i64 a, .int .i64 m, .int .i64 b] w fun e w' =>
      e = .returned (.tuple #[]) ∧ ∃ d', I d' w' ∧ (∀ x, d'[x]! = rotT d a m b x) ∧ Within N a b d d' ∧ Turn blk w w') := fun a m b d w h1 h2 h3 h4 => rotate { L with } S d w h4 a m b h1 h2 h3 hN
  clear hL hR hI
  have hm1 : ((m : Int) - a == 1) = false := by simp; omega
  have hm2 : ((b : Int) - m == 1) = false := by simp; omega
  have hm3 : decide ((m : Int) > ((a : Int) + b) / 2) = true := by simp; omega
  go_enter L.f30, BodyGt.n30_ntmps ρ
  go_wp2
  go_loopw [18, 19] (fun vi vj wr => ∃ (st r : Nat), vi = .int .i64 st ∧ vj = .int .i64 r ∧ ((a + b) / 2) + m - b ≤ st ∧ st ≤ r ∧ r ≤ ((a + b) / 2) ∧ I d wr ∧ Hid (Turn blk (w.alloc (.cells #[.func (.func g) #[] lb, .func (.func sf) #[] sb] (ρ.t 42))) wr) ∧
      Hid (st = a ∨ ((a + b) / 2 + m - st) = b ∨ lt d[((a + b) / 2 + m - st)]! d[st - 1]! = false) ∧ Hid (r = m ∨ ((a + b) / 2) + m - r = m ∨ lt d[((a + b) / 2) + m - r - 1]! d[r]! = true)) (fun vi vj _ => (RowKit.intOf vj).toNat - (RowKit.intOf vi).toNat)
  case atStart => exact ⟨((a + b) / 2) + m - b, ((a + b) / 2), by go_num, by go_num, Nat.le_refl _, by omega, Nat.le_refl _, hI1, Turn.refl _ _, Or.inr (Or.inl (by omega)), Or.inr (Or.inl (by omega))⟩
  case round =>
    obtain ⟨st, r, rfl, rfl, hls, hsr, hrh, hIk, HT, HE1, HE2⟩ := hrel
    clear hI1
    have c0 := HT.out.cell (k := w.heap.size) (o := 0) (v := .func (.func g) #[] lb) (by simp) (by omega) (by simp)
    have c1 := HT.out.cell (k := w.heap.size) (o := 1) (v := .func (.func sf) #[] sb) (by simp) (by omega) (by simp)
    by_cases hlt : st < r
    · have hl := S.less d wr hIk (((a + b) / 2) + m - 1 - (st + r) / 2) ((st + r) / 2) (by omega) (by omega)
      rw [show ((((a + b) / 2) + m - 1 - (st + r) / 2 : Nat) : Int) = ((a : Int) + b) / 2 + m - 1 - ((st : Int) + r) / 2 by omega, show (((st + r) / 2 : Nat) : Int) = ((st : Int) + r) / 2 by omega] at hl
      cases hlv : lt d[((a + b) / 2) + m - 1 - (st + r) / 2]! d[(st + r) / 2]! with
      | true =>
        rw [hlv] at hl
        go_wp2_with (go_at_fn g; refine hl.mono ?_; rintro e w1 ⟨rfl, hB⟩)
        go_roundw
        case rel => exact ⟨st, (st + r) / 2, rfl, by go_num, hls, by omega, by omega, S.below _ _ _ hIk hB, HT.out.trans (.of_below hB), HE1, Or.inr (Or.inr (by rw [show ((a + b) / 2) + m - (st + r) / 2 - 1 = ((a + b) / 2) + m - 1 - (st + r) / 2 by omega]; exact hlv))⟩
        case measure => simp [RowKit.intOf]; omega
      | false =>
        rw [hlv] at hl
        go_wp2_with (go_at_fn g; refine hl.mono ?_; rintro e w1 ⟨rfl, hB⟩)
        go_roundw
        case rel => exact ⟨(st + r) / 2 + 1, r, by go_num, rfl, by omega, by omega, hrh, S.below _ _ _ hIk hB, HT.out.trans (.of_below hB), Or.inr (Or.inr (by rw [show ((a + b) / 2) + m - ((st + r) / 2 + 1) = ((a + b) / 2) + m - 1 - (st + r) / 2 by omega]; simpa using hlv)), HE2⟩
        case measure => simp [RowKit.intOf]; omega
    · have e : st = r := by omega
      subst e
      by_cases cr : st < m ∧ m < ((a + b) / 2 + m - st)
      · have hl := HC.out st m ((a + b) / 2 + m - st) d wr cr.1 cr.2 (by omega) hIk
        rw [show ((((a + b) / 2 + m - st) : Nat) : Int) = ((a : Int) + b) / 2 + m - st by omega] at hl
        go_wp2_with (go_at_fn (ρ.f 42); refine held_ ?_)
        all_goals
          unfold Held_
          refine hl.mono ?_
          rintro e w1 ⟨rfl, d1, hI1, hX1, hW1, hT1⟩
          have T1 : Hid (Turn blk (w.alloc (.cells #[.func (.func g) #[] lb, .func (.func sf) #[] sb] (ρ.t 42))) w1) := HT.out.trans hT1
          clear c0 c1 hl
          have HH : Hid (Halves lt d1 a st ((a + b) / 2) ((a + b) / 2 + m - st) b) := halves hS HL.out HR.out (by omega) (by omega) (by omega) (by omega) (by omega) (HE1.out) (HE2.out) hX1
          have W1 : Hid (Within N a b d d1) := hW1.mono (by omega) (by omega)
          clear hX1 hW1 hT1
          have c0 := T1.out.cell (k := w.heap.size) (o := 0) (v := .func (.func g) #[] lb) (by simp) (by omega) (by simp)
          have c1 := T1.out.cell (k := w.heap.size) (o := 1) (v := .func (.func sf) #[] sb) (by simp) (by omega) (by simp)
          by_cases cl : a < st ∧ st < ((a + b) / 2)
          · have hl := HI.out a st ((a + b) / 2) d1 w1 (by omega) cl.1 cl.2 (by omega) hI1 HH.out.s1 HH.out.s2
            rw [show ((((a + b) / 2) : Nat) : Int) = ((a : Int) + b) / 2 by omega] at hl
            go_wp2_with (go_at_fn (ρ.f 30); refine held_ ?_)
            all_goals
              unfold Held_
              refine hl.mono ?_
              rintro e w2 ⟨rfl, d2, hI2, hW2, hS2, hT2⟩
              clear hl
              clear c0 c1
              have T2 : Hid (Turn blk (w.alloc (.cells #[.func (.func g) #[] lb, .func (.func sf) #[] sb] (ρ.t 42))) w2) := T1.out.trans hT2
              have P2 : Hid (PermIn a ((a + b) / 2) d1 d2) := hW2 a ((a + b) / 2) (Nat.le_refl _) (Nat.le_refl _) (by omega)
              have W2 : Hid (Within N a b d d2) := W1.out.trans hW2 (Nat.le_refl _) (Nat.le_refl _) (Nat.le_refl _) (by omega)
              have S2 : Hid (SortedIn lt a ((a + b) / 2) d2) := hS2
              clear hT2 hW2 hS2
              have c0 := T2.out.cell (k := w.heap.size) (o := 0) (v := .func (.func g) #[] lb) (by simp) (by omega) (by simp)
              have c1 := T2.out.cell (k := w.heap.size) (o := 1) (v := .func (.func sf) #[] sb) (by simp) (by omega) (by simp)
              by_cases cd : ((a + b) / 2) < ((a + b) / 2 + m - st) ∧ ((a + b) / 2 + m - st) < b
              · have hl := HI.out ((a + b) / 2) ((a + b) / 2 + m - st) b d2 w2 (by omega) cd.1 cd.2 (by omega) hI2 (HH.out.s3.of_eq (fun x h h' => P2.out.2.1 x (by omega))) (HH.out.s4.of_eq (fun x h h' => P2.out.2.1 x (by omega)))
                rw [show ((((a + b) / 2 + m - st) : Nat) : Int) = ((a : Int) + b) / 2 + m - st by omega, show ((((a + b) / 2) : Nat) : Int) = ((a : Int) + b) / 2 by omega] at hl
                go_wp2_with (go_at_fn (ρ.f 30); refine held_ ?_)
                all_goals
                  unfold Held_
                  refine hl.mono ?_
                  rintro e w3 ⟨rfl, d3, hI3, hW3, hS3, hT3⟩
                  go_wp2
                  all_goals
                    first | go_end0 | ((try simp only [Exit.inBlock, Exit.then]); refine bodyPost_ret (results_none rfl _ _ _) rfl ?_)
                    exact ⟨rfl, d3, hI3, W2.out.trans hW3 (Nat.le_refl _) (by omega) (Nat.le_refl _) (Nat.le_refl _), halves_done HH.out (by omega) (by omega) (by have := S.size _ _ hI1; omega) P2.out S2.out (hW3 ((a + b) / 2) b (Nat.le_refl _) (Nat.le_refl _) (by omega)) hS3, (Turn.alloc _ _ _).trans (T2.out.trans hT3)⟩
              · obtain ⟨w3, d3, hw3, hI3, hW3, hS3, hT3⟩ : ∃ w3 d3, w3 = w2 ∧ I d3 w3 ∧ Within N ((a + b) / 2) b d2 d3 ∧ SortedIn lt ((a + b) / 2) b d3 ∧ Turn blk w2 w3 := ⟨w2, d2, rfl, hI2, Within.refl _ _ _ _, (by
                    rcases Nat.lt_or_ge ((a + b) / 2) ((a + b) / 2 + m - st) with h | h
                    · have e : ((a + b) / 2 + m - st) = b := by omega
                      have := (HH.out.s3.of_eq (fun x h h' => P2.out.2.1 x (by omega)))
                      rw [e] at this; exact this
                    · have e : ((a + b) / 2 + m - st) = ((a + b) / 2) := by omega
                      have := (HH.out.s4.of_eq (fun x h h' => P2.out.2.1 x (by omega)))
                      rw [e] at this; exact this), Turn.refl _ _⟩
                subst hw3
                go_wp2
                all_goals
                  first | go_end0 | ((try simp only [Exit.inBlock, Exit.then]); refine bodyPost_ret (results_none rfl _ _ _) rfl ?_)
                  exact ⟨rfl, d3, hI3, W2.out.trans hW3 (Nat.le_refl _) (by omega) (Nat.le_refl _) (Nat.le_refl _), halves_done HH.out (by omega) (by omega) (by have := S.size _ _ hI1; omega) P2.out S2.out (hW3 ((a + b) / 2) b (Nat.le_refl _) (Nat.le_refl _) (by omega)) hS3, (Turn.alloc _ _ _).trans (T2.out.trans hT3)⟩
          · obtain ⟨w2, d2, hw2, hI2, hW2, hS2, hT2⟩ : ∃ w2 d2, w2 = w1 ∧ I d2 w2 ∧ Within N a ((a + b) / 2) d1 d2 ∧ SortedIn lt a ((a + b) / 2) d2 ∧ Turn blk w1 w2 := ⟨w1, d1, rfl, hI1, Within.refl _ _ _ _, (by
                rcases Nat.lt_or_ge a st with h | h
                · have e : st = ((a + b) / 2) := by omega
                  have := HH.out.s1
                  rw [e] at this; exact this
                · have e : st = a := by omega
                  have := HH.out.s2
                  rw [e] at this; exact this), Turn.refl _ _⟩
            subst hw2
            clear c0 c1
            have T2 : Hid (Turn blk (w.alloc (.cells #[.func (.func g) #[] lb, .func (.func sf) #[] sb] (ρ.t 42))) w2) := T1.out.trans hT2
            have P2 : Hid (PermIn a ((a + b) / 2) d1 d2) := hW2 a ((a + b) / 2) (Nat.le_refl _) (Nat.le_refl _) (by omega)
            have W2 : Hid (Within N a b d d2) := W1.out.trans hW2 (Nat.le_refl _) (Nat.le_refl _) (Nat.le_refl _) (by omega)
            have S2 : Hid (SortedIn lt a ((a + b) / 2) d2) := hS2
            clear hT2 hW2 hS2
            have c0 := T2.out.cell (k := w.heap.size) (o := 0) (v := .func (.func g) #[] lb) (by simp) (by omega) (by simp)
            have c1 := T2.out.cell (k := w.heap.size) (o := 1) (v := .func (.func sf) #[] sb) (by simp) (by omega) (by simp)
            by_cases cd : ((a + b) / 2) < ((a + b) / 2 + m - st) ∧ ((a + b) / 2 + m - st) < b
            · have hl := HI.out ((a + b) / 2) ((a + b) / 2 + m - st) b d2 w2 (by omega) cd.1 cd.2 (by omega) hI2 (HH.out.s3.of_eq (fun x h h' => P2.out.2.1 x (by omega))) (HH.out.s4.of_eq (fun x h h' => P2.out.2.1 x (by omega)))
              rw [show ((((a + b) / 2 + m - st) : Nat) : Int) = ((a : Int) + b) / 2 + m - st by omega, show ((((a + b) / 2) : Nat) : Int) = ((a : Int) + b) / 2 by omega] at hl
              go_wp2_with (go_at_fn (ρ.f 30); refine held_ ?_)
              all_goals
                unfold Held_
                refine hl.mono ?_
                rintro e w3 ⟨rfl, d3, hI3, hW3, hS3, hT3⟩
                go_wp2
                all_goals
                  first | go_end0 | ((try simp only [Exit.inBlock, Exit.then]); refine bodyPost_ret (results_none rfl _ _ _) rfl ?_)
                  exact ⟨rfl, d3, hI3, W2.out.trans hW3 (Nat.le_refl _) (by omega) (Nat.le_refl _) (Nat.le_refl _), halves_done HH.out (by omega) (by omega) (by have := S.size _ _ hI1; omega) P2.out S2.out (hW3 ((a + b) / 2) b (Nat.le_refl _) (Nat.le_refl _) (by omega)) hS3, (Turn.alloc _ _ _).trans (T2.out.trans hT3)⟩
            · obtain ⟨w3, d3, hw3, hI3, hW3, hS3, hT3⟩ : ∃ w3 d3, w3 = w2 ∧ I d3 w3 ∧ Within N ((a + b) / 2) b d2 d3 ∧ SortedIn lt ((a + b) / 2) b d3 ∧ Turn blk w2 w3 := ⟨w2, d2, rfl, hI2, Within.refl _ _ _ _, (by
                  rcases Nat.lt_or_ge ((a + b) / 2) ((a + b) / 2 + m - st) with h | h
                  · have e : ((a + b) / 2 + m - st) = b := by omega
                    have := (HH.out.s3.of_eq (fun x h h' => P2.out.2.1 x (by omega)))
                    rw [e] at this; exact this
                  · have e : ((a + b) / 2 + m - st) = ((a + b) / 2) := by omega
                    have := (HH.out.s4.of_eq (fun x h h' => P2.out.2.1 x (by omega)))
                    rw [e] at this; exact this), Turn.refl _ _⟩
              subst hw3
              go_wp2
              all_goals
                first | go_end0 | ((try simp only [Exit.inBlock, Exit.then]); refine bodyPost_ret (results_none rfl _ _ _) rfl ?_)
                exact ⟨rfl, d3, hI3, W2.out.trans hW3 (Nat.le_refl _) (by omega) (Nat.le_refl _) (Nat.le_refl _), halves_done HH.out (by omega) (by omega) (by have := S.size _ _ hI1; omega) P2.out S2.out (hW3 ((a + b) / 2) b (Nat.le_refl _) (Nat.le_refl _) (by omega)) hS3, (Turn.alloc _ _ _).trans (T2.out.trans hT3)⟩
      · obtain ⟨w1, d1, hw1, hI1, hX1, hW1, hT1⟩ : ∃ w1 d1, w1 = wr ∧ I d1 w1 ∧ (∀ x, d1[x]! = rotT d st m ((a + b) / 2 + m - st) x) ∧ Within N st ((a + b) / 2 + m - st) d d1 ∧ Turn blk wr w1 := ⟨wr, d, rfl, hIk, rotT_none (by omega) (by omega) (by omega), Within.refl _ _ _ _, Turn.refl _ _⟩
        clear c0 c1 hIk
        subst hw1
        have T1 : Hid (Turn blk (w.alloc (.cells #[.func (.func g) #[] lb, .func (.func sf) #[] sb] (ρ.t 42))) w1) := HT.out.trans hT1
        have HH : Hid (Halves lt d1 a st ((a + b) / 2) ((a + b) / 2 + m - st) b) := halves hS HL.out HR.out (by omega) (by omega) (by omega) (by omega) (by omega) (HE1.out) (HE2.out) hX1
        have W1 : Hid (Within N a b d d1) := hW1.mono (by omega) (by omega)
        clear hX1 hW1 hT1
        have c0 := T1.out.cell (k := w.heap.size) (o := 0) (v := .func (.func g) #[] lb) (by simp) (by omega) (by simp)
        have c1 := T1.out.cell (k := w.heap.size) (o := 1) (v := .func (.func sf) #[] sb) (by simp) (by omega) (by simp)
        by_cases cl : a < st ∧ st < ((a + b) / 2)
        · have hl := HI.out a st ((a + b) / 2) d1 w1 (by omega) cl.1 cl.2 (by omega) hI1 HH.out.s1 HH.out.s2
          rw [show ((((a + b) / 2) : Nat) : Int) = ((a : Int) + b) / 2 by omega] at hl
          go_wp2_with (go_at_fn (ρ.f 30); refine held_ ?_)
          all_goals
            unfold Held_
            refine hl.mono ?_
            rintro e w2 ⟨rfl, d2, hI2, hW2, hS2, hT2⟩
            clear hl
            clear c0 c1
            have T2 : Hid (Turn blk (w.alloc (.cells #[.func (.func g) #[] lb, .func (.func sf) #[] sb] (ρ.t 42))) w2) := T1.out.trans hT2
            have P2 : Hid (PermIn a ((a + b) / 2) d1 d2) := hW2 a ((a + b) / 2) (Nat.le_refl _) (Nat.le_refl _) (by omega)
            have W2 : Hid (Within N a b d d2) := W1.out.trans hW2 (Nat.le_refl _) (Nat.le_refl _) (Nat.le_refl _) (by omega)
            have S2 : Hid (SortedIn lt a ((a + b) / 2) d2) := hS2
            clear hT2 hW2 hS2
            have c0 := T2.out.cell (k := w.heap.size) (o := 0) (v := .func (.func g) #[] lb) (by simp) (by omega) (by simp)
            have c1 := T2.out.cell (k := w.heap.size) (o := 1) (v := .func (.func sf) #[] sb) (by simp) (by omega) (by simp)
            by_cases cd : ((a + b) / 2) < ((a + b) / 2 + m - st) ∧ ((a + b) / 2 + m - st) < b
            · have hl := HI.out ((a + b) / 2) ((a + b) / 2 + m - st) b d2 w2 (by omega) cd.1 cd.2 (by omega) hI2 (HH.out.s3.of_eq (fun x h h' => P2.out.2.1 x (by omega))) (HH.out.s4.of_eq (fun x h h' => P2.out.2.1 x (by omega)))
              rw [show ((((a + b) / 2 + m - st) : Nat) : Int) = ((a : Int) + b) / 2 + m - st by omega, show ((((a + b) / 2) : Nat) : Int) = ((a : Int) + b) / 2 by omega] at hl
              go_wp2_with (go_at_fn (ρ.f 30); refine held_ ?_)
              all_goals
                unfold Held_
                refine hl.mono ?_
                rintro e w3 ⟨rfl, d3, hI3, hW3, hS3, hT3⟩
                go_wp2
                all_goals
                  first | go_end0 | ((try simp only [Exit.inBlock, Exit.then]); refine bodyPost_ret (results_none rfl _ _ _) rfl ?_)
                  exact ⟨rfl, d3, hI3, W2.out.trans hW3 (Nat.le_refl _) (by omega) (Nat.le_refl _) (Nat.le_refl _), halves_done HH.out (by omega) (by omega) (by have := S.size _ _ hI1; omega) P2.out S2.out (hW3 ((a + b) / 2) b (Nat.le_refl _) (Nat.le_refl _) (by omega)) hS3, (Turn.alloc _ _ _).trans (T2.out.trans hT3)⟩
            · obtain ⟨w3, d3, hw3, hI3, hW3, hS3, hT3⟩ : ∃ w3 d3, w3 = w2 ∧ I d3 w3 ∧ Within N ((a + b) / 2) b d2 d3 ∧ SortedIn lt ((a + b) / 2) b d3 ∧ Turn blk w2 w3 := ⟨w2, d2, rfl, hI2, Within.refl _ _ _ _, (by
                  rcases Nat.lt_or_ge ((a + b) / 2) ((a + b) / 2 + m - st) with h | h
                  · have e : ((a + b) / 2 + m - st) = b := by omega
                    have := (HH.out.s3.of_eq (fun x h h' => P2.out.2.1 x (by omega)))
                    rw [e] at this; exact this
                  · have e : ((a + b) / 2 + m - st) = ((a + b) / 2) := by omega
                    have := (HH.out.s4.of_eq (fun x h h' => P2.out.2.1 x (by omega)))
                    rw [e] at this; exact this), Turn.refl _ _⟩
              subst hw3
              go_wp2
              all_goals
                first | go_end0 | ((try simp only [Exit.inBlock, Exit.then]); refine bodyPost_ret (results_none rfl _ _ _) rfl ?_)
                exact ⟨rfl, d3, hI3, W2.out.trans hW3 (Nat.le_refl _) (by omega) (Nat.le_refl _) (Nat.le_refl _), halves_done HH.out (by omega) (by omega) (by have := S.size _ _ hI1; omega) P2.out S2.out (hW3 ((a + b) / 2) b (Nat.le_refl _) (Nat.le_refl _) (by omega)) hS3, (Turn.alloc _ _ _).trans (T2.out.trans hT3)⟩
        · obtain ⟨w2, d2, hw2, hI2, hW2, hS2, hT2⟩ : ∃ w2 d2, w2 = w1 ∧ I d2 w2 ∧ Within N a ((a + b) / 2) d1 d2 ∧ SortedIn lt a ((a + b) / 2) d2 ∧ Turn blk w1 w2 := ⟨w1, d1, rfl, hI1, Within.refl _ _ _ _, (by
              rcases Nat.lt_or_ge a st with h | h
              · have e : st = ((a + b) / 2) := by omega
                have := HH.out.s1
                rw [e] at this; exact this
              · have e : st = a := by omega
                have := HH.out.s2
                rw [e] at this; exact this), Turn.refl _ _⟩
          subst hw2
          clear c0 c1
          have T2 : Hid (Turn blk (w.alloc (.cells #[.func (.func g) #[] lb, .func (.func sf) #[] sb] (ρ.t 42))) w2) := T1.out.trans hT2
          have P2 : Hid (PermIn a ((a + b) / 2) d1 d2) := hW2 a ((a + b) / 2) (Nat.le_refl _) (Nat.le_refl _) (by omega)
          have W2 : Hid (Within N a b d d2) := W1.out.trans hW2 (Nat.le_refl _) (Nat.le_refl _) (Nat.le_refl _) (by omega)
          have S2 : Hid (SortedIn lt a ((a + b) / 2) d2) := hS2
          clear hT2 hW2 hS2
          have c0 := T2.out.cell (k := w.heap.size) (o := 0) (v := .func (.func g) #[] lb) (by simp) (by omega) (by simp)
          have c1 := T2.out.cell (k := w.heap.size) (o := 1) (v := .func (.func sf) #[] sb) (by simp) (by omega) (by simp)
          by_cases cd : ((a + b) / 2) < ((a + b) / 2 + m - st) ∧ ((a + b) / 2 + m - st) < b
          · have hl := HI.out ((a + b) / 2) ((a + b) / 2 + m - st) b d2 w2 (by omega) cd.1 cd.2 (by omega) hI2 (HH.out.s3.of_eq (fun x h h' => P2.out.2.1 x (by omega))) (HH.out.s4.of_eq (fun x h h' => P2.out.2.1 x (by omega)))
            rw [show ((((a + b) / 2 + m - st) : Nat) : Int) = ((a : Int) + b) / 2 + m - st by omega, show ((((a + b) / 2) : Nat) : Int) = ((a : Int) + b) / 2 by omega] at hl
            go_wp2_with (go_at_fn (ρ.f 30); refine held_ ?_)
            all_goals
              unfold Held_
              refine hl.mono ?_
              rintro e w3 ⟨rfl, d3, hI3, hW3, hS3, hT3⟩
              go_wp2
              all_goals
                first | go_end0 | ((try simp only [Exit.inBlock, Exit.then]); refine bodyPost_ret (results_none rfl _ _ _) rfl ?_)
                exact ⟨rfl, d3, hI3, W2.out.trans hW3 (Nat.le_refl _) (by omega) (Nat.le_refl _) (Nat.le_refl _), halves_done HH.out (by omega) (by omega) (by have := S.size _ _ hI1; omega) P2.out S2.out (hW3 ((a + b) / 2) b (Nat.le_refl _) (Nat.le_refl _) (by omega)) hS3, (Turn.alloc _ _ _).trans (T2.out.trans hT3)⟩
          · obtain ⟨w3, d3, hw3, hI3, hW3, hS3, hT3⟩ : ∃ w3 d3, w3 = w2 ∧ I d3 w3 ∧ Within N ((a + b) / 2) b d2 d3 ∧ SortedIn lt ((a + b) / 2) b d3 ∧ Turn blk w2 w3 := ⟨w2, d2, rfl, hI2, Within.refl _ _ _ _, (by
                rcases Nat.lt_or_ge ((a + b) / 2) ((a + b) / 2 + m - st) with h | h
                · have e : ((a + b) / 2 + m - st) = b := by omega
                  have := (HH.out.s3.of_eq (fun x h h' => P2.out.2.1 x (by omega)))
                  rw [e] at this; exact this
                · have e : ((a + b) / 2 + m - st) = ((a + b) / 2) := by omega
                  have := (HH.out.s4.of_eq (fun x h h' => P2.out.2.1 x (by omega)))
                  rw [e] at this; exact this), Turn.refl _ _⟩
            subst hw3
            go_wp2
            all_goals
              first | go_end0 | ((try simp only [Exit.inBlock, Exit.then]); refine bodyPost_ret (results_none rfl _ _ _) rfl ?_)
              exact ⟨rfl, d3, hI3, W2.out.trans hW3 (Nat.le_refl _) (by omega) (Nat.le_refl _) (Nat.le_refl _), halves_done HH.out (by omega) (by omega) (by have := S.size _ _ hI1; omega) P2.out S2.out (hW3 ((a + b) / 2) b (Nat.le_refl _) (Nat.le_refl _) (by omega)) hS3, (Turn.alloc _ _ _).trans (T2.out.trans hT3)⟩
set_option maxHeartbeats 4000000 in
set_option maxRecDepth 100000 in
theorem merge_more2 (L : LaysGt.n30 P ρ) {g sf : Nat} {lb sb : Array Value} {lt : α → α → Bool} {blk N : Nat} {I : Array α → World → Prop} (S : Sorts P g sf lb sb lt blk N I) (hS : SWO lt) (hN : N < 4611686018427387904) (k : Nat) (HI : Hid (∀ (a m b : Nat) (d : Array α) (w : World), b - a ≤ k → a < m → m < b → b ≤ N → I d w → SortedIn lt a m d → SortedIn lt m b d → Calls P (ρ.f 30) #[.agg #[.func (.func g) #[] lb, .func (.func sf) #[] sb], .int .i64 a, .int .i64 m, .int .i64 b] w fun e w' =>
      e = .returned (.tuple #[]) ∧ ∃ d', I d' w' ∧ Within N a b d d' ∧ SortedIn lt a b d' ∧ Turn blk w w')) (a m b : Nat) (d : Array α) (w : World) (hk : b - a ≤ k + 1) (ham : a + 1 < m) (hmb : m + 1 < b) (hb : b ≤ N) (hI : I d w) (hL : SortedIn lt a m d) (hR : SortedIn lt m b d) (hc : m ≤ ((a + b) / 2)) :
    Calls P (ρ.f 30) #[.agg #[.func (.func g) #[] lb, .func (.func sf) #[] sb], .int .i64 a, .int .i64 m, .int .i64 b] w fun e w' =>
      e = .returned (.tuple #[]) ∧ ∃ d', I d' w' ∧ Within N a b d d' ∧ SortedIn lt a b d' ∧ Turn blk w w' := by
  have mixed := L.mixed; have t0 := L.t0; have a0 := L.a0; have z0 := L.z0; have v0 := L.v0; have t3 := L.t3; have a3 := L.a3; have z3 := L.z3; have v3 := L.v3; have t4 := L.t4; have a4 := L.a4; have z4 := L.z4; have v4 := L.v4; have t26 := L.t26; have a26 := L.a26; have z26 := L.z26; have v26 := L.v26; have t38 := L.t38; have a38 := L.a38; have z38 := L.z38; have v38 := L.v38; have t42 := L.t42; have a42 := L.a42; have z42 := L.z42; have v42 := L.v42; have t47 := L.t47; have a47 := L.a47; have z47 := L.z47; have v47 := L.v47
  have u42 := run_underlying L.t42
  have hblk := S.lt_ _ _ hI
  have eg := S.eg
  have hI1 : I d (w.alloc (.cells #[.func (.func g) #[] lb, .func (.func sf) #[] sb] (ρ.t 42))) := S.below _ _ _ hI ((Below.refl _ _).alloc (Nat.le_refl _) _)
  have e30 : ∀ args w, (callFunc (ρ.f 30) args).run P w = .ok (.enter (ρ.f 30) args) w := enters_of L.f30 (by kernel_rfl) rfl
  have e42 : ∀ args w, (callFunc (ρ.f 42) args).run P w = .ok (.enter (ρ.f 42) args) w := enters_of L.f42 (by kernel_rfl) rfl
  have HL : Hid (SortedIn lt a m d) := hL
  have HR : Hid (SortedIn lt m b d) := hR
  have HC : Hid (∀ (a m b : Nat) (d : Array α) (w : World), a < m → m < b → b ≤ N → I d w → Calls P (ρ.f 42) #[.agg #[.func (.func g) #[] lb, .func (.func sf) #[] sb], .int .i64 a, .int .i64 m, .int .i64 b] w fun e w' =>
      e = .returned (.tuple #[]) ∧ ∃ d', I d' w' ∧ (∀ x, d'[x]! = rotT d a m b x) ∧ Within N a b d d' ∧ Turn blk w w') := fun a m b d w h1 h2 h3 h4 => rotate { L with } S d w h4 a m b h1 h2 h3 hN
  clear hL hR hI
  have hm1 : ((m : Int) - a == 1) = false := by simp; omega
  have hm2 : ((b : Int) - m == 1) = false := by simp; omega
  have hm3 : decide ((m : Int) > ((a : Int) + b) / 2) = false := by simp; omega
  go_enter L.f30, BodyGt.n30_ntmps ρ
  go_wp2
  go_loopw [18, 19] (fun vi vj wr => ∃ (st r : Nat), vi = .int .i64 st ∧ vj = .int .i64 r ∧ a ≤ st ∧ st ≤ r ∧ r ≤ m ∧ I d wr ∧ Hid (Turn blk (w.alloc (.cells #[.func (.func g) #[] lb, .func (.func sf) #[] sb] (ρ.t 42))) wr) ∧
      Hid (st = a ∨ ((a + b) / 2 + m - st) = b ∨ lt d[((a + b) / 2 + m - st)]! d[st - 1]! = false) ∧ Hid (r = m ∨ ((a + b) / 2) + m - r = m ∨ lt d[((a + b) / 2) + m - r - 1]! d[r]! = true)) (fun vi vj _ => (RowKit.intOf vj).toNat - (RowKit.intOf vi).toNat)
  case atStart => exact ⟨a, m, by go_num, by go_num, Nat.le_refl _, by omega, Nat.le_refl _, hI1, Turn.refl _ _, Or.inl rfl, Or.inl rfl⟩
  case round =>
    obtain ⟨st, r, rfl, rfl, hls, hsr, hrh, hIk, HT, HE1, HE2⟩ := hrel
    clear hI1
    have c0 := HT.out.cell (k := w.heap.size) (o := 0) (v := .func (.func g) #[] lb) (by simp) (by omega) (by simp)
    have c1 := HT.out.cell (k := w.heap.size) (o := 1) (v := .func (.func sf) #[] sb) (by simp) (by omega) (by simp)
    by_cases hlt : st < r
    · have hl := S.less d wr hIk (((a + b) / 2) + m - 1 - (st + r) / 2) ((st + r) / 2) (by omega) (by omega)
      rw [show ((((a + b) / 2) + m - 1 - (st + r) / 2 : Nat) : Int) = ((a : Int) + b) / 2 + m - 1 - ((st : Int) + r) / 2 by omega, show (((st + r) / 2 : Nat) : Int) = ((st : Int) + r) / 2 by omega] at hl
      cases hlv : lt d[((a + b) / 2) + m - 1 - (st + r) / 2]! d[(st + r) / 2]! with
      | true =>
        rw [hlv] at hl
        go_wp2_with (go_at_fn g; refine hl.mono ?_; rintro e w1 ⟨rfl, hB⟩)
        go_roundw
        case rel => exact ⟨st, (st + r) / 2, rfl, by go_num, hls, by omega, by omega, S.below _ _ _ hIk hB, HT.out.trans (.of_below hB), HE1, Or.inr (Or.inr (by rw [show ((a + b) / 2) + m - (st + r) / 2 - 1 = ((a + b) / 2) + m - 1 - (st + r) / 2 by omega]; exact hlv))⟩
        case measure => simp [RowKit.intOf]; omega
      | false =>
        rw [hlv] at hl
        go_wp2_with (go_at_fn g; refine hl.mono ?_; rintro e w1 ⟨rfl, hB⟩)
        go_roundw
        case rel => exact ⟨(st + r) / 2 + 1, r, by go_num, rfl, by omega, by omega, hrh, S.below _ _ _ hIk hB, HT.out.trans (.of_below hB), Or.inr (Or.inr (by rw [show ((a + b) / 2) + m - ((st + r) / 2 + 1) = ((a + b) / 2) + m - 1 - (st + r) / 2 by omega]; simpa using hlv)), HE2⟩
        case measure => simp [RowKit.intOf]; omega
    · have e : st = r := by omega
      subst e
      by_cases cr : st < m ∧ m < ((a + b) / 2 + m - st)
      · have hl := HC.out st m ((a + b) / 2 + m - st) d wr cr.1 cr.2 (by omega) hIk
        rw [show ((((a + b) / 2 + m - st) : Nat) : Int) = ((a : Int) + b) / 2 + m - st by omega] at hl
        go_wp2_with (go_at_fn (ρ.f 42); refine held_ ?_)
        all_goals
          unfold Held_
          refine hl.mono ?_
          rintro e w1 ⟨rfl, d1, hI1, hX1, hW1, hT1⟩
          have T1 : Hid (Turn blk (w.alloc (.cells #[.func (.func g) #[] lb, .func (.func sf) #[] sb] (ρ.t 42))) w1) := HT.out.trans hT1
          clear c0 c1 hl
          have HH : Hid (Halves lt d1 a st ((a + b) / 2) ((a + b) / 2 + m - st) b) := halves hS HL.out HR.out (by omega) (by omega) (by omega) (by omega) (by omega) (HE1.out) (HE2.out) hX1
          have W1 : Hid (Within N a b d d1) := hW1.mono (by omega) (by omega)
          clear hX1 hW1 hT1
          have c0 := T1.out.cell (k := w.heap.size) (o := 0) (v := .func (.func g) #[] lb) (by simp) (by omega) (by simp)
          have c1 := T1.out.cell (k := w.heap.size) (o := 1) (v := .func (.func sf) #[] sb) (by simp) (by omega) (by simp)
          by_cases cl : a < st ∧ st < ((a + b) / 2)
          · have hl := HI.out a st ((a + b) / 2) d1 w1 (by omega) cl.1 cl.2 (by omega) hI1 HH.out.s1 HH.out.s2
            rw [show ((((a + b) / 2) : Nat) : Int) = ((a : Int) + b) / 2 by omega] at hl
            go_wp2_with (go_at_fn (ρ.f 30); refine held_ ?_)
            all_goals
              unfold Held_
              refine hl.mono ?_
              rintro e w2 ⟨rfl, d2, hI2, hW2, hS2, hT2⟩
              clear hl
              clear c0 c1
              have T2 : Hid (Turn blk (w.alloc (.cells #[.func (.func g) #[] lb, .func (.func sf) #[] sb] (ρ.t 42))) w2) := T1.out.trans hT2
              have P2 : Hid (PermIn a ((a + b) / 2) d1 d2) := hW2 a ((a + b) / 2) (Nat.le_refl _) (Nat.le_refl _) (by omega)
              have W2 : Hid (Within N a b d d2) := W1.out.trans hW2 (Nat.le_refl _) (Nat.le_refl _) (Nat.le_refl _) (by omega)
              have S2 : Hid (SortedIn lt a ((a + b) / 2) d2) := hS2
              clear hT2 hW2 hS2
              have c0 := T2.out.cell (k := w.heap.size) (o := 0) (v := .func (.func g) #[] lb) (by simp) (by omega) (by simp)
              have c1 := T2.out.cell (k := w.heap.size) (o := 1) (v := .func (.func sf) #[] sb) (by simp) (by omega) (by simp)
              by_cases cd : ((a + b) / 2) < ((a + b) / 2 + m - st) ∧ ((a + b) / 2 + m - st) < b
              · have hl := HI.out ((a + b) / 2) ((a + b) / 2 + m - st) b d2 w2 (by omega) cd.1 cd.2 (by omega) hI2 (HH.out.s3.of_eq (fun x h h' => P2.out.2.1 x (by omega))) (HH.out.s4.of_eq (fun x h h' => P2.out.2.1 x (by omega)))
                rw [show ((((a + b) / 2 + m - st) : Nat) : Int) = ((a : Int) + b) / 2 + m - st by omega, show ((((a + b) / 2) : Nat) : Int) = ((a : Int) + b) / 2 by omega] at hl
                go_wp2_with (go_at_fn (ρ.f 30); refine held_ ?_)
                all_goals
                  unfold Held_
                  refine hl.mono ?_
                  rintro e w3 ⟨rfl, d3, hI3, hW3, hS3, hT3⟩
                  go_wp2
                  all_goals
                    first | go_end0 | ((try simp only [Exit.inBlock, Exit.then]); refine bodyPost_ret (results_none rfl _ _ _) rfl ?_)
                    exact ⟨rfl, d3, hI3, W2.out.trans hW3 (Nat.le_refl _) (by omega) (Nat.le_refl _) (Nat.le_refl _), halves_done HH.out (by omega) (by omega) (by have := S.size _ _ hI1; omega) P2.out S2.out (hW3 ((a + b) / 2) b (Nat.le_refl _) (Nat.le_refl _) (by omega)) hS3, (Turn.alloc _ _ _).trans (T2.out.trans hT3)⟩
              · obtain ⟨w3, d3, hw3, hI3, hW3, hS3, hT3⟩ : ∃ w3 d3, w3 = w2 ∧ I d3 w3 ∧ Within N ((a + b) / 2) b d2 d3 ∧ SortedIn lt ((a + b) / 2) b d3 ∧ Turn blk w2 w3 := ⟨w2, d2, rfl, hI2, Within.refl _ _ _ _, (by
                    rcases Nat.lt_or_ge ((a + b) / 2) ((a + b) / 2 + m - st) with h | h
                    · have e : ((a + b) / 2 + m - st) = b := by omega
                      have := (HH.out.s3.of_eq (fun x h h' => P2.out.2.1 x (by omega)))
                      rw [e] at this; exact this
                    · have e : ((a + b) / 2 + m - st) = ((a + b) / 2) := by omega
                      have := (HH.out.s4.of_eq (fun x h h' => P2.out.2.1 x (by omega)))
                      rw [e] at this; exact this), Turn.refl _ _⟩
                subst hw3
                go_wp2
                all_goals
                  first | go_end0 | ((try simp only [Exit.inBlock, Exit.then]); refine bodyPost_ret (results_none rfl _ _ _) rfl ?_)
                  exact ⟨rfl, d3, hI3, W2.out.trans hW3 (Nat.le_refl _) (by omega) (Nat.le_refl _) (Nat.le_refl _), halves_done HH.out (by omega) (by omega) (by have := S.size _ _ hI1; omega) P2.out S2.out (hW3 ((a + b) / 2) b (Nat.le_refl _) (Nat.le_refl _) (by omega)) hS3, (Turn.alloc _ _ _).trans (T2.out.trans hT3)⟩
          · obtain ⟨w2, d2, hw2, hI2, hW2, hS2, hT2⟩ : ∃ w2 d2, w2 = w1 ∧ I d2 w2 ∧ Within N a ((a + b) / 2) d1 d2 ∧ SortedIn lt a ((a + b) / 2) d2 ∧ Turn blk w1 w2 := ⟨w1, d1, rfl, hI1, Within.refl _ _ _ _, (by
                rcases Nat.lt_or_ge a st with h | h
                · have e : st = ((a + b) / 2) := by omega
                  have := HH.out.s1
                  rw [e] at this; exact this
                · have e : st = a := by omega
                  have := HH.out.s2
                  rw [e] at this; exact this), Turn.refl _ _⟩
            subst hw2
            clear c0 c1
            have T2 : Hid (Turn blk (w.alloc (.cells #[.func (.func g) #[] lb, .func (.func sf) #[] sb] (ρ.t 42))) w2) := T1.out.trans hT2
            have P2 : Hid (PermIn a ((a + b) / 2) d1 d2) := hW2 a ((a + b) / 2) (Nat.le_refl _) (Nat.le_refl _) (by omega)
            have W2 : Hid (Within N a b d d2) := W1.out.trans hW2 (Nat.le_refl _) (Nat.le_refl _) (Nat.le_refl _) (by omega)
            have S2 : Hid (SortedIn lt a ((a + b) / 2) d2) := hS2
            clear hT2 hW2 hS2
            have c0 := T2.out.cell (k := w.heap.size) (o := 0) (v := .func (.func g) #[] lb) (by simp) (by omega) (by simp)
            have c1 := T2.out.cell (k := w.heap.size) (o := 1) (v := .func (.func sf) #[] sb) (by simp) (by omega) (by simp)
            by_cases cd : ((a + b) / 2) < ((a + b) / 2 + m - st) ∧ ((a + b) / 2 + m - st) < b
            · have hl := HI.out ((a + b) / 2) ((a + b) / 2 + m - st) b d2 w2 (by omega) cd.1 cd.2 (by omega) hI2 (HH.out.s3.of_eq (fun x h h' => P2.out.2.1 x (by omega))) (HH.out.s4.of_eq (fun x h h' => P2.out.2.1 x (by omega)))
              rw [show ((((a + b) / 2 + m - st) : Nat) : Int) = ((a : Int) + b) / 2 + m - st by omega, show ((((a + b) / 2) : Nat) : Int) = ((a : Int) + b) / 2 by omega] at hl
              go_wp2_with (go_at_fn (ρ.f 30); refine held_ ?_)
              all_goals
                unfold Held_
                refine hl.mono ?_
                rintro e w3 ⟨rfl, d3, hI3, hW3, hS3, hT3⟩
                go_wp2
                all_goals
                  first | go_end0 | ((try simp only [Exit.inBlock, Exit.then]); refine bodyPost_ret (results_none rfl _ _ _) rfl ?_)
                  exact ⟨rfl, d3, hI3, W2.out.trans hW3 (Nat.le_refl _) (by omega) (Nat.le_refl _) (Nat.le_refl _), halves_done HH.out (by omega) (by omega) (by have := S.size _ _ hI1; omega) P2.out S2.out (hW3 ((a + b) / 2) b (Nat.le_refl _) (Nat.le_refl _) (by omega)) hS3, (Turn.alloc _ _ _).trans (T2.out.trans hT3)⟩
            · obtain ⟨w3, d3, hw3, hI3, hW3, hS3, hT3⟩ : ∃ w3 d3, w3 = w2 ∧ I d3 w3 ∧ Within N ((a + b) / 2) b d2 d3 ∧ SortedIn lt ((a + b) / 2) b d3 ∧ Turn blk w2 w3 := ⟨w2, d2, rfl, hI2, Within.refl _ _ _ _, (by
                  rcases Nat.lt_or_ge ((a + b) / 2) ((a + b) / 2 + m - st) with h | h
                  · have e : ((a + b) / 2 + m - st) = b := by omega
                    have := (HH.out.s3.of_eq (fun x h h' => P2.out.2.1 x (by omega)))
                    rw [e] at this; exact this
                  · have e : ((a + b) / 2 + m - st) = ((a + b) / 2) := by omega
                    have := (HH.out.s4.of_eq (fun x h h' => P2.out.2.1 x (by omega)))
                    rw [e] at this; exact this), Turn.refl _ _⟩
              subst hw3
              go_wp2
              all_goals
                first | go_end0 | ((try simp only [Exit.inBlock, Exit.then]); refine bodyPost_ret (results_none rfl _ _ _) rfl ?_)
                exact ⟨rfl, d3, hI3, W2.out.trans hW3 (Nat.le_refl _) (by omega) (Nat.le_refl _) (Nat.le_refl _), halves_done HH.out (by omega) (by omega) (by have := S.size _ _ hI1; omega) P2.out S2.out (hW3 ((a + b) / 2) b (Nat.le_refl _) (Nat.le_refl _) (by omega)) hS3, (Turn.alloc _ _ _).trans (T2.out.trans hT3)⟩
      · obtain ⟨w1, d1, hw1, hI1, hX1, hW1, hT1⟩ : ∃ w1 d1, w1 = wr ∧ I d1 w1 ∧ (∀ x, d1[x]! = rotT d st m ((a + b) / 2 + m - st) x) ∧ Within N st ((a + b) / 2 + m - st) d d1 ∧ Turn blk wr w1 := ⟨wr, d, rfl, hIk, rotT_none (by omega) (by omega) (by omega), Within.refl _ _ _ _, Turn.refl _ _⟩
        clear c0 c1 hIk
        subst hw1
        have T1 : Hid (Turn blk (w.alloc (.cells #[.func (.func g) #[] lb, .func (.func sf) #[] sb] (ρ.t 42))) w1) := HT.out.trans hT1
        have HH : Hid (Halves lt d1 a st ((a + b) / 2) ((a + b) / 2 + m - st) b) := halves hS HL.out HR.out (by omega) (by omega) (by omega) (by omega) (by omega) (HE1.out) (HE2.out) hX1
        have W1 : Hid (Within N a b d d1) := hW1.mono (by omega) (by omega)
        clear hX1 hW1 hT1
        have c0 := T1.out.cell (k := w.heap.size) (o := 0) (v := .func (.func g) #[] lb) (by simp) (by omega) (by simp)
        have c1 := T1.out.cell (k := w.heap.size) (o := 1) (v := .func (.func sf) #[] sb) (by simp) (by omega) (by simp)
        by_cases cl : a < st ∧ st < ((a + b) / 2)
        · have hl := HI.out a st ((a + b) / 2) d1 w1 (by omega) cl.1 cl.2 (by omega) hI1 HH.out.s1 HH.out.s2
          rw [show ((((a + b) / 2) : Nat) : Int) = ((a : Int) + b) / 2 by omega] at hl
          go_wp2_with (go_at_fn (ρ.f 30); refine held_ ?_)
          all_goals
            unfold Held_
            refine hl.mono ?_
            rintro e w2 ⟨rfl, d2, hI2, hW2, hS2, hT2⟩
            clear hl
            clear c0 c1
            have T2 : Hid (Turn blk (w.alloc (.cells #[.func (.func g) #[] lb, .func (.func sf) #[] sb] (ρ.t 42))) w2) := T1.out.trans hT2
            have P2 : Hid (PermIn a ((a + b) / 2) d1 d2) := hW2 a ((a + b) / 2) (Nat.le_refl _) (Nat.le_refl _) (by omega)
            have W2 : Hid (Within N a b d d2) := W1.out.trans hW2 (Nat.le_refl _) (Nat.le_refl _) (Nat.le_refl _) (by omega)
            have S2 : Hid (SortedIn lt a ((a + b) / 2) d2) := hS2
            clear hT2 hW2 hS2
            have c0 := T2.out.cell (k := w.heap.size) (o := 0) (v := .func (.func g) #[] lb) (by simp) (by omega) (by simp)
            have c1 := T2.out.cell (k := w.heap.size) (o := 1) (v := .func (.func sf) #[] sb) (by simp) (by omega) (by simp)
            by_cases cd : ((a + b) / 2) < ((a + b) / 2 + m - st) ∧ ((a + b) / 2 + m - st) < b
            · have hl := HI.out ((a + b) / 2) ((a + b) / 2 + m - st) b d2 w2 (by omega) cd.1 cd.2 (by omega) hI2 (HH.out.s3.of_eq (fun x h h' => P2.out.2.1 x (by omega))) (HH.out.s4.of_eq (fun x h h' => P2.out.2.1 x (by omega)))
              rw [show ((((a + b) / 2 + m - st) : Nat) : Int) = ((a : Int) + b) / 2 + m - st by omega, show ((((a + b) / 2) : Nat) : Int) = ((a : Int) + b) / 2 by omega] at hl
              go_wp2_with (go_at_fn (ρ.f 30); refine held_ ?_)
              all_goals
                unfold Held_
                refine hl.mono ?_
                rintro e w3 ⟨rfl, d3, hI3, hW3, hS3, hT3⟩
                go_wp2
                all_goals
                  first | go_end0 | ((try simp only [Exit.inBlock, Exit.then]); refine bodyPost_ret (results_none rfl _ _ _) rfl ?_)
                  exact ⟨rfl, d3, hI3, W2.out.trans hW3 (Nat.le_refl _) (by omega) (Nat.le_refl _) (Nat.le_refl _), halves_done HH.out (by omega) (by omega) (by have := S.size _ _ hI1; omega) P2.out S2.out (hW3 ((a + b) / 2) b (Nat.le_refl _) (Nat.le_refl _) (by omega)) hS3, (Turn.alloc _ _ _).trans (T2.out.trans hT3)⟩
            · obtain ⟨w3, d3, hw3, hI3, hW3, hS3, hT3⟩ : ∃ w3 d3, w3 = w2 ∧ I d3 w3 ∧ Within N ((a + b) / 2) b d2 d3 ∧ SortedIn lt ((a + b) / 2) b d3 ∧ Turn blk w2 w3 := ⟨w2, d2, rfl, hI2, Within.refl _ _ _ _, (by
                  rcases Nat.lt_or_ge ((a + b) / 2) ((a + b) / 2 + m - st) with h | h
                  · have e : ((a + b) / 2 + m - st) = b := by omega
                    have := (HH.out.s3.of_eq (fun x h h' => P2.out.2.1 x (by omega)))
                    rw [e] at this; exact this
                  · have e : ((a + b) / 2 + m - st) = ((a + b) / 2) := by omega
                    have := (HH.out.s4.of_eq (fun x h h' => P2.out.2.1 x (by omega)))
                    rw [e] at this; exact this), Turn.refl _ _⟩
              subst hw3
              go_wp2
              all_goals
                first | go_end0 | ((try simp only [Exit.inBlock, Exit.then]); refine bodyPost_ret (results_none rfl _ _ _) rfl ?_)
                exact ⟨rfl, d3, hI3, W2.out.trans hW3 (Nat.le_refl _) (by omega) (Nat.le_refl _) (Nat.le_refl _), halves_done HH.out (by omega) (by omega) (by have := S.size _ _ hI1; omega) P2.out S2.out (hW3 ((a + b) / 2) b (Nat.le_refl _) (Nat.le_refl _) (by omega)) hS3, (Turn.alloc _ _ _).trans (T2.out.trans hT3)⟩
        · obtain ⟨w2, d2, hw2, hI2, hW2, hS2, hT2⟩ : ∃ w2 d2, w2 = w1 ∧ I d2 w2 ∧ Within N a ((a + b) / 2) d1 d2 ∧ SortedIn lt a ((a + b) / 2) d2 ∧ Turn blk w1 w2 := ⟨w1, d1, rfl, hI1, Within.refl _ _ _ _, (by
              rcases Nat.lt_or_ge a st with h | h
              · have e : st = ((a + b) / 2) := by omega
                have := HH.out.s1
                rw [e] at this; exact this
              · have e : st = a := by omega
                have := HH.out.s2
                rw [e] at this; exact this), Turn.refl _ _⟩
          subst hw2
          clear c0 c1
          have T2 : Hid (Turn blk (w.alloc (.cells #[.func (.func g) #[] lb, .func (.func sf) #[] sb] (ρ.t 42))) w2) := T1.out.trans hT2
          have P2 : Hid (PermIn a ((a + b) / 2) d1 d2) := hW2 a ((a + b) / 2) (Nat.le_refl _) (Nat.le_refl _) (by omega)
          have W2 : Hid (Within N a b d d2) := W1.out.trans hW2 (Nat.le_refl _) (Nat.le_refl _) (Nat.le_refl _) (by omega)
          have S2 : Hid (SortedIn lt a ((a + b) / 2) d2) := hS2
          clear hT2 hW2 hS2
          have c0 := T2.out.cell (k := w.heap.size) (o := 0) (v := .func (.func g) #[] lb) (by simp) (by omega) (by simp)
          have c1 := T2.out.cell (k := w.heap.size) (o := 1) (v := .func (.func sf) #[] sb) (by simp) (by omega) (by simp)
          by_cases cd : ((a + b) / 2) < ((a + b) / 2 + m - st) ∧ ((a + b) / 2 + m - st) < b
          · have hl := HI.out ((a + b) / 2) ((a + b) / 2 + m - st) b d2 w2 (by omega) cd.1 cd.2 (by omega) hI2 (HH.out.s3.of_eq (fun x h h' => P2.out.2.1 x (by omega))) (HH.out.s4.of_eq (fun x h h' => P2.out.2.1 x (by omega)))
            rw [show ((((a + b) / 2 + m - st) : Nat) : Int) = ((a : Int) + b) / 2 + m - st by omega, show ((((a + b) / 2) : Nat) : Int) = ((a : Int) + b) / 2 by omega] at hl
            go_wp2_with (go_at_fn (ρ.f 30); refine held_ ?_)
            all_goals
              unfold Held_
              refine hl.mono ?_
              rintro e w3 ⟨rfl, d3, hI3, hW3, hS3, hT3⟩
              go_wp2
              all_goals
                first | go_end0 | ((try simp only [Exit.inBlock, Exit.then]); refine bodyPost_ret (results_none rfl _ _ _) rfl ?_)
                exact ⟨rfl, d3, hI3, W2.out.trans hW3 (Nat.le_refl _) (by omega) (Nat.le_refl _) (Nat.le_refl _), halves_done HH.out (by omega) (by omega) (by have := S.size _ _ hI1; omega) P2.out S2.out (hW3 ((a + b) / 2) b (Nat.le_refl _) (Nat.le_refl _) (by omega)) hS3, (Turn.alloc _ _ _).trans (T2.out.trans hT3)⟩
          · obtain ⟨w3, d3, hw3, hI3, hW3, hS3, hT3⟩ : ∃ w3 d3, w3 = w2 ∧ I d3 w3 ∧ Within N ((a + b) / 2) b d2 d3 ∧ SortedIn lt ((a + b) / 2) b d3 ∧ Turn blk w2 w3 := ⟨w2, d2, rfl, hI2, Within.refl _ _ _ _, (by
                rcases Nat.lt_or_ge ((a + b) / 2) ((a + b) / 2 + m - st) with h | h
                · have e : ((a + b) / 2 + m - st) = b := by omega
                  have := (HH.out.s3.of_eq (fun x h h' => P2.out.2.1 x (by omega)))
                  rw [e] at this; exact this
                · have e : ((a + b) / 2 + m - st) = ((a + b) / 2) := by omega
                  have := (HH.out.s4.of_eq (fun x h h' => P2.out.2.1 x (by omega)))
                  rw [e] at this; exact this), Turn.refl _ _⟩
            subst hw3
            go_wp2
            all_goals
              first | go_end0 | ((try simp only [Exit.inBlock, Exit.then]); refine bodyPost_ret (results_none rfl _ _ _) rfl ?_)
              exact ⟨rfl, d3, hI3, W2.out.trans hW3 (Nat.le_refl _) (by omega) (Nat.le_refl _) (Nat.le_refl _), halves_done HH.out (by omega) (by omega) (by have := S.size _ _ hI1; omega) P2.out S2.out (hW3 ((a + b) / 2) b (Nat.le_refl _) (Nat.le_refl _) (by omega)) hS3, (Turn.alloc _ _ _).trans (T2.out.trans hT3)⟩
set_option maxHeartbeats 4000000 in
set_option maxRecDepth 100000 in
theorem symMerge (L : LaysGt.n30 P ρ) {g sf : Nat} {lb sb : Array Value} {lt : α → α → Bool} {blk N : Nat} {I : Array α → World → Prop} (S : Sorts P g sf lb sb lt blk N I) (hS : SWO lt) (hN : N < 4611686018427387904) : ∀ (k : Nat), ∀ (a m b : Nat) (d : Array α) (w : World), b - a ≤ k → a < m → m < b → b ≤ N → I d w → SortedIn lt a m d → SortedIn lt m b d → Calls P (ρ.f 30) #[.agg #[.func (.func g) #[] lb, .func (.func sf) #[] sb], .int .i64 a, .int .i64 m, .int .i64 b] w fun e w' =>
      e = .returned (.tuple #[]) ∧ ∃ d', I d' w' ∧ Within N a b d d' ∧ SortedIn lt a b d' ∧ Turn blk w w' := by
  intro k
  induction k with
  | zero => intro a m b d w hk ham hmb; omega
  | succ k IH =>
    intro a m b d w hk ham hmb hb hI hL hR
    by_cases c1 : a + 1 = m
    · exact merge_left L S hS d w hI a m b c1 hmb hb hN hR
    · by_cases c2 : m + 1 = b
      · exact merge_right L S hS d w hI a m b (by omega) c2 hb hN hL
      · rcases Nat.lt_or_ge ((a + b) / 2) m with h | h
        · exact merge_more1 L S hS hN k IH a m b d w hk (by omega) (by omega) hb hI hL hR h
        · exact merge_more2 L S hS hN k IH a m b d w hk (by omega) (by omega) hb hI hL hR h
end Go.Srt
namespace Go.Srt
open Go.Shelf Go.RowKit Go.Lib Go.Sort Go.Proofs Go.SymP
set_option linter.unusedVariables false
set_option linter.unusedSimpArgs false
variable {P : Program} {ρ : Ren} {α : Type} [Inhabited α]
def Pre (lt : α → α → Bool) (bs N A : Nat) (d : Array α) : Prop := ∃ q, A = q * (2 * bs) ∧ (∀ p, p < q → SortedIn lt (p * (2 * bs)) ((p + 1) * (2 * bs)) d) ∧ (∀ p, 2 * q ≤ p → SortedIn lt (p * bs) (min ((p + 1) * bs) N) d)
section
variable {lt : α → α → Bool} {bs N A : Nat} {d d' : Array α}
theorem two_q (q bs : Nat) : 2 * q * bs = q * (2 * bs) := by rw [Nat.mul_comm 2 q, Nat.mul_assoc]
theorem two_q1 (q bs : Nat) : (2 * q + 1) * bs = q * (2 * bs) + bs := by rw [Nat.add_mul, two_q, Nat.one_mul]
theorem two_q2 (q bs : Nat) : (2 * q + 1 + 1) * bs = q * (2 * bs) + 2 * bs := by rw [Nat.add_mul, two_q1, Nat.one_mul]; omega
theorem Pre.start (h : Blocks lt bs N d) : Pre lt bs N 0 d := ⟨0, by simp, fun p hp => by omega, fun p _ => h p⟩
theorem Pre.left (h : Pre lt bs N A d) (h1 : A + bs ≤ N) : SortedIn lt A (A + bs) d := by
  obtain ⟨q, rfl, _, h3⟩ := h
  have := h3 (2 * q) (Nat.le_refl _)
  rw [two_q, two_q1, Nat.min_eq_left h1] at this
  exact this
theorem Pre.tail (h : Pre lt bs N A d) (h1 : N ≤ A + bs) : SortedIn lt A N d := by
  obtain ⟨q, rfl, _, h3⟩ := h
  have := h3 (2 * q) (Nat.le_refl _)
  rw [two_q, two_q1, Nat.min_eq_right h1] at this
  exact this
theorem Pre.right (h : Pre lt bs N A d) : SortedIn lt (A + bs) (min (A + 2 * bs) N) d := by
  obtain ⟨q, rfl, _, h3⟩ := h
  have := h3 (2 * q + 1) (Nat.le_succ _)
  rw [two_q1, two_q2] at this
  exact this
theorem Pre.next (h : Pre lt bs N A d) (hp : PermIn A (A + 2 * bs) d d') (hs : SortedIn lt A (A + 2 * bs) d') : Pre lt bs N (A + 2 * bs) d' := by
  obtain ⟨q, rfl, h2, h3⟩ := h
  refine ⟨q + 1, by rw [Nat.add_mul, Nat.one_mul], fun p hp' => ?_, fun p hp' => ?_⟩
  · by_cases e : p = q
    · subst e
      rw [show (p + 1) * (2 * bs) = p * (2 * bs) + 2 * bs by rw [Nat.add_mul, Nat.one_mul]]
      exact hs
    · have hle : (p + 1) * (2 * bs) ≤ q * (2 * bs) := Nat.mul_le_mul_right _ (by omega)
      exact (h2 p (by omega)).of_eq (fun x hx hx' => hp.2.1 x (by omega))
  · have hle : (2 * (q + 1)) * bs ≤ p * bs := Nat.mul_le_mul_right _ hp'
    rw [two_q, Nat.add_mul, Nat.one_mul] at hle
    exact (h3 p (by omega)).of_eq (fun x hx hx' => hp.2.1 x (by omega))
theorem Pre.last (h : Pre lt bs N A d) (hA : A ≤ N) (h1 : N < A + 2 * bs) (hp : PermIn A N d d') (hs : SortedIn lt A N d') : Blocks lt (2 * bs) N d' := by
  obtain ⟨q, rfl, h2, h3⟩ := h
  intro p
  rcases Nat.lt_trichotomy p q with e | e | e
  · have hle : (p + 1) * (2 * bs) ≤ q * (2 * bs) := Nat.mul_le_mul_right _ (by omega)
    rw [Nat.min_eq_left (by omega)]
    exact (h2 p e).of_eq (fun x hx hx' => hp.2.1 x (by omega))
  · subst e
    rw [show (p + 1) * (2 * bs) = p * (2 * bs) + 2 * bs by rw [Nat.add_mul, Nat.one_mul], Nat.min_eq_right (by omega)]
    exact hs
  · have hle : (q + 1) * (2 * bs) ≤ p * (2 * bs) := Nat.mul_le_mul_right _ (by omega)
    rw [Nat.add_mul, Nat.one_mul] at hle
    intro i j hi hij hj
    have := Nat.min_le_right ((p + 1) * (2 * bs)) N
    omega
theorem blocks_done (h : Blocks lt bs N d) (hb : N ≤ bs) : SortedIn lt 0 N d := by
  have := h 0
  rw [Nat.zero_mul, Nat.zero_add, Nat.one_mul, Nat.min_eq_right hb] at this
  exact this
theorem blocks_first {q : Nat} (h : ∀ p, p < q → SortedIn lt (p * 20) (p * 20 + 20) d) (hq : q * 20 ≤ N) (hN : N < q * 20 + 20) (hp : PermIn (q * 20) N d d') (hs : SortedIn lt (q * 20) N d') : Blocks lt 20 N d' := by
  intro p
  rcases Nat.lt_trichotomy p q with e | e | e
  · rw [Nat.min_eq_left (by omega), Nat.add_mul, Nat.one_mul]
    exact (h p e).of_eq (fun x hx hx' => hp.2.1 x (by omega))
  · subst e
    rw [Nat.min_eq_right (by omega)]
    exact hs
  · intro i j hi hij hj
    have := Nat.min_le_right ((p + 1) * 20) N
    omega
theorem within_of_permIn {n a b : Nat} (h : PermIn a b d d') (hs : d.size = n) : Within n a b d d' := fun lo hi h1 h2 h3 => permIn_mono _ _ _ _ _ _ h1 h2 (by omega) h
end
set_option maxHeartbeats 4000000 in
set_option maxRecDepth 100000 in
theorem stable (L : LaysGt.n15 P ρ) {g sf : Nat} {lb sb : Array Value} {lt : α → α → Bool} {blk N : Nat} {I : Array α → World → Prop} (S : Sorts P g sf lb sb lt blk N I) (hS : SWO lt) (d : Array α) (w : World) (hI : I d w) (hN : N < 1099511627776) :
    Calls P (ρ.f 15) #[.agg #[.func (.func g) #[] lb, .func (.func sf) #[] sb], .int .i64 N] w fun e w' =>
      e = .returned (.tuple #[]) ∧ ∃ d', I d' w' ∧ PermIn 0 N d d' ∧ SortedIn lt 0 N d' ∧ Turn blk w w' := by
  have mixed := L.mixed; have t0 := L.t0; have a0 := L.a0; have z0 := L.z0; have v0 := L.v0; have t3 := L.t3; have a3 := L.a3; have z3 := L.z3; have v3 := L.v3; have t4 := L.t4; have a4 := L.a4; have z4 := L.z4; have v4 := L.v4; have t26 := L.t26; have a26 := L.a26; have z26 := L.z26; have v26 := L.v26; have t38 := L.t38; have a38 := L.a38; have z38 := L.z38; have v38 := L.v38; have t42 := L.t42; have a42 := L.a42; have z42 := L.z42; have v42 := L.v42; skip
  have u42 := run_underlying L.t42
  have hblk := S.lt_ _ _ hI
  have eg := S.eg
  have hI1 : I d (w.alloc (.cells #[.func (.func g) #[] lb, .func (.func sf) #[] sb] (ρ.t 42))) := S.below _ _ _ hI ((Below.refl _ _).alloc (Nat.le_refl _) _)
  have e30 : ∀ args w, (callFunc (ρ.f 30) args).run P w = .ok (.enter (ρ.f 30) args) w := enters_of L.f30 (by kernel_rfl) rfl
  have e29 : ∀ args w, (callFunc (ρ.f 29) args).run P w = .ok (.enter (ρ.f 29) args) w := enters_of L.f29 (by kernel_rfl) rfl
  have HC : Hid (∀ (a b : Nat) (d : Array α) (w : World), a ≤ b → b ≤ N → I d w → Calls P (ρ.f 29) #[.agg #[.func (.func g) #[] lb, .func (.func sf) #[] sb], .int .i64 a, .int .i64 b] w fun e w' =>
      e = .returned (.tuple #[]) ∧ ∃ d', I d' w' ∧ Within N a b d d' ∧ SortedIn lt a b d' ∧ Turn blk w w') := fun a b d w h1 h2 h3 => (insertion { L with } S d w h3 a b h1 h2 (by omega)).mono fun e w' h =>
    have hs := S.size _ _ h3
    have hi := insertionSort_holds hS d a b h1 (by omega)
    ⟨h.1, _, h.2.1, within_of_permIn hi.1 hs, hi.2, h.2.2⟩
  have HM : Hid (∀ (a m b : Nat) (d : Array α) (w : World), a < m → m < b → b ≤ N → I d w → SortedIn lt a m d → SortedIn lt m b d → Calls P (ρ.f 30) #[.agg #[.func (.func g) #[] lb, .func (.func sf) #[] sb], .int .i64 a, .int .i64 m, .int .i64 b] w fun e w' =>
      e = .returned (.tuple #[]) ∧ ∃ d', I d' w' ∧ Within N a b d d' ∧ SortedIn lt a b d' ∧ Turn blk w w') := fun a m b d w h1 h2 h3 h4 h5 h6 => symMerge { L with } S hS (by omega) (b - a) a m b d w (Nat.le_refl _) h1 h2 h3 h4 h5 h6
  clear hI
  go_enter L.f15, BodyGt.n15_ntmps ρ
  go_wp2
  go_loopw [5, 6] (fun va vb wr => ∃ (q : Nat) (dk : Array α), va = .int .i64 ((q * 20 : Nat) : Int) ∧ vb = .int .i64 ((q * 20 + 20 : Nat) : Int) ∧ q * 20 ≤ N ∧ I dk wr ∧ Hid (Turn blk (w.alloc (.cells #[.func (.func g) #[] lb, .func (.func sf) #[] sb] (ρ.t 42))) wr) ∧
      Hid (Within N 0 N d dk) ∧ Hid (∀ p, p < q → SortedIn lt (p * 20) (p * 20 + 20) dk)) (fun va vb _ => N + 20 - (RowKit.intOf va).toNat)
  case atStart => exact ⟨0, d, rfl, rfl, by omega, hI1, Turn.refl _ _, Within.refl _ _ _ _, fun p hp => by omega⟩
  case round =>
    obtain ⟨q, dk, rfl, rfl, hqN, hIk, HT, HW, HS⟩ := hrel
    clear hI1
    have c0 := HT.out.cell (k := w.heap.size) (o := 0) (v := .func (.func g) #[] lb) (by simp) (by omega) (by simp)
    have c1 := HT.out.cell (k := w.heap.size) (o := 1) (v := .func (.func sf) #[] sb) (by simp) (by omega) (by simp)
    by_cases hb : q * 20 + 20 ≤ N
    · have hl := HC.out (q * 20) (q * 20 + 20) dk wr (by omega) hb hIk
      go_wp2_with (go_at_fn (ρ.f 29); refine held_ ?_)
      unfold Held_
      refine hl.mono ?_
      rintro e w1 ⟨rfl, d1, hI1, hW1, hS1, hT1⟩
      have HW1 : Hid _ := hW1
      have HS1 : Hid _ := hS1
      have HT1 : Hid _ := hT1
      clear hW1 hS1 hT1 hl
      go_wp2
      go_roundw
      case rel => exact ⟨q + 1, d1, by go_num, by go_num, by omega, hI1, HT.out.trans HT1.out, HW.out.trans HW1.out (Nat.le_refl _) (by omega) (Nat.le_refl _) hb, fun p hp => by
        by_cases e : p = q
        · subst e; exact HS1.out
        · exact (HS.out p (by omega)).of_eq (fun x hx hx' => (HW1.out (q * 20) (q * 20 + 20) (Nat.le_refl _) (Nat.le_refl _) hb).2.1 x (by omega))⟩
      case measure => simp [RowKit.intOf]; omega
    · have hl := HC.out (q * 20) N dk wr hqN (Nat.le_refl _) hIk
      go_wp2_with (go_at_fn (ρ.f 29); refine held_ ?_)
      unfold Held_
      refine hl.mono ?_
      rintro e w1 ⟨rfl, d1, hI1, hW1, hS1, hT1⟩
      have HB1 : Hid (Blocks lt 20 N d1) := blocks_first HS.out hqN (by omega) (hW1 _ _ (Nat.le_refl _) (Nat.le_refl _) (Nat.le_refl _)) hS1
      have HW1 : Hid (Within N 0 N d d1) := HW.out.trans hW1 (Nat.le_refl _) (by omega) (Nat.le_refl _) (Nat.le_refl _)
      have HT1 : Hid (Turn blk (w.alloc (.cells #[.func (.func g) #[] lb, .func (.func sf) #[] sb] (ρ.t 42))) w1) := HT.out.trans hT1
      clear hW1 hS1 hT1 hl HS HW HT c0 c1
      go_wp2
      go_loopw [4, 5, 6] (fun vs va vb wr => ∃ (bs : Nat) (x y : Int) (dk : Array α), vs = .int .i64 bs ∧ va = .int .i64 x ∧ vb = .int .i64 y ∧ 20 ≤ bs ∧ bs ≤ 2 * N + 20 ∧ I dk wr ∧ Hid (Turn blk (w.alloc (.cells #[.func (.func g) #[] lb, .func (.func sf) #[] sb] (ρ.t 42))) wr) ∧ Hid (Within N 0 N d dk) ∧ Hid (Blocks lt bs N dk)) (fun vs va vb _ => 2 * N + 20 - (RowKit.intOf vs).toNat)
      case atStart => exact ⟨20, _, _, d1, rfl, rfl, rfl, Nat.le_refl _, by omega, hI1, HT1, HW1, HB1⟩
      case round =>
        clear hI1 HT1 HW1 HB1 hIk
        obtain ⟨bs, x, y, dk, rfl, rfl, rfl, hbs, hbN, hIk, HT, HW, HB⟩ := hrel
        have c0 := HT.out.cell (k := w.heap.size) (o := 0) (v := .func (.func g) #[] lb) (by simp) (by omega) (by simp)
        have c1 := HT.out.cell (k := w.heap.size) (o := 1) (v := .func (.func sf) #[] sb) (by simp) (by omega) (by simp)
        by_cases hlt : bs < N
        · go_wp2
          go_loopw [5, 6] (fun va vb wr2 => ∃ (A : Nat) (dj : Array α), va = .int .i64 A ∧ vb = .int .i64 ((A + 2 * bs : Nat) : Int) ∧ A ≤ N ∧ I dj wr2 ∧ Hid (Turn blk (w.alloc (.cells #[.func (.func g) #[] lb, .func (.func sf) #[] sb] (ρ.t 42))) wr2) ∧ Hid (Within N 0 N d dj) ∧ Hid (Pre lt bs N A dj)) (fun va vb _ => N + 1 - (RowKit.intOf va).toNat)
          case atStart => exact ⟨0, dk, rfl, by go_num, by omega, hIk, HT, HW, Pre.start HB.out⟩
          case round =>
            clear hIk HT HW HB c0 c1
            obtain ⟨A, dj, rfl, rfl, hAN, hIj, HT, HW, HP⟩ := hrel
            have c0 := HT.out.cell (k := w.heap.size) (o := 0) (v := .func (.func g) #[] lb) (by simp) (by omega) (by simp)
            have c1 := HT.out.cell (k := w.heap.size) (o := 1) (v := .func (.func sf) #[] sb) (by simp) (by omega) (by simp)
            by_cases hb2 : A + 2 * bs ≤ N
            · have hl := HM.out A (A + bs) (A + 2 * bs) dj wr (by omega) (by omega) hb2 hIj (HP.out.left (by omega)) (by have := HP.out.right; rw [Nat.min_eq_left hb2] at this; exact this)
              rw [show ((A + bs : Nat) : Int) = (A : Int) + bs by omega] at hl
              go_wp2_with (go_at_fn (ρ.f 30); refine held_ ?_)
              unfold Held_
              refine hl.mono ?_
              rintro e w2 ⟨rfl, d2, hI2, hW2, hS2, hT2⟩
              have HP2 : Hid (Pre lt bs N (A + 2 * bs) d2) := HP.out.next (hW2 _ _ (Nat.le_refl _) (Nat.le_refl _) hb2) hS2
              have HW2 : Hid (Within N 0 N d d2) := HW.out.trans hW2 (Nat.le_refl _) (by omega) (Nat.le_refl _) hb2
              have HT2 : Hid _ := HT.out.trans hT2
              clear hW2 hS2 hT2 hl
              go_wp2
              go_roundw
              case rel => exact ⟨A + 2 * bs, d2, rfl, by go_num, hb2, hI2, HT2, HW2, HP2⟩
              case measure => simp [RowKit.intOf]; omega
            · by_cases hm : A + bs < N
              · have hl := HM.out A (A + bs) N dj wr (by omega) hm (Nat.le_refl _) hIj (HP.out.left (by omega)) (by have := HP.out.right; rw [Nat.min_eq_right (by omega)] at this; exact this)
                rw [show ((A + bs : Nat) : Int) = (A : Int) + bs by omega] at hl
                go_wp2_with (go_at_fn (ρ.f 30); refine held_ ?_)
                unfold Held_
                refine hl.mono ?_
                rintro e w2 ⟨rfl, d2, hI2, hW2, hS2, hT2⟩
                have HP2 : Hid (Blocks lt (2 * bs) N d2) := HP.out.last hAN (by omega) (hW2 _ _ (Nat.le_refl _) (Nat.le_refl _) (Nat.le_refl _)) hS2
                have HW2 : Hid (Within N 0 N d d2) := HW.out.trans hW2 (Nat.le_refl _) (by omega) (Nat.le_refl _) (Nat.le_refl _)
                have HT2 : Hid _ := HT.out.trans hT2
                clear hW2 hS2 hT2 hl
                go_wp2
                go_roundw
                case rel => exact ⟨2 * bs, _, _, d2, by go_num, rfl, rfl, by omega, by omega, hI2, HT2, HW2, HP2⟩
                case measure => simp [RowKit.intOf]; omega
              · have HP2 : Hid (Blocks lt (2 * bs) N dj) := HP.out.last hAN (by omega) (permIn_refl _ _ _) (HP.out.tail (by omega))
                go_wp2
                go_roundw
                case rel => exact ⟨2 * bs, _, _, dj, by go_num, rfl, rfl, by omega, by omega, hIj, HT, HW, HP2⟩
                case measure => simp [RowKit.intOf]; omega
        · go_wp2
          first | go_end0 | ((try simp only [Exit.inBlock, Exit.then]); refine bodyPost_ret (results_none rfl _ _ _) rfl ?_)
          exact ⟨rfl, dk, hIk, HW.out 0 N (Nat.le_refl _) (Nat.le_refl _) (Nat.le_refl _), blocks_done HB.out (by omega), (Turn.alloc _ _ _).trans HT.out⟩
end Go.Srt
namespace Go.Srt
open Go.Shelf Go.RowKit Go.Lib Go.Sort Go.Proofs Go.SymP
set_option linter.unusedVariables false
set_option linter.unusedSimpArgs false
variable {P : Program} {ρ : Ren} {α : Type} [Inhabited α]
theorem Turn.setCells {b : Nat} : ∀ (vs : List Value) (o : Nat) {W X : World}, Turn b W X → Turn b W (X.setCells b o vs)
  | [], _, _, _, h => h
  | v :: vs, o, W, X, h => by
    have h1 : Turn b W (X.setCell ⟨b, o, none⟩ v) := ⟨h.os, h.tape, h.output, by simpa using h.size, fun k hk hb => by
      rw [RowKit.Below.heap_setCell _ ⟨b, o, none⟩ v k hb]; exact h.block k hk hb⟩
    exact Turn.setCells vs (o + 1) h1
theorem holdsK_below {enc : α → List Value} {k : Nat} {w W : World} {blk off : Nat} {d : Array α} (h : HoldsK enc k w blk off d) (hb : blk < w.heap.size) (hB : RowKit.Below w.heap.size w W) : HoldsK enc k W blk off d := fun j hj =>
  ⟨(hB.cell (p := ⟨blk, off + j, none⟩) hb).trans (h j hj).1, (hB.frozen (p := ⟨blk, off + j, none⟩) hb).trans (h j hj).2⟩
theorem sliceStable (L : LaysGt.n8 P ρ) (t e : TypeId) (i ie : TypeInfo) (hi : P.info? t = some i) (hd : i.desc = .slice e) (hpk : P.packed t = false) (hie : P.info? e = some ie) (ke : Nat) (hke : ∀ w, (Extern.Rtype.kind e).run P w = .ok ke w)
    (enc : α → List Value) (k : Nat) (hk : ∀ x, (enc x).length = k) (hs1 : ie.size = k) (hagg : ∀ w, (isAgg e).run P w = .ok true w) (h1 : ∀ x, ∀ v ∈ enc x, v.oneCell' = true) (lt : α → α → Bool) (hS : SWO lt) (g : Nat) (lb : Array Value)
    (eg : ∀ args w, (callFunc g args).run P w = .ok (.enter g args) w) (blk off c : Nat) (d0 : Array α) (h2 : 2 ≤ d0.size) (hsz : d0.size < 1099511627776)
    (f : Nat) (hf : P.funcs.findIdx? (·.name == "internal/reflectlite" ++ ".Swapper$" ++ toString (swapperK d0.size ie ke)) = some f)
    (gS : Bool) (hx : ∀ args W, (callFunc f args).run P W = ((Extern.ReflectliteSwapper.swap gS args).run P W).andThen fun v w' => .ok (.value v) w')
    (w : World) (J : World → Prop) (hJ : J w) (hT : ∀ W W', J W → Turn blk W W' → J W')
    (hless : ∀ (d : Array α) (W : World), HoldsK enc k W blk off d → J W → PermIn 0 d0.size d0 d → blk < W.heap.size → ∀ i j : Nat, i < d0.size → j < d0.size → Calls P g (#[.int .i64 i, .int .i64 j] ++ lb) W fun e w' => e = .returned (.bool (lt d[i]! d[j]!)) ∧ RowKit.Below W.heap.size W w')
    (hH : HoldsK enc k w blk off d0) (hblk : blk < w.heap.size) :
    Calls P (ρ.f 8) #[.iface t (.slice (some ⟨blk, off, none⟩) d0.size c), .func (.func g) #[] lb] w fun e w' =>
      e = .returned (.tuple #[]) ∧ ∃ d', HoldsK enc k w' blk off d' ∧ PermIn 0 d0.size d0 d' ∧ SortedIn lt 0 d0.size d' ∧ J w' ∧ Turn blk w w' := by
  refine Any.sort_SliceStable_of_stable L t e i ie hi hd hpk hie ke hke _ d0.size c (by omega) f hf (.func g) #[] lb w _ ?_
  have hB : sliceBound P e ie ke (some ⟨blk, off, none⟩) d0.size c = #[.slice (some ⟨blk, off, none⟩) d0.size c, typeHandle P e] := by
    unfold sliceBound; rw [if_neg (swapperK_gt _ _ _ h2)]
  have hW : RowKit.Below w.heap.size w (stableWorld P ρ t (some ⟨blk, off, none⟩) d0.size c w) := by
    unfold stableWorld
    exact ((RowKit.Below.refl _ _).alloc (Nat.le_refl _) _).alloc (by simp) _
  generalize stableWorld P ρ t (some ⟨blk, off, none⟩) d0.size c w = W0 at hW ⊢
  rw [hB]
  have hsw := swapSwapsK_of_literal gS f hx e ie hie enc k hk hs1 hagg h1 blk off d0.size c
  have S : Sorts P g f lb #[.slice (some ⟨blk, off, none⟩) d0.size c, typeHandle P e] lt blk d0.size (fun d W => HoldsK enc k W blk off d ∧ J W ∧ PermIn 0 d0.size d0 d ∧ blk < W.heap.size) := {
    size := fun d W h => h.2.2.1.1
    lt_ := fun d W h => h.2.2.2
    below := fun d W W' h hb => ⟨holdsK_below h.1 h.2.2.2 hb, hT _ _ h.2.1 (.of_below hb), h.2.2.1, Nat.lt_of_lt_of_le h.2.2.2 hb.size⟩
    eg := eg
    less := fun d W h i j hi hj => hless d W h.1 h.2.1 h.2.2.1 h.2.2.2 i j hi hj
    swap := fun d W h i j hi hj => by
      have hz := h.2.2.1.1
      refine ⟨_, hsw W d h.1 hz i j hi hj, ?_, Turn.setCells _ _ (Turn.setCells _ _ (Turn.refl _ _))⟩
      have e1 := putRowK_self enc k W blk off d h.1
      have e2 := putRowK_swp enc k hk W blk off d i j (by omega) (by omega)
      rw [e1] at e2
      refine ⟨?_, hT _ _ h.2.1 (Turn.setCells _ _ (Turn.setCells _ _ (Turn.refl _ _))), permIn_trans _ _ _ _ _ h.2.2.1 (swp_permIn _ _ _ _ _ (by omega) hi (by omega) hj (by omega)), ?_⟩
      · rw [e2]
        exact holdsK_putRowK enc k W blk off d (swp d i j) h.1 (size_swp _ _ _)
      · exact Nat.lt_of_lt_of_le h.2.2.2 (Turn.setCells (b := blk) (enc d[i]!) (off + j * k) (Turn.setCells (b := blk) (enc d[j]!) (off + i * k) (Turn.refl blk W))).size }
  have hI : HoldsK enc k W0 blk off d0 ∧ J W0 ∧ PermIn 0 d0.size d0 d0 ∧ blk < W0.heap.size := ⟨holdsK_below hH hblk hW, hT _ _ hJ (.of_below hW), permIn_refl _ _ _, Nat.lt_of_lt_of_le hblk hW.size⟩
  refine (stable (P := P) (ρ := ρ) { L with } S hS d0 W0 hI hsz).mono ?_
  rintro e w' ⟨rfl, d', hI', _, hs, ht⟩
  exact ⟨rfl, d', hI'.1, hI'.2.2.1, hs, hI'.2.1, (Turn.of_below hW).trans ht⟩
#print axioms sliceStable
end Go.Srt
