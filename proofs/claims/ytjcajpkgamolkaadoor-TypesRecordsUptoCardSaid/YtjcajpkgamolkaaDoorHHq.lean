/- HH, as this claim needs it. -/
import Derived.Test.YtjcajpkgamolkaaDoorHAq
import Derived.Test.YtjcajpkgamolkaaDoorHFq
import Derived.Test.YtjcajpkgamolkaaDoorHSq
import Derived.Test.YtjcajpkgamolkaaDoorHGq
namespace Go.Proofs.YtjcajpkgamolkaaDoor.Ty
open Go.RowKit Go.Proofs.YtjcajpkgamolkaaDoor.PTyp
set_option linter.unusedVariables false
set_option linter.unusedSimpArgs false
theorem insS_perm : ∀ (l : List Sl) (t : Sl), (insS l t).Perm (t :: l)
  | [], t => List.Perm.refl _
  | a :: r, t => by
    rw [insS]
    split
    · exact (List.Perm.cons a (insS_perm r t)).trans (List.Perm.swap t a r)
    · exact List.Perm.refl _
theorem twice_iff : ∀ l : List Sl, twice l = false ↔ (l.map (·.1)).Nodup
  | [] => by simp [twice]
  | a :: r => by
    rw [twice, Bool.or_eq_false_iff, twice_iff r, List.map_cons, List.nodup_cons]
    refine and_congr ?_ Iff.rfl
    rw [List.any_eq_false, List.mem_map]
    constructor
    · rintro h ⟨b, hb, e⟩
      exact h b hb (by rw [e]; simp)
    · intro h b hb e
      exact h ⟨b, hb, toList_inj (by simpa using e)⟩
theorem rises_of : ∀ {s : List Sl}, s.Pairwise (fun a b => ¬ cmpB b.1 a.1 < 0) → (∀ i (h : i + 1 < s.length), s[i].1 ≠ s[i + 1].1) → RisesS s
  | [], _, _ => List.Pairwise.nil
  | [a], _, _ => by simp [RisesS]
  | a :: b :: r, hs, hn => by
    obtain ⟨h1, h2⟩ := List.pairwise_cons.1 hs
    have ih : RisesS (b :: r) := rises_of h2 (fun i h => by have := hn (i + 1) (by simp at h ⊢; omega); simpa using this)
    have hab : cmpB a.1 b.1 < 0 := by
      have q1 := h1 b (by simp)
      have q2 := hn 0 (by simp)
      have q3 : cmpB a.1 b.1 ≠ 0 := fun e => q2 (cmpB_eq e)
      have := (cmpB_sk a.1 b.1).1
      omega
    refine List.pairwise_cons.2 ⟨fun x hx => ?_, ih⟩
    rcases List.mem_cons.1 hx with rfl | hx
    · exact hab
    · exact (cmpB_tr a.1 b.1 x.1).2.1 hab (by have := (List.pairwise_cons.1 ih).1 x hx; omega)
theorem rises_nodup {s : List Sl} (h : RisesS s) : (s.map (·.1)).Nodup := by
  rw [List.nodup_iff_pairwise_ne, List.pairwise_map]
  refine List.Pairwise.imp ?_ h
  intro a b hab e
  rw [e, cmpB_self] at hab
  omega
theorem foldl_mem : ∀ (m l : List Sl) (x : Sl), x ∈ m.foldl insS l ↔ x ∈ m ∨ x ∈ l
  | [], l, x => by simp
  | t :: m, l, x => by
    rw [List.foldl_cons, foldl_mem m, insS_mem, List.mem_cons]
    constructor
    · rintro (h | h | h) <;> simp [h]
    · rintro ((h | h) | h) <;> simp [h]
theorem foldl_rises : ∀ (m : List Sl) {l : List Sl}, RisesS l → ((m ++ l).map (·.1)).Nodup → RisesS (m.foldl insS l)
  | [], l, h, _ => h
  | t :: m, l, h, hn => by
    rw [List.foldl_cons]
    rw [List.cons_append, List.map_cons, List.nodup_cons] at hn
    refine foldl_rises m (insS_rises t h fun x hx e => hn.1 ?_) ?_
    · rw [← e]; exact List.mem_map_of_mem (List.mem_append.2 (Or.inr hx))
    · have hp : ((m ++ insS l t).map (·.1)).Perm ((t :: (m ++ l)).map (·.1)) := by
        refine List.Perm.map _ ?_
        have : (insS l t).Perm (t :: l) := insS_perm l t
        exact (List.Perm.append_left m this).trans List.perm_middle
      exact hp.nodup_iff.2 (by rw [List.map_cons, List.nodup_cons]; exact hn)
theorem sizeTs_perm {a b : List Ty} (h : a.Perm b) : sizeTs a = sizeTs b := by
  induction h with
  | nil => rfl
  | cons x _ ih => rw [sizeTs_cons, sizeTs_cons, ih]
  | swap x y l => rw [sizeTs_cons, sizeTs_cons, sizeTs_cons, sizeTs_cons]; omega
  | trans _ _ i1 i2 => rw [i1, i2]
theorem record_is {l s : List Sl} (hp : s.Perm l) (hs : s.Pairwise (fun a b => ¬ cmpB b.1 a.1 < 0)) (hm : ∀ x ∈ s, mayT x.2 = true) (hn : ∀ i (h : i + 1 < s.length), s[i].1 ≠ s[i + 1].1) :
    recordT l = if 300 < 1 + sizeTs (s.map (·.2)) then (zeroT, 3) else (.mk 8 0 (s.map (·.1)) (s.map (·.2)), 0) := by
  have hr := rises_of hs hn
  have hnd : (l.map (·.1)).Nodup := (hp.map _).nodup_iff.1 (rises_nodup hr)
  have h1 : twice l = false := (twice_iff l).2 hnd
  have h2 : mayTs (l.map (·.2)) = true := by
    rw [mayTs_iff]
    intro t ht
    obtain ⟨x, hx, rfl⟩ := List.mem_map.1 ht
    exact hm x (hp.mem_iff.2 hx)
  have h3 : normS l = s := by
    refine RisesS.uniq (foldl_rises l List.Pairwise.nil (by rw [List.append_nil]; exact hnd)) hr (fun t => ?_)
    show t ∈ l.foldl insS [] ↔ _
    rw [foldl_mem, hp.mem_iff]; simp
  unfold recordT
  rw [if_neg (by rw [h1, h2]; decide), h3, sizeTs_perm (hp.map (·.2))]
theorem record_bad {l s : List Sl} (hp : s.Perm l) (hb : (∃ x ∈ s, mayT x.2 = false) ∨ ∃ i, ∃ h : i + 1 < s.length, s[i].1 = s[i + 1].1) : recordT l = (zeroT, 1) := by
  unfold recordT
  rw [if_pos]
  rw [Bool.or_eq_true]
  rcases hb with ⟨x, hx, hm⟩ | ⟨i, h, e⟩
  · left
    rw [Bool.not_eq_true', Bool.eq_false_iff]
    intro h2
    have := (mayTs_iff _).1 h2 x.2 (List.mem_map_of_mem (hp.mem_iff.1 hx))
    rw [hm] at this; cases this
  · right
    rcases ht : twice l with _ | _
    · have hnd := (hp.map (·.1)).nodup_iff.2 ((twice_iff l).1 ht)
      rw [List.nodup_iff_pairwise_ne, List.pairwise_map, List.pairwise_iff_getElem] at hnd
      exact absurd e (hnd i (i + 1) (by omega) h (by omega))
    · rfl
end Go.Proofs.YtjcajpkgamolkaaDoor.Ty
namespace Go.Proofs.YtjcajpkgamolkaaDoor.Ty
open Go.RowKit Go.Proofs.YtjcajpkgamolkaaDoor.PTyp Go.Proofs.YtjcajpkgamolkaaDoorW.PrintWords Go.Proofs.YtjcajpkgamolkaaDoorW.PrintLast Go.Proofs.YtjcajpkgamolkaaDoorW.PrintMore
set_option linter.unusedVariables false
set_option linter.unusedSimpArgs false
def kV (w0 : World) : Kd S45 where
  sz := 5
  E := []
  K := fun _ x cs => k45.K w0 x cs
  M := fun _ _ _ x cs => k45.K w0 x cs
  K_len := fun h => k45.K_len h
  K_one := fun h => k45.K_one h
  K_below := fun _ h => h
  K_of_M := fun h => h
  M_mono := fun _ h => h
  M_bound := fun h => h
  M_move := fun _ h => h
  M_lower := fun _ h => h
theorem kV_of {w0 W : World} {A : Option Addr} {n : Nat} {xs : List S45} (h : k45.C w0 A n xs) (hB : Below w0.heap.size w0 W) : ReadsRow (k45.K w0) 5 W A n xs := ReadsRow.imp_ h hB (fun _ _ h => h)
structure Cm where
  n : ByteArray
  t : Ty
  A2 : Option Addr
  c2 : Nat
  A3 : Option Addr
  c3 : Nat
instance : Inhabited Cm := ⟨⟨⟨#[]⟩, ⟨0, 0, [], []⟩, none, 0, none, 0⟩⟩
def Cm.s (x : Cm) : S45 := ⟨x.n, x.t⟩
def Cm.enc (x : Cm) : List Value := [.string x.n, .int .i64 x.t.f0, .int .i64 x.t.f1, .slice x.A2 x.t.f2.length x.c2, .slice x.A3 x.t.f3.length x.c3]
theorem Cm.len (x : Cm) : x.enc.length = 5 := rfl
theorem Cm.one (x : Cm) : ∀ v ∈ x.enc, v.oneCell' = true := by
  intro v hv
  simp only [Cm.enc, List.mem_cons, List.not_mem_nil, or_false] at hv
  rcases hv with rfl | rfl | rfl | rfl | rfl <;> rfl
theorem cm_of {w0 : World} {t : S45} {cs : List Value} (h : k45.K w0 t cs) : ∃ x : Cm, x.s = t ∧ x.enc = cs := by
  obtain ⟨A2, c2, A3, c3, rfl, _⟩ := k45_open h
  exact ⟨⟨t.f0, t.f1, A2, c2, A3, c3⟩, rfl, rfl⟩
theorem cms_of {w0 : World} : ∀ (xs : List S45) (inner : List Value), Reps (k45.K w0) 5 xs inner → ∃ L : List Cm, L.map (·.s) = xs ∧ inner = L.flatMap Cm.enc ∧ ∀ x ∈ L, k45.K w0 x.s x.enc
  | [], inner, h => ⟨[], rfl, by simpa using h.1, fun x hx => by cases hx⟩
  | t :: xs, inner, h => by
    obtain ⟨x, hx1, hx2⟩ := cm_of (h.2 0 t rfl)
    rw [Nat.zero_mul, List.drop_zero] at hx2
    have hr : Reps (k45.K w0) 5 xs (inner.drop 5) := by
      refine ⟨by rw [List.length_drop, h.1, List.length_cons]; omega, fun j p hj => ?_⟩
      have := h.2 (j + 1) p (by simpa using hj)
      rw [List.drop_drop, show 5 + j * 5 = (j + 1) * 5 by omega]
      exact this
    obtain ⟨L, h1, h2, h3⟩ := cms_of xs _ hr
    refine ⟨x :: L, by rw [List.map_cons, hx1, h1], ?_, fun y hy => ?_⟩
    · rw [List.flatMap_cons, hx2, ← h2, List.take_append_drop]
    · rcases List.mem_cons.1 hy with rfl | hy
      · have := h.2 0 t rfl
        rw [Nat.zero_mul, List.drop_zero, ← hx2] at this
        rw [hx1]; exact this
      · exact h3 y hy
theorem flat_get5 : ∀ (L : List Cm) (t : Nat), t < L.length * 5 → (L.flatMap Cm.enc)[t]? = (L[t / 5]?).bind fun x => x.enc[t % 5]?
  | [], t, h => by simp at h
  | x :: L, t, h => by
    rw [List.flatMap_cons]
    rcases Nat.lt_or_ge t 5 with h4 | h4
    · rw [List.getElem?_append_left (by rw [Cm.len]; exact h4), Nat.div_eq_of_lt h4, Nat.mod_eq_of_lt h4]
      rfl
    · rw [List.getElem?_append_right (by rw [Cm.len]; exact h4), Cm.len, flat_get5 L (t - 5) (by rw [List.length_cons] at h; omega)]
      have e1 : t / 5 = (t - 5) / 5 + 1 := by omega
      have e2 : t % 5 = (t - 5) % 5 := by omega
      rw [e1, e2, List.getElem?_cons_succ]
theorem holds_of5 {W : World} {g : Nat} {cur : Array Value} {e : TypeId} {L : List Cm} (hb : W.heap[g]? = some (.cells cur e (0, 0))) (hc : cur.toList.take (L.length * 5) = L.flatMap Cm.enc) : Go.Sort.HoldsK Cm.enc 5 W g 0 L.toArray := by
  intro j hj
  rw [Go.Sort.size_flatK] at hj
  have hj' : j < L.length * 5 := by simpa using hj
  refine ⟨?_, blk_frozen hb _⟩
  rw [Go.Sort.get_flatK _ _ _ _ hj, Nat.zero_add]
  have h1 : W.cell? ⟨g, j, none⟩ = cur[j]? := blk_cell hb j
  rw [h1]
  have h2 : cur[j]? = (L.flatMap Cm.enc)[j]? := by
    rw [← hc, List.getElem?_take, if_pos hj']
    simp
  rw [h2, flat_get5 L j hj']
  have h3 : j / 5 < L.length := by omega
  rw [List.getElem?_eq_getElem h3, Option.bind_some]
  have h4 : L.toArray[j / 5]! = L[j / 5] := by simp [h3]
  rw [h4]
  have h5 : j % 5 < (L[j / 5]).enc.length := by rw [Cm.len]; omega
  simp [h5]
theorem row_holds5 {w0 W : World} {base : Nat} {ok : Nat → Prop} {v : Value} {xs : List S45} (h : (kV w0).R 45 W base ok v xs) (hn : 0 < xs.length) :
    ∃ (g cap : Nat) (L : List Cm), v = .slice (some ⟨g, 0, none⟩) xs.length cap ∧ base ≤ g ∧ g < W.heap.size ∧ L.map (·.s) = xs ∧ (∀ x ∈ L, k45.K w0 x.s x.enc) ∧ Go.Sort.HoldsK Cm.enc 5 W g 0 L.toArray := by
  obtain ⟨_, inner, ho, hr⟩ := h
  obtain ⟨L, h1, h2, h3⟩ := cms_of xs inner hr
  have hl : L.length = xs.length := by rw [← h1, List.length_map]
  rcases ho.2 with ⟨_, h0⟩ | ⟨g, cap, cur, rfl, hg, hh, hc1, hc2, hc3, hc4⟩
  · omega
  · refine ⟨g, cap, L, rfl, hg, ?_, h1, h3, ?_⟩
    · exact blk_lt hh
    · exact holds_of5 hh (by rw [hl, ← h2]; exact hc4)
theorem holds_cells5 {W : World} {g : Nat} {d : Array Cm} (h : Go.Sort.HoldsK Cm.enc 5 W g 0 d) {i : Nat} (hi : i < d.size) :
    W.cell? ⟨g, i * 5, none⟩ = some (.string d[i]!.n) ∧ W.cell? ⟨g, i * 5 + 1, none⟩ = some (.int .i64 d[i]!.t.f0) ∧ W.cell? ⟨g, i * 5 + 2, none⟩ = some (.int .i64 d[i]!.t.f1) ∧ W.cell? ⟨g, i * 5 + 3, none⟩ = some (.slice d[i]!.A2 d[i]!.t.f2.length d[i]!.c2) ∧ W.cell? ⟨g, i * 5 + 4, none⟩ = some (.slice d[i]!.A3 d[i]!.t.f3.length d[i]!.c3) := by
  have c : ∀ k, k < 5 → W.cell? ⟨g, i * 5 + k, none⟩ = some (d[i]!.enc)[k]! := fun k hk => by
    have := (Go.Sort.HoldsK.cell h hi hk).1
    rwa [Nat.zero_add] at this
  exact ⟨c 0 (by omega), c 1 (by omega), c 2 (by omega), c 3 (by omega), c 4 (by omega)⟩
def cmLt (x y : Cm) : Bool := Op.bytesLess x.n.toList y.n.toList
theorem cmLt_iff {x y : Cm} : cmLt x y = true ↔ cmpB x.n y.n < 0 := by
  unfold cmLt; rw [Go.Proofs.bytesLess_eq, decide_eq_true_iff]; exact cmpB_lt.symm
theorem cmLt_not {x y : Cm} : cmLt x y = false ↔ ¬ cmpB x.n y.n < 0 := by
  rw [← cmLt_iff]; simp
theorem cmLt_swo : Go.Sort.SWO cmLt where
  irrefl := fun x => by rw [cmLt_not, cmpB_self]; omega
  trans := fun x y z h1 h2 => by rw [cmLt_iff] at *; exact cmpB_lt_trans h1 h2
  ntrans := fun x y z h1 h2 => by
    rw [cmLt_not] at *
    have s1 := (cmpB_sk x.n y.n).1
    have s2 := (cmpB_sk y.n z.n).1
    have s3 := (cmpB_sk x.n z.n).1
    have := (cmpB_tr z.n y.n x.n).1 (by omega) (by omega)
    omega
def slOf (x : S45) : Sl := (x.f0, x.f1)
theorem cm_sorted {L : List Cm} {xs : List S45} (hx : L.map (·.s) = xs) {d : Array Cm} (hp : Go.Sort.PermIn 0 L.toArray.size L.toArray d) (hs : Go.Sort.SortedIn cmLt 0 L.toArray.size d) : (d.toList.map fun x => slOf x.s).Perm (xs.map slOf) ∧ (d.toList.map fun x => slOf x.s).Pairwise (fun a b => ¬ cmpB b.1 a.1 < 0) ∧ d.size = xs.length ∧ ∀ x ∈ d.toList, x ∈ L := by
  have hsz : d.size = L.length := by rw [hp.1]; simp
  have hperm : d.toList.Perm L := by
    have := hp.2.2
    rw [show L.toArray.size = d.size by rw [hp.1]] at this
    have e1 : (d.extract 0 d.size) = d := by simp
    rw [e1] at this
    have e2 : (L.toArray.extract 0 d.size) = L.toArray := by rw [hsz]; simp
    rw [e2] at this
    simpa using this
  refine ⟨by rw [← hx, List.map_map]; exact hperm.map _, ?_, by rw [hsz, ← hx, List.length_map], fun x h => hperm.mem_iff.1 h⟩
  rw [List.pairwise_map, List.pairwise_iff_getElem]
  intro i j hi hj hij
  have h1 : i < d.size := by simpa using hi
  have h2 : j < d.size := by simpa using hj
  have := hs i j (Nat.zero_le _) hij (by rw [← hp.1]; exact h2)
  rw [cmLt_not, getElem!_pos d i h1, getElem!_pos d j h2] at this
  show ¬ cmpB (d.toList[j]).n (d.toList[i]).n < 0
  simpa using this
end Go.Proofs.YtjcajpkgamolkaaDoor.Ty
namespace Go.Proofs.YtjcajpkgamolkaaDoor.Ty
open Go.RowKit Go.Proofs.YtjcajpkgamolkaaDoor.PTyp Go.Proofs.YtjcajpkgamolkaaDoorW.PrintWords Go.Proofs.YtjcajpkgamolkaaDoorW.PrintLast Go.Proofs.YtjcajpkgamolkaaDoorW.PrintMore
set_option linter.unusedVariables false
set_option linter.unusedSimpArgs false
set_option maxHeartbeats 1000000 in
set_option maxRecDepth 100000 in
theorem names_calls {W : World} {g n cap b4 : Nat} {d : Array Cm} (hH : Go.Sort.HoldsK Cm.enc 5 W g 0 d) (hn : d.size = n) (hn2 : n ≤ 1099511627776) (h4 : W.heap[b4]? = some (.cells #[.slice (some ⟨g, 0, none⟩) n cap] 43 (0, 0))) (i j : Nat) (hi : i < n) (hj : j < n) :
    Calls Tryd.prog 47 (#[.int .i64 i, .int .i64 j] ++ #[.pointer (some ⟨b4, 0, none⟩)]) W fun e w' => e = .returned (.bool (cmLt d[i]! d[j]!)) ∧ Below W.heap.size W w' := by
  subst hn
  obtain ⟨p0, p1, p2, p3, p4⟩ := holds_cells5 hH hi
  obtain ⟨q0, q1, q2, q3, q4⟩ := holds_cells5 hH hj
  have hz : cmLt d[i]! d[j]! = Op.bytesLess d[i]!.n.toList d[j]!.n.toList := rfl
  rw [hz]
  have c4 : W.cell? ⟨b4, 0, none⟩ = some (.slice (some ⟨g, 0, none⟩) d.size cap) := (blk_cell h4 0).trans rfl
  clear hz hH h4
  generalize d[i]! = x at *
  generalize d[j]! = y at *
  have hli : ((i : Int) < (d.size : Int)) = True := eq_true (by omega)
  have hgi : ((0 : Int) ≤ (i : Int)) = True := by simp
  have hlj : ((j : Int) < (d.size : Int)) = True := eq_true (by omega)
  have hgj : ((0 : Int) ≤ (j : Int)) = True := by simp
  go_enter Tryd.func47, Tryd.ntmps47
  go_wp2
  go_quiet (fail)
  go_wp2
  go_ret
  exact ⟨rfl, pw_below_drewN (Below.refl _ _) _⟩
end Go.Proofs.YtjcajpkgamolkaaDoor.Ty
namespace Go.Proofs.YtjcajpkgamolkaaDoor.Ty
open Go.RowKit Go.Proofs.YtjcajpkgamolkaaDoor.PTyp Go.Proofs.YtjcajpkgamolkaaDoorW.PrintWords Go.Proofs.YtjcajpkgamolkaaDoorW.PrintLast Go.Proofs.YtjcajpkgamolkaaDoorW.PrintMore
open Go.Shelf Go.Lib Go.Sort
set_option linter.unusedVariables false
set_option linter.unusedSimpArgs false
noncomputable def si43 : TypeInfo := (Tryd.prog.info? 43).get (by kernel_rfl)
noncomputable def si45 : TypeInfo := (Tryd.prog.info? 45).get (by kernel_rfl)
theorem si45K (n : Nat) (h2 : 2 ≤ n) : Lib.swapperK n si45 25 = 9 := by
  have a : si45.hasPointers = true := by kernel_rfl
  have b : (si45.bytes == 8) = false := by kernel_rfl
  have c : (n == 0) = false := by simp; omega
  have d : (n == 1) = false := by simp; omega
  simp [Lib.swapperK, a, b, c, d]
theorem perm_mem5 {L : List Cm} {d : Array Cm} {n : Nat} (hn : L.toArray.size = n) (hp : Go.Sort.PermIn 0 n L.toArray d) : d.size = n ∧ ∀ x, x ∈ d.toList → x ∈ L := by
  subst hn
  have hsz : d.size = L.length := by rw [hp.1]; simp
  have hperm : d.toList.Perm L := by
    have := hp.2.2
    rw [show L.toArray.size = d.size by rw [hp.1]] at this
    have e1 : (d.extract 0 d.size) = d := by simp
    rw [e1] at this
    have e2 : (L.toArray.extract 0 d.size) = L.toArray := by rw [hsz]; simp
    rw [e2] at this
    simpa using this
  exact ⟨hp.1, fun x hx => hperm.mem_iff.1 hx⟩
theorem sort_names {w W : World} {g cap b4 : Nat} {L : List Cm} {xs : List S45} (hLm : L.map (·.s) = xs) (hLk : ∀ x ∈ L, k45.K w x.s x.enc) (hLh : HoldsK Cm.enc 5 W g 0 L.toArray) (hg : g < W.heap.size) (hgw : w.heap.size ≤ g) (hb4g : b4 ≠ g) (h4 : W.heap[b4]? = some (.cells #[.slice (some ⟨g, 0, none⟩) xs.length cap] 43 (0, 0))) (hB : Below w.heap.size w W) (hn : 0 < xs.length) (hn2 : xs.length ≤ 1000000000000) :
    Calls Tryd.prog 43 #[.iface 43 (.slice (some ⟨g, 0, none⟩) xs.length cap), .func (.func 47) #[] #[.pointer (some ⟨b4, 0, none⟩)]] W fun e w' => e = .returned (.tuple #[]) ∧ ∃ d : Array Cm, d.size = xs.length ∧ HoldsK Cm.enc 5 w' g 0 d ∧ (∀ x ∈ d.toList, k45.K w x.s x.enc) ∧ (d.toList.map fun x => slOf x.s).Perm (xs.map slOf) ∧ (d.toList.map fun x => slOf x.s).Pairwise (fun a b => ¬ cmpB b.1 a.1 < 0) ∧ Go.Srt.Turn g W w' := by
  have hl : L.toArray.size = xs.length := by rw [← hLm]; simp
  by_cases h2 : 2 ≤ xs.length
  · have hS := Go.Srt.sliceStable Tryd.laysGt8 43 45 si43 si45 (by kernel_rfl) (by kernel_rfl) (by kernel_rfl) (by kernel_rfl) 25 (fun _ => by kernel_rfl) Cm.enc 5 Cm.len (by kernel_rfl) (fun _ => by kernel_rfl) Cm.one cmLt cmLt_swo 47 #[.pointer (some ⟨b4, 0, none⟩)]
      (enters_of Tryd.func47 (by kernel_rfl) rfl) g 0 cap L.toArray (by rw [hl]; exact h2) (by rw [hl]; omega) 90 (by rw [si45K _ (by rw [hl]; exact h2)]; kernel_rfl) false
      (fun args W => run_callFunc_extern Tryd.func90 (by kernel_rfl) (by kernel_rfl) (by kernel_rfl) (e := Extern.ReflectliteSwapper.swap false) (by kernel_rfl) args W) W
      (fun X => Below w.heap.size w X ∧ X.heap[b4]? = some (.cells #[.slice (some ⟨g, 0, none⟩) xs.length cap] 43 (0, 0))) ⟨hB, h4⟩
      (fun X Y hJ hT => ⟨turn_below hJ.1 hT hgw hJ.1.size, by rw [hT.block b4 (blk_lt hJ.2) hb4g]; exact hJ.2⟩)
      (fun d X hH hJ hp hgX i j hi hj => by
        obtain ⟨hd1, hd2⟩ := perm_mem5 rfl hp
        exact names_calls hH (hd1.trans hl) (by omega) hJ.2 i j (by omega) (by omega)) hLh hg
    change Calls Tryd.prog 43 _ _ _ at hS
    rw [hl] at hS
    refine hS.mono ?_
    rintro e w' ⟨rfl, d, hH, hp, hs, _, hT⟩
    have hp' : Go.Sort.PermIn 0 L.toArray.size L.toArray d := by rw [hl]; exact hp
    have hs' : Go.Sort.SortedIn cmLt 0 L.toArray.size d := by rw [hl]; exact hs
    obtain ⟨h1, h2, h3, h4⟩ := cm_sorted hLm hp' hs'
    exact ⟨rfl, d, h3, hH, fun x hx => hLk x (h4 x hx), h1, h2, hT⟩
  · have h1 : xs.length = 1 := by omega
    have hS := Any.sort_SliceStable_tiny Tryd.laysGt8 43 45 si43 si45 (by kernel_rfl) (by kernel_rfl) (by kernel_rfl) (by kernel_rfl) 25 (fun _ => by kernel_rfl) (some ⟨g, 0, none⟩) xs.length cap (by omega) 83 (by rw [h1]; kernel_rfl) (.func 47) #[] #[.pointer (some ⟨b4, 0, none⟩)] W
    change Calls Tryd.prog 43 _ _ _ at hS
    refine hS.mono ?_
    rintro e w' ⟨rfl, os, rfl⟩
    have hb : Below W.heap.size W (grow W os) := ⟨rfl, rfl, rfl, by simp [grow], fun k hk => by simp [grow, Array.getElem?_append, hk]⟩
    refine ⟨rfl, L.toArray, hl, Go.Srt.holdsK_below hLh hg hb, by simpa using hLk, ?_, ?_, .of_below hb⟩
    · show (L.map fun x => slOf x.s).Perm _
      rw [← hLm, List.map_map]
      exact List.Perm.refl _
    · show (L.map fun x => slOf x.s).Pairwise _
      have hL : L.length = 1 := by rw [← hLm] at h1; simpa using h1
      obtain ⟨x, rfl⟩ := List.length_eq_one_iff.1 hL
      simp
end Go.Proofs.YtjcajpkgamolkaaDoor.Ty
namespace Go.Proofs.YtjcajpkgamolkaaDoor.Ty
open Go.RowKit Go.Proofs.YtjcajpkgamolkaaDoor.PTyp Go.Proofs.YtjcajpkgamolkaaDoorW.PrintWords Go.Proofs.YtjcajpkgamolkaaDoorW.PrintLast Go.Proofs.YtjcajpkgamolkaaDoorW.PrintMore
open Go.Shelf Go.Lib Go.Sort
set_option linter.unusedVariables false
set_option linter.unusedSimpArgs false
theorem sort_none' (p : Option Addr) (c : Nat) (lb : Array Value) (W : World) :
    Calls Tryd.prog 43 #[.iface 43 (.slice p 0 c), .func (.func 47) #[] lb] W fun e w' => e = .returned (.tuple #[]) ∧ Below W.heap.size W w' := by
  have hS := Any.sort_SliceStable_tiny Tryd.laysGt8 43 45 si43 si45 (by kernel_rfl) (by kernel_rfl) (by kernel_rfl) (by kernel_rfl) 25 (fun _ => by kernel_rfl) p 0 c (by omega) 82 (by kernel_rfl) (.func 47) #[] lb W
  change Calls Tryd.prog 43 _ _ _ at hS
  refine hS.mono ?_
  rintro e w' ⟨rfl, os, rfl⟩
  exact ⟨rfl, rfl, rfl, rfl, by simp [grow], fun k hk => by simp [grow, Array.getElem?_append, hk]⟩
theorem sort_any {w W : World} {v : Value} {b4 base : Nat} {xs : List S45} (hR : (kV w).R 45 W base (fun _ => True) v xs) (hb : w.heap.size ≤ base) (hb4 : base ≤ b4) (h4 : W.heap[b4]? = some (.cells #[v] 43 (0, 0))) (hB : Below w.heap.size w W) (hn2 : xs.length ≤ 1000000000000) :
    ∃ (A : Option Addr) (cap g : Nat), v = .slice A xs.length cap ∧ (0 < xs.length → A = some ⟨g, 0, none⟩) ∧ base ≤ g ∧ b4 ≠ g ∧ Calls Tryd.prog 43 #[.iface 43 v, .func (.func 47) #[] #[.pointer (some ⟨b4, 0, none⟩)]] W fun e w' => e = .returned (.tuple #[]) ∧ ∃ d : Array Cm, d.size = xs.length ∧ HoldsK Cm.enc 5 w' g 0 d ∧ (∀ x ∈ d.toList, k45.K w x.s x.enc) ∧ (d.toList.map fun x => slOf x.s).Perm (xs.map slOf) ∧ (d.toList.map fun x => slOf x.s).Pairwise (fun a b => ¬ cmpB b.1 a.1 < 0) ∧ Go.Srt.Turn g W w' := by
  by_cases hz : xs.length = 0
  · obtain rfl : xs = [] := List.length_eq_zero_iff.1 hz
    obtain ⟨A, cap, rfl⟩ := Kd.R_slice hR
    refine ⟨A, cap, b4 + 1, rfl, fun h => absurd h (by simp), by omega, by omega, ?_⟩
    refine (sort_none' A cap _ W).mono ?_
    rintro e w' ⟨rfl, hb⟩
    exact ⟨rfl, #[], rfl, fun j hj => by rw [Go.Sort.size_flatK] at hj; simp at hj, by simp, by simp, by simp, .of_below hb⟩
  · have hpos : 0 < xs.length := by omega
    have hty := Kd.R_typed hR
    obtain ⟨g, cap, L, rfl, hg1, hg2, hLm, hLk, hLh⟩ := row_holds5 hR hpos
    have hne : b4 ≠ g := by
      rintro rfl
      obtain ⟨cells, hc⟩ := hty b4 (by simp [Value.ownBlock])
      rw [hc] at h4
      injection h4 with h4
      injection h4 with _ h4
      exact absurd h4 (by decide)
    exact ⟨_, cap, g, rfl, fun _ => rfl, hg1, hne, sort_names hLm hLk hLh hg2 (by omega) hne h4 hB hpos hn2⟩
end Go.Proofs.YtjcajpkgamolkaaDoor.Ty
namespace Go.Proofs.YtjcajpkgamolkaaDoor.Ty
open Go.RowKit Go.Proofs.YtjcajpkgamolkaaDoor.PTyp Go.Proofs.YtjcajpkgamolkaaDoorW.PrintWords Go.Proofs.YtjcajpkgamolkaaDoorW.PrintLast Go.Proofs.YtjcajpkgamolkaaDoorW.PrintMore
set_option linter.unusedVariables false
set_option linter.unusedSimpArgs false
theorem cm_rows {w0 W : World} {x : Cm} (h : k45.K w0 x.s x.enc) (hB : Below w0.heap.size w0 W) : x.t.f2.length ≤ x.c2 ∧ Kd.string.C W x.A2 x.t.f2.length x.t.f2 ∧ x.t.f3.length ≤ x.c3 ∧ k25.C W x.A3 x.t.f3.length x.t.f3 := by
  obtain ⟨A2, c2, A3, c3, e, l2, g2, l3, g3⟩ := k45_open h
  simp only [Cm.enc, Cm.s, List.cons.injEq, Value.slice.injEq, true_and, and_true] at e
  obtain ⟨⟨rfl, rfl⟩, rfl, rfl⟩ := e
  exact ⟨l2, Kd.C_below g2 hB, l3, Kd.C_below g3 hB⟩
theorem box5 {W : World} {b : Nat} {t : TypeId} {x y z u v : Value} (h : W.heap[b]? = some (.cells #[x, y, z, u, v] t (0, 0))) : W.cell? ⟨b, 0, none⟩ = some x ∧ W.cell? ⟨b, 1, none⟩ = some y ∧ W.cell? ⟨b, 2, none⟩ = some z ∧ W.cell? ⟨b, 3, none⟩ = some u ∧ W.cell? ⟨b, 4, none⟩ = some v :=
  ⟨(blk_cell h 0).trans rfl, (blk_cell h 1).trans rfl, (blk_cell h 2).trans rfl, (blk_cell h 3).trans rfl, (blk_cell h 4).trans rfl⟩
theorem keep1 {α : Type} {d : Kd α} {e : Nat} {W : World} {b o : Nat} {ok : Nat → Prop} {v : Value} {xs : List α} {u : Value} (h : d.R e W (b + 1) ok v xs) : d.R e (W.setCell ⟨b, o, none⟩ u) (b + 1) ok v xs :=
  Kd.R_mono (Kd.R_move (Kd.R_bound h) (fun k hk => by
    have hne : k ≠ b := by have := hk.2.1; omega
    rw [Below.heap_setCell _ ⟨b, o, none⟩ u k hne])) (fun _ hk => hk.1)
def namesTo (d : Array Cm) (i : Nat) : List ByteArray := (List.range i).map fun j => d[j]!.n
def typesTo (d : Array Cm) (i : Nat) : List Ty := (List.range i).map fun j => d[j]!.t
theorem namesTo_next (d : Array Cm) (i : Nat) : namesTo d (i + 1) = namesTo d i ++ [d[i]!.n] := by unfold namesTo; rw [List.range_succ, List.map_append]; rfl
theorem typesTo_next (d : Array Cm) (i : Nat) : typesTo d (i + 1) = typesTo d i ++ [d[i]!.t] := by unfold typesTo; rw [List.range_succ, List.map_append]; rfl
def SlotsOk (d : Array Cm) (i : Nat) : Prop := (∀ j, j < i → mayT d[j]!.t = true) ∧ ∀ j, j + 1 < i → d[j]!.n ≠ d[j + 1]!.n
theorem slotsOk_zero (d : Array Cm) : SlotsOk d 0 := ⟨fun _ h => absurd h (by omega), fun _ h => absurd h (by omega)⟩
theorem slotsOk_next {d : Array Cm} {i : Nat} (h : SlotsOk d i) (hm : mayT d[i]!.t = true) (hn : 0 < i → d[i - 1]!.n ≠ d[i]!.n) : SlotsOk d (i + 1) := by
  refine ⟨fun j hj => ?_, fun j hj => ?_⟩
  · rcases Nat.lt_or_ge j i with q | q
    · exact h.1 j q
    · obtain rfl : j = i := by omega
      exact hm
  · rcases Nat.lt_or_ge (j + 1) i with q | q
    · exact h.2 j q
    · obtain rfl : i = j + 1 := by omega
      exact hn (by omega)
theorem names_all (d : Array Cm) : (d.toList.map fun x => slOf x.s).map (·.1) = namesTo d d.size := by
  apply List.ext_getElem
  · simp [namesTo]
  · intro j h1 h2
    have hj : j < d.size := by simpa [namesTo] using h2
    simp [namesTo, slOf, Cm.s, hj]
theorem types_all (d : Array Cm) : (d.toList.map fun x => slOf x.s).map (·.2) = typesTo d d.size := by
  apply List.ext_getElem
  · simp [typesTo]
  · intro j h1 h2
    have hj : j < d.size := by simpa [typesTo] using h2
    simp [typesTo, slOf, Cm.s, hj]
theorem record_all {d : Array Cm} {l : List Sl} (hp : (d.toList.map fun x => slOf x.s).Perm l) (hs : (d.toList.map fun x => slOf x.s).Pairwise (fun a b => ¬ cmpB b.1 a.1 < 0)) (h : SlotsOk d d.size) : recordT l = if 300 < 1 + sizeTs (typesTo d d.size) then (zeroT, 3) else (.mk 8 0 (namesTo d d.size) (typesTo d d.size), 0) := by
  rw [← names_all, ← types_all]
  refine record_is hp hs ?_ ?_
  · intro x hx
    obtain ⟨y, hy, rfl⟩ := List.mem_map.1 hx
    obtain ⟨j, hj, rfl⟩ := List.mem_iff_getElem.1 hy
    have := h.1 j (by simpa using hj)
    rw [getElem!_pos d j (by simpa using hj)] at this
    exact this
  · intro i hi
    have hi' : i + 1 < d.size := by simpa using hi
    have := h.2 i hi'
    rw [getElem!_pos d i (by omega), getElem!_pos d (i + 1) hi'] at this
    simpa [slOf, Cm.s] using this
theorem wTs_perm {a b : List Ty} (h : a.Perm b) : wTs a = wTs b := by
  induction h with
  | nil => rfl
  | cons x _ ih => rw [wTs_cons, wTs_cons, ih]
  | swap x y l => rw [wTs_cons, wTs_cons, wTs_cons, wTs_cons]; omega
  | trans _ _ i1 i2 => rw [i1, i2]
theorem record_weight {d : Array Cm} {l0 : List S45} {m : Nat} (hp : (d.toList.map fun x => slOf x.s).Perm (l0.map slOf)) (hds : d.size = l0.length) (hw : wTs (l0.map (·.f1)) ≤ m) (hn : l0.length ≤ m) : wT (⟨8, 0, namesTo d d.size, typesTo d d.size⟩ : Ty) ≤ 1 + m + m := by
  have h1 : (typesTo d d.size).Perm (l0.map (·.f1)) := by
    rw [← types_all]
    have := hp.map (·.2)
    rwa [List.map_map (g := (·.2)) (f := slOf)] at this
  rw [wT_is]
  have h2 := wTs_perm h1
  have h3 : (namesTo d d.size).length = d.size := by unfold namesTo; simp
  show 1 + (namesTo d d.size).length + wTs (typesTo d d.size) ≤ _
  omega
set_option maxHeartbeats 2000000 in
set_option maxRecDepth 100000 in
theorem record_calls (A0 : Option Addr) (c0 : Nat) (l0 : List S45) (w : World) (hr0 : Kd.C k45 w A0 l0.length l0) (hc0 : l0.length ≤ c0) (hw : wTs (l0.map (·.f1)) ≤ 500000000000) :
    Calls Tryd.prog 28 #[.slice A0 l0.length c0] w fun e w' => ∃ v2_ v3_ : Value, e = .returned (.tuple #[.agg #[.int .i64 (recordT (l0.map slOf)).1.f0, .int .i64 (recordT (l0.map slOf)).1.f1, v2_, v3_], .int .i64 (recordT (l0.map slOf)).2]) ∧ Kd.R Kd.string 9 w' w.heap.size (fun _ => True) v2_ (recordT (l0.map slOf)).1.f2 ∧ Kd.R k25 25 w' w.heap.size (fun k_ => some k_ ≠ (v2_ : Value).ownBlock) v3_ (recordT (l0.map slOf)).1.f3 ∧ Below w.heap.size w w' := by
  have hu25 := Tryd.underlying25
  have hu45 := Tryd.underlying45
  have hn := wTs_len (l0.map (·.f1))
  rw [List.length_map] at hn
  have HR := Aside0.mk hr0
  have HW := Aside0.mk hw
  have hn1 : l0.length ≤ 500000000000 := by omega
  clear hr0 hw hc0 hn
  go_enter Tryd.func28, Tryd.ntmps28
  have HBz := Aside0.mk (below_alloc (Below.refl w.heap.size w) (.cells #[.int .i64 0, .int .i64 0, .slice none 0 0, .slice none 0 0] 25))
  have B0 := Aside0.mk (heap_alloc_new w (.cells #[.int .i64 0, .int .i64 0, .slice none 0 0, .slice none 0 0] 25))
  have hcv : ReadsRow (k45.K w) 5 (w.alloc (.cells #[.int .i64 0, .int .i64 0, .slice none 0 0, .slice none 0 0] 25)) A0 l0.length l0 := kV_of HR.out HBz.out
  have HCV := Aside0.mk hcv
  clear hcv
  go_wp2_with ((with_reducible refine gate_dst (N := 9) rfl ?_); refine Kd.R_append_rows (kV w) (w0 := w.alloc (.cells #[.int .i64 0, .int .i64 0, .slice none 0 0, .slice none 0 0] 25)) (w.heap.size + 1) rfl (.const (.slice none 0 0)) (.tmp 8) 43 45 (.agg #[.string ⟨#[]⟩, .int .i64 0, .int .i64 0, .slice none 0 0, .slice none 0 0]) 80 rfl Tryd.underlying43 info45 rfl (Nat.zero_lt_succ 4) (by decide) (.slice none 0 0) [] l0 A0 l0.length c0 (fun _ => True) (fun _ => False) rfl rfl (Kd.R_nil _ _ _ _ _) HCV.out (fun _ _ h => h) (fun _ h => h.elim) (fun _ _ => trivial) (Below.refl _ _) (by have := blk_lt B0.out; omega) (by simp; omega) ?_; intro v1 w1 ho _ hg _; have nHB := Aside0.mk (HBz.out.grown hg HBz.out.size (fun k hk => by simp [Value.ownBlock] at hk)); have nB0 := Aside0.mk (blk_grown B0.out hg (fun hk => by simp [Value.ownBlock] at hk)); rw [List.nil_append] at ho; obtain ⟨Av, cv, ev⟩ := Kd.R_slice ho; subst ev; have nRO := Aside0.mk ho; clear ho hg HBz B0 HCV; have hf1 := blk_frozen (heap_alloc_new w1 (.cells #[.slice none 0 0] 43)) 0; have hp1 := blk_put (cs := #[_]) (heap_alloc_new w1 (.cells #[.slice none 0 0] 43)) 0 (.slice Av l0.length cv) rfl; have hc1 : (w1.alloc (.cells #[.slice Av l0.length cv] 43)).cell? ⟨w1.heap.size, 0, none⟩ = some (.slice Av l0.length cv) := (blk_cell (heap_alloc_new w1 (.cells #[.slice Av l0.length cv] 43)) 0).trans rfl)
  have HB1 := Aside0.mk (below_alloc nHB.out (.cells #[.slice Av l0.length cv] 43))
  have B01 := Aside0.mk (blk_alloc nB0.out (.cells #[.slice Av l0.length cv] 43))
  have B41 := Aside0.mk (heap_alloc_new w1 (.cells #[.slice Av l0.length cv] 43))
  have hw1 := blk_lt nB0.out
  obtain ⟨A_, cap_, gs, ev_, hA_, hgb, h4g, hsort⟩ := sort_any (Kd.R_alloc nRO.out (.cells #[.slice Av l0.length cv] 43)) (Nat.le_succ w.heap.size) (show w.heap.size + 1 ≤ w1.heap.size by omega) B41.out HB1.out (by omega)
  injection ev_ with e1 _ e2
  subst e1
  subst e2
  have HSORT := Aside0.mk hsort
  clear hsort
  go_wp2_with (go_at_call 43; refine hold_ ?_)
  unfold Held
  refine HSORT.out.mono ?_
  rintro e w2 ⟨rfl, d, hds, hdH, hdK, hdP, hdS, hT⟩
  have HB2 := Aside0.mk (turn_below HB1.out hT (by omega) HB1.out.size)
  have B02 := Aside0.mk (show w2.heap[w.heap.size]? = some (.cells #[.int .i64 0, .int .i64 0, .slice none 0 0, .slice none 0 0] 25) by rw [hT.block _ (blk_lt B01.out) (by omega)]; exact B01.out)
  have B42 := Aside0.mk (show w2.heap[w1.heap.size]? = some (.cells #[.slice Av l0.length cv] 43) by rw [hT.block _ (blk_lt B41.out) h4g]; exact B41.out)
  have hsz := hT.size
  have DH := Aside0.mk hdH
  have DK := Aside0.mk hdK
  have DP := Aside0.mk hdP
  have DS := Aside0.mk hdS
  clear hT hdH hdK hdP hdS HB1 B01 B41 nHB nB0 nRO hf1 hp1 hc1 HSORT
  have c4 : w2.cell? ⟨w1.heap.size, 0, none⟩ = some (.slice Av l0.length cv) := (blk_cell B42.out 0).trans rfl
  have f4 := blk_frozen B42.out 0
  have BT0 := Aside0.mk (heap_alloc_new w2 (.cells #[.int .i64 8, .int .i64 0, .slice none 0 0, .slice none 0 0] 25))
  have c4a : (w2.alloc (.cells #[.int .i64 8, .int .i64 0, .slice none 0 0, .slice none 0 0] 25)).cell? ⟨w1.heap.size, 0, none⟩ = some (.slice Av l0.length cv) := (blk_cell (blk_alloc B42.out _) 0).trans rfl
  go_wp2
  go_loopw [17] (fun v17 W => ∃ (i : Nat) (v2 v3 : Value), v17 = .int .i64 i ∧ i ≤ l0.length ∧ Aside0 (SlotsOk d i) ∧ Aside0 (Below w2.heap.size w2 W) ∧ Aside0 (W.heap[w2.heap.size]? = some (.cells #[.int .i64 8, .int .i64 0, v2, v3] 25)) ∧ Aside0 (Kd.string.R 9 W (w2.heap.size + 1) (fun _ => True) v2 (namesTo d i)) ∧ Aside0 (k25.R 25 W (w2.heap.size + 1) (fun k => some k ≠ v2.ownBlock) v3 (typesTo d i))) (fun v17 _ => l0.length + 1 - (RowKit.intOf v17).toNat)
  case atStart => exact ⟨0, .slice none 0 0, .slice none 0 0, rfl, Nat.zero_le _, ⟨slotsOk_zero d⟩, ⟨below_alloc (Below.refl _ _) _⟩, ⟨BT0.out⟩, ⟨Kd.R_nil _ _ _ _ _⟩, ⟨Kd.R_nil _ _ _ _ _⟩⟩
  case round =>
    obtain ⟨i, v2, v3, rfl, hin, HOK, HBl, BTl, RN, RT⟩ := hrel
    clear c4 f4 c4a
    have c4 : wr.cell? ⟨w1.heap.size, 0, none⟩ = some (.slice Av l0.length cv) := (HBl.out.cell (p := ⟨w1.heap.size, 0, none⟩) (blk_lt B42.out)).trans ((blk_cell B42.out 0).trans rfl)
    by_cases hi : i < l0.length
    · obtain rfl := hA_ (by omega)
      have hgl : gs < w2.heap.size := by
        have h0 := (DH.out 0 (by rw [Go.Sort.size_flatK]; omega)).1
        exact World.block_lt_of_cell? _ _ h0
      have HH : Aside0 (Go.Sort.HoldsK Cm.enc 5 wr gs 0 d) := ⟨Go.Srt.holdsK_below DH.out hgl HBl.out⟩
      have hlt : ((i : Int) < (l0.length : Int)) = True := by simp [hi]
      have hge : ((0 : Int) ≤ (i : Int)) = True := by simp
      obtain ⟨q0, q1, q2, q3, q4⟩ := holds_cells5 HH.out (show i < d.size by omega)
      have hownN : ∀ k, v2.ownBlock = some k → w2.heap.size + 1 ≤ k ∧ k < wr.heap.size := fun k hk => by
        have := (Kd.R_bound RN.out).1 k hk
        exact ⟨this.2.1, this.2.2.1⟩
      have hownT : ∀ k, v3.ownBlock = some k → w2.heap.size + 1 ≤ k ∧ k < wr.heap.size := fun k hk => by
        have := (Kd.R_bound RT.out).1 k hk
        exact ⟨this.2.1, this.2.2.1⟩
      have mx : d[i]! ∈ d.toList := by rw [getElem!_pos d i (by omega)]; simp
      have ROWX := Aside0.mk (cm_rows (DK.out _ mx) HB2.out)
      have HWX : Aside0 (wT d[i]!.t ≤ 1000000000000) := ⟨by
        have h1 : slOf d[i]!.s ∈ l0.map slOf := DP.out.mem_iff.1 (List.mem_map_of_mem mx)
        obtain ⟨y, hy, e⟩ := List.mem_map.1 h1
        have h2 : y.f1 = d[i]!.t := congrArg Prod.snd e
        have h3 : y.f1 ∈ l0.map (·.f1) := List.mem_map_of_mem hy
        have := wTs_mem h3
        rw [h2] at this
        have := HW.out
        omega⟩
      have HNn : Aside0 (namesTo d (i + 1) = namesTo d i ++ [d[i]!.n]) := ⟨namesTo_next d i⟩
      have HTn : Aside0 (typesTo d (i + 1) = typesTo d i ++ [d[i]!.t]) := ⟨typesTo_next d i⟩
      have HOn : Aside0 (mayT d[i]!.t = true → (0 < i → d[i - 1]!.n ≠ d[i]!.n) → SlotsOk d (i + 1)) := ⟨fun a b => slotsOk_next HOK.out a b⟩
      clear mx
      generalize hx : d[i]! = x at *
      have HXI := Aside0.mk hx
      clear hx
      go_upto_region 7 with (fail)
      have hwr := blk_lt BTl.out
      have BX := Aside0.mk (heap_alloc_new wr (.cells #[.string x.n, .int .i64 x.t.f0, .int .i64 x.t.f1, .slice x.A2 x.t.f2.length x.c2, .slice x.A3 x.t.f3.length x.c3] 45))
      have HBa := Aside0.mk (below_alloc HBl.out (.cells #[.string x.n, .int .i64 x.t.f0, .int .i64 x.t.f1, .slice x.A2 x.t.f2.length x.c2, .slice x.A3 x.t.f3.length x.c3] 45))
      have BTa := Aside0.mk (blk_alloc BTl.out (.cells #[.string x.n, .int .i64 x.t.f0, .int .i64 x.t.f1, .slice x.A2 x.t.f2.length x.c2, .slice x.A3 x.t.f3.length x.c3] 45))
      have RNa := Aside0.mk (Kd.R_alloc RN.out (.cells #[.string x.n, .int .i64 x.t.f0, .int .i64 x.t.f1, .slice x.A2 x.t.f2.length x.c2, .slice x.A3 x.t.f3.length x.c3] 45))
      have RTa := Aside0.mk (Kd.R_alloc RT.out (.cells #[.string x.n, .int .i64 x.t.f0, .int .i64 x.t.f1, .slice x.A2 x.t.f2.length x.c2, .slice x.A3 x.t.f3.length x.c3] 45))
      generalize hW : wr.alloc (.cells #[.string x.n, .int .i64 x.t.f0, .int .i64 x.t.f1, .slice x.A2 x.t.f2.length x.c2, .slice x.A3 x.t.f3.length x.c3] 45) = wx at *
      clear hW HBl BTl RN RT c4 HH q0 q1 q2 q3 q4
      go_cut [40] (fun v40 wc => ∃ b : Bool, v40 = .bool b ∧ Aside0 (b = true ↔ (mayT x.t = false ∨ (0 < i ∧ d[i - 1]!.n = x.n))) ∧ Aside0 (Below w2.heap.size w2 wc) ∧ Aside0 (wc.heap[w2.heap.size]? = some (.cells #[.int .i64 8, .int .i64 0, v2, v3] 25)) ∧ Aside0 (wc.heap[wr.heap.size]? = some (.cells #[.string x.n, .int .i64 x.t.f0, .int .i64 x.t.f1, .slice x.A2 x.t.f2.length x.c2, .slice x.A3 x.t.f3.length x.c3] 45)) ∧ Aside0 (Kd.string.R 9 wc (w2.heap.size + 1) (fun _ => True) v2 (namesTo d i)) ∧ Aside0 (k25.R 25 wc (w2.heap.size + 1) (fun k => some k ≠ v2.ownBlock) v3 (typesTo d i)))
      case first =>
        obtain ⟨Km, hKm⟩ := may_ev x.t (by have := HWX.out; omega)
        have EM := Aside0.mk (hKm Km (Nat.le_refl _))
        clear hKm
        have RX := Aside0.mk (rows_below ROWX.out HBa.out)
        have hb5 := box5 BX.out
        obtain ⟨t0, t1, t2, t3, t4⟩ := hb5
        have c4 : wx.cell? ⟨w1.heap.size, 0, none⟩ = some (.slice (some ⟨gs, 0, none⟩) l0.length cv) := (HBa.out.cell (p := ⟨w1.heap.size, 0, none⟩) (blk_lt B42.out)).trans ((blk_cell B42.out 0).trans rfl)
        cases hm : mayT x.t with
        | false =>
          refine start_ (n := 19) (S := fun w' => w'.cell? ⟨wr.heap.size, 0, none⟩ = some (.string x.n) ∧ w'.cell? ⟨wr.heap.size, 1, none⟩ = some (.int .i64 x.t.f0) ∧ w'.cell? ⟨wr.heap.size, 2, none⟩ = some (.int .i64 x.t.f1) ∧ w'.cell? ⟨wr.heap.size, 3, none⟩ = some (.slice x.A2 x.t.f2.length x.c2) ∧ w'.cell? ⟨wr.heap.size, 4, none⟩ = some (.slice x.A3 x.t.f3.length x.c3)) (ds := []) #[false, false, false, false, false, false, false, false, false, false, false, false, false, false, false, false, false, false, false] (by kernel_rfl) rfl rfl ⟨t0, t1, t2, t3, t4⟩ (fun hHeld => ?_)
          refine pure_ (i := 0) (N := some 22) (v := ?_) (a' := ?_) #[true, false, false, false, false, false, false, false, false, false, false, false, false, false, false, false, false, false, false] rfl rfl (by kernel_rfl) (fun _ _ _ h => h) (Or.inl ⟨by rfl, ?_⟩) ?_ ?_
          rotate_left
          · intro w'
            go_simp
            with_reducible rfl
          rotate_left
          · simp only [Act.put, List.setIfInBounds_toArray, List.set_cons_zero, List.set_cons_succ, i64_w, i32_w]
            rfl
          refine take_ (i := 1) (N := some 23) (v := ?_) (a' := ?_) #[true, true, false, false, false, false, false, false, false, false, false, false, false, false, false, false, false, false, false] rfl rfl (by kernel_rfl) (fun _ _ _ h => h) (Or.inl ⟨by rfl, ?_⟩) hHeld ?_ ?_
          rotate_left
          · rintro w' ⟨s0, s1, s2, s3, s4⟩
            go_simp
            with_reducible rfl
          rotate_left
          · simp only [Act.put, List.setIfInBounds_toArray, List.set_cons_zero, List.set_cons_succ, i64_w, i32_w]
            rfl
          refine one_ (i := 2) (N := some 24) #[true, true, true, false, false, false, false, false, false, false, false, false, false, false, false, false, false, false, false] rfl rfl (by kernel_rfl) (by decide) (fun K hK => ?_)
          refine call_ 36 #[.agg #[.int .i64 x.t.f0, .int .i64 x.t.f1, .slice x.A2 x.t.f2.length x.c2, .slice x.A3 x.t.f3.length x.c3]] (by rfl) rfl ?_ ?_
          · go_simp
            try rfl
          refine (types_may.calls Km _ _ _ _ _ _ _ _ _ _ (Kd.C_drew RX.out.2.1) RX.out.1 (Kd.C_drew RX.out.2.2.2) RX.out.2.2.1 EM.out).mono ?_
          rintro e w3 ⟨rfl, hb⟩
          refine ⟨_, rfl, ?_⟩
          have mHB := Aside0.mk (below_step (below_drew1 HBa.out) hb)
          have mBT := Aside0.mk (blk_below (blk_drew BTa.out) hb)
          have mBX := Aside0.mk (blk_below (blk_drew BX.out) hb)
          have mRN := Aside0.mk (Kd.R_below (Kd.R_drew RNa.out) hb)
          have mRT := Aside0.mk (Kd.R_below (Kd.R_drew RTa.out) hb)
          refine hK.out _ _ ⟨pw_cell_below hb hHeld.1, pw_cell_below hb hHeld.2.1, pw_cell_below hb hHeld.2.2.1, pw_cell_below hb hHeld.2.2.2.1, pw_cell_below hb hHeld.2.2.2.2⟩ (fun hHeld => ?_)
          clear hK K
          refine norm_ (a' := ?_) ?_ ?_
          rotate_left
          · show Act.put _ (some 24) _ = _
            simp only [Act.put, List.setIfInBounds_toArray, List.set_cons_zero, List.set_cons_succ, i64_w, i32_w]
            rfl
          refine pure_ (i := 3) (N := some 25) (v := ?_) (a' := ?_) #[true, true, true, true, false, false, false, false, false, false, false, false, false, false, false, false, false, false, false] rfl rfl (by kernel_rfl) (fun _ _ _ h => h) (Or.inl ⟨by rfl, ?_⟩) ?_ ?_
          rotate_left
          · intro w'
            go_simp
            with_reducible rfl
          rotate_left
          · simp only [Act.put, List.setIfInBounds_toArray, List.set_cons_zero, List.set_cons_succ, i64_w, i32_w]
            rfl
          refine pure_ (i := 4) (N := some 26) (v := ?_) (a' := ?_) #[true, true, true, true, true, false, false, false, false, false, false, false, false, false, false, false, false, false, false] rfl rfl (by kernel_rfl) (fun _ _ _ h => h) (Or.inl ⟨by rfl, ?_⟩) ?_ ?_
          rotate_left
          · intro w'
            go_simp
            with_reducible rfl
          rotate_left
          · simp only [Act.put, List.setIfInBounds_toArray, List.set_cons_zero, List.set_cons_succ, i64_w, i32_w]
            rfl
          refine pure_ (i := 5) (N := some 27) (v := undef) (a' := ?_) #[true, true, true, true, true, true, false, false, false, false, false, false, false, false, false, false, false, false, false] rfl rfl (by kernel_rfl) (fun _ _ _ h => h) (Or.inr ⟨by rfl, rfl⟩) ?_ ?_
          rotate_left
          · simp only [Act.put, List.setIfInBounds_toArray, List.set_cons_zero, List.set_cons_succ, i64_w, i32_w]
            rfl
          refine pure_ (i := 6) (N := some 28) (v := undef) (a' := ?_) #[true, true, true, true, true, true, true, false, false, false, false, false, false, false, false, false, false, false, false] rfl rfl (by kernel_rfl) (fun _ _ _ h => h) (Or.inr ⟨by rfl, rfl⟩) ?_ ?_
          rotate_left
          · simp only [Act.put, List.setIfInBounds_toArray, List.set_cons_zero, List.set_cons_succ, i64_w, i32_w]
            rfl
          refine pure_ (i := 7) (N := some 29) (v := undef) (a' := ?_) #[true, true, true, true, true, true, true, true, false, false, false, false, false, false, false, false, false, false, false] rfl rfl (by kernel_rfl) (fun _ _ _ h => h) (Or.inr ⟨by rfl, rfl⟩) ?_ ?_
          rotate_left
          · simp only [Act.put, List.setIfInBounds_toArray, List.set_cons_zero, List.set_cons_succ, i64_w, i32_w]
            rfl
          refine pure_ (i := 8) (N := some 30) (v := undef) (a' := ?_) #[true, true, true, true, true, true, true, true, true, false, false, false, false, false, false, false, false, false, false] rfl rfl (by kernel_rfl) (fun _ _ _ h => h) (Or.inr ⟨by rfl, rfl⟩) ?_ ?_
          rotate_left
          · simp only [Act.put, List.setIfInBounds_toArray, List.set_cons_zero, List.set_cons_succ, i64_w, i32_w]
            rfl
          refine pure_ (i := 9) (N := some 31) (v := undef) (a' := ?_) #[true, true, true, true, true, true, true, true, true, true, false, false, false, false, false, false, false, false, false] rfl rfl (by kernel_rfl) (fun _ _ _ h => h) (Or.inr ⟨by rfl, rfl⟩) ?_ ?_
          rotate_left
          · simp only [Act.put, List.setIfInBounds_toArray, List.set_cons_zero, List.set_cons_succ, i64_w, i32_w]
            rfl
          refine pure_ (i := 10) (N := some 32) (v := undef) (a' := ?_) #[true, true, true, true, true, true, true, true, true, true, true, false, false, false, false, false, false, false, false] rfl rfl (by kernel_rfl) (fun _ _ _ h => h) (Or.inr ⟨by rfl, rfl⟩) ?_ ?_
          rotate_left
          · simp only [Act.put, List.setIfInBounds_toArray, List.set_cons_zero, List.set_cons_succ, i64_w, i32_w]
            rfl
          refine pure_ (i := 11) (N := some 33) (v := undef) (a' := ?_) #[true, true, true, true, true, true, true, true, true, true, true, true, false, false, false, false, false, false, false] rfl rfl (by kernel_rfl) (fun _ _ _ h => h) (Or.inr ⟨by rfl, rfl⟩) ?_ ?_
          rotate_left
          · simp only [Act.put, List.setIfInBounds_toArray, List.set_cons_zero, List.set_cons_succ, i64_w, i32_w]
            rfl
          refine pure_ (i := 12) (N := some 34) (v := undef) (a' := ?_) #[true, true, true, true, true, true, true, true, true, true, true, true, true, false, false, false, false, false, false] rfl rfl (by kernel_rfl) (fun _ _ _ h => h) (Or.inr ⟨by rfl, rfl⟩) ?_ ?_
          rotate_left
          · simp only [Act.put, List.setIfInBounds_toArray, List.set_cons_zero, List.set_cons_succ, i64_w, i32_w]
            rfl
          refine pure_ (i := 13) (N := some 35) (v := undef) (a' := ?_) #[true, true, true, true, true, true, true, true, true, true, true, true, true, true, false, false, false, false, false] rfl rfl (by kernel_rfl) (fun _ _ _ h => h) (Or.inr ⟨by rfl, rfl⟩) ?_ ?_
          rotate_left
          · simp only [Act.put, List.setIfInBounds_toArray, List.set_cons_zero, List.set_cons_succ, i64_w, i32_w]
            rfl
          refine pure_ (i := 14) (N := some 36) (v := undef) (a' := ?_) #[true, true, true, true, true, true, true, true, true, true, true, true, true, true, true, false, false, false, false] rfl rfl (by kernel_rfl) (fun _ _ _ h => h) (Or.inr ⟨by rfl, rfl⟩) ?_ ?_
          rotate_left
          · simp only [Act.put, List.setIfInBounds_toArray, List.set_cons_zero, List.set_cons_succ, i64_w, i32_w]
            rfl
          refine pure_ (i := 15) (N := some 37) (v := undef) (a' := ?_) #[true, true, true, true, true, true, true, true, true, true, true, true, true, true, true, true, false, false, false] rfl rfl (by kernel_rfl) (fun _ _ _ h => h) (Or.inr ⟨by rfl, rfl⟩) ?_ ?_
          rotate_left
          · simp only [Act.put, List.setIfInBounds_toArray, List.set_cons_zero, List.set_cons_succ, i64_w, i32_w]
            rfl
          refine pure_ (i := 16) (N := some 38) (v := undef) (a' := ?_) #[true, true, true, true, true, true, true, true, true, true, true, true, true, true, true, true, true, false, false] rfl rfl (by kernel_rfl) (fun _ _ _ h => h) (Or.inr ⟨by rfl, rfl⟩) ?_ ?_
          rotate_left
          · simp only [Act.put, List.setIfInBounds_toArray, List.set_cons_zero, List.set_cons_succ, i64_w, i32_w]
            rfl
          refine pure_ (i := 17) (N := some 39) (v := undef) (a' := ?_) #[true, true, true, true, true, true, true, true, true, true, true, true, true, true, true, true, true, true, false] rfl rfl (by kernel_rfl) (fun _ _ _ h => h) (Or.inr ⟨by rfl, rfl⟩) ?_ ?_
          rotate_left
          · simp only [Act.put, List.setIfInBounds_toArray, List.set_cons_zero, List.set_cons_succ, i64_w, i32_w]
            rfl
          refine pure_ (i := 18) (N := some 40) (v := ?_) (a' := ?_) #[true, true, true, true, true, true, true, true, true, true, true, true, true, true, true, true, true, true, true] rfl rfl (by kernel_rfl) (fun _ _ _ h => h) (Or.inl ⟨by rfl, ?_⟩) ?_ ?_
          rotate_left
          · intro w'
            go_simp
            with_reducible rfl
          rotate_left
          · simp only [Act.put, List.setIfInBounds_toArray, List.set_cons_zero, List.set_cons_succ, i64_w, i32_w]
            rfl
          refine done_ (by kernel_rfl) ?_
          go_wp2
          go_meet
          case rel => exact ⟨_, rfl, ⟨by simp [hm]⟩, mHB, mBT, mBX, mRN, mRT⟩
        | true =>
          rcases Nat.eq_zero_or_pos i with h0 | h0
          · subst h0
            refine start_ (n := 19) (S := fun w' => w'.cell? ⟨wr.heap.size, 0, none⟩ = some (.string x.n) ∧ w'.cell? ⟨wr.heap.size, 1, none⟩ = some (.int .i64 x.t.f0) ∧ w'.cell? ⟨wr.heap.size, 2, none⟩ = some (.int .i64 x.t.f1) ∧ w'.cell? ⟨wr.heap.size, 3, none⟩ = some (.slice x.A2 x.t.f2.length x.c2) ∧ w'.cell? ⟨wr.heap.size, 4, none⟩ = some (.slice x.A3 x.t.f3.length x.c3)) (ds := []) #[false, false, false, false, false, false, false, false, false, false, false, false, false, false, false, false, false, false, false] (by kernel_rfl) rfl rfl ⟨t0, t1, t2, t3, t4⟩ (fun hHeld => ?_)
            refine pure_ (i := 0) (N := some 22) (v := ?_) (a' := ?_) #[true, false, false, false, false, false, false, false, false, false, false, false, false, false, false, false, false, false, false] rfl rfl (by kernel_rfl) (fun _ _ _ h => h) (Or.inl ⟨by rfl, ?_⟩) ?_ ?_
            rotate_left
            · intro w'
              go_simp
              with_reducible rfl
            rotate_left
            · simp only [Act.put, List.setIfInBounds_toArray, List.set_cons_zero, List.set_cons_succ, i64_w, i32_w]
              rfl
            refine take_ (i := 1) (N := some 23) (v := ?_) (a' := ?_) #[true, true, false, false, false, false, false, false, false, false, false, false, false, false, false, false, false, false, false] rfl rfl (by kernel_rfl) (fun _ _ _ h => h) (Or.inl ⟨by rfl, ?_⟩) hHeld ?_ ?_
            rotate_left
            · rintro w' ⟨s0, s1, s2, s3, s4⟩
              go_simp
              with_reducible rfl
            rotate_left
            · simp only [Act.put, List.setIfInBounds_toArray, List.set_cons_zero, List.set_cons_succ, i64_w, i32_w]
              rfl
            refine one_ (i := 2) (N := some 24) #[true, true, true, false, false, false, false, false, false, false, false, false, false, false, false, false, false, false, false] rfl rfl (by kernel_rfl) (by decide) (fun K hK => ?_)
            refine call_ 36 #[.agg #[.int .i64 x.t.f0, .int .i64 x.t.f1, .slice x.A2 x.t.f2.length x.c2, .slice x.A3 x.t.f3.length x.c3]] (by rfl) rfl ?_ ?_
            · go_simp
              try rfl
            refine (types_may.calls Km _ _ _ _ _ _ _ _ _ _ (Kd.C_drew RX.out.2.1) RX.out.1 (Kd.C_drew RX.out.2.2.2) RX.out.2.2.1 EM.out).mono ?_
            rintro e w3 ⟨rfl, hb⟩
            refine ⟨_, rfl, ?_⟩
            have mHB := Aside0.mk (below_step (below_drew1 HBa.out) hb)
            have mBT := Aside0.mk (blk_below (blk_drew BTa.out) hb)
            have mBX := Aside0.mk (blk_below (blk_drew BX.out) hb)
            have mRN := Aside0.mk (Kd.R_below (Kd.R_drew RNa.out) hb)
            have mRT := Aside0.mk (Kd.R_below (Kd.R_drew RTa.out) hb)
            refine hK.out _ _ ⟨pw_cell_below hb hHeld.1, pw_cell_below hb hHeld.2.1, pw_cell_below hb hHeld.2.2.1, pw_cell_below hb hHeld.2.2.2.1, pw_cell_below hb hHeld.2.2.2.2⟩ (fun hHeld => ?_)
            clear hK K
            refine norm_ (a' := ?_) ?_ ?_
            rotate_left
            · show Act.put _ (some 24) _ = _
              simp only [Act.put, List.setIfInBounds_toArray, List.set_cons_zero, List.set_cons_succ, i64_w, i32_w]
              rfl
            refine pure_ (i := 3) (N := some 25) (v := ?_) (a' := ?_) #[true, true, true, true, false, false, false, false, false, false, false, false, false, false, false, false, false, false, false] rfl rfl (by kernel_rfl) (fun _ _ _ h => h) (Or.inl ⟨by rfl, ?_⟩) ?_ ?_
            rotate_left
            · intro w'
              go_simp
              with_reducible rfl
            rotate_left
            · simp only [Act.put, List.setIfInBounds_toArray, List.set_cons_zero, List.set_cons_succ, i64_w, i32_w]
              rfl
            refine pure_ (i := 4) (N := some 26) (v := ?_) (a' := ?_) #[true, true, true, true, true, false, false, false, false, false, false, false, false, false, false, false, false, false, false] rfl rfl (by kernel_rfl) (fun _ _ _ h => h) (Or.inl ⟨by rfl, ?_⟩) ?_ ?_
            rotate_left
            · intro w'
              go_simp
              with_reducible rfl
            rotate_left
            · simp only [Act.put, List.setIfInBounds_toArray, List.set_cons_zero, List.set_cons_succ, i64_w, i32_w]
              rfl
            refine pure_ (i := 5) (N := some 27) (v := ?_) (a' := ?_) #[true, true, true, true, true, true, false, false, false, false, false, false, false, false, false, false, false, false, false] rfl rfl (by kernel_rfl) (fun _ _ _ h => h) (Or.inl ⟨by rfl, ?_⟩) ?_ ?_
            rotate_left
            · intro w'
              go_simp
              with_reducible rfl
            rotate_left
            · simp only [Act.put, List.setIfInBounds_toArray, List.set_cons_zero, List.set_cons_succ, i64_w, i32_w]
              rfl
            refine pure_ (i := 6) (N := some 28) (v := ?_) (a' := ?_) #[true, true, true, true, true, true, true, false, false, false, false, false, false, false, false, false, false, false, false] rfl rfl (by kernel_rfl) (fun _ _ _ h => h) (Or.inl ⟨by rfl, ?_⟩) ?_ ?_
            rotate_left
            · intro w'
              go_simp
              with_reducible rfl
            rotate_left
            · simp only [Act.put, List.setIfInBounds_toArray, List.set_cons_zero, List.set_cons_succ, i64_w, i32_w]
              rfl
            refine pure_ (i := 7) (N := some 29) (v := ?_) (a' := ?_) #[true, true, true, true, true, true, true, true, false, false, false, false, false, false, false, false, false, false, false] rfl rfl (by kernel_rfl) (fun _ _ _ h => h) (Or.inl ⟨by rfl, ?_⟩) ?_ ?_
            rotate_left
            · intro w'
              go_simp
              with_reducible rfl
            rotate_left
            · simp only [Act.put, List.setIfInBounds_toArray, List.set_cons_zero, List.set_cons_succ, i64_w, i32_w]
              rfl
            refine pure_ (i := 8) (N := some 30) (v := undef) (a' := ?_) #[true, true, true, true, true, true, true, true, true, false, false, false, false, false, false, false, false, false, false] rfl rfl (by kernel_rfl) (fun _ _ _ h => h) (Or.inr ⟨by rfl, rfl⟩) ?_ ?_
            rotate_left
            · simp only [Act.put, List.setIfInBounds_toArray, List.set_cons_zero, List.set_cons_succ, i64_w, i32_w]
              rfl
            refine pure_ (i := 9) (N := some 31) (v := undef) (a' := ?_) #[true, true, true, true, true, true, true, true, true, true, false, false, false, false, false, false, false, false, false] rfl rfl (by kernel_rfl) (fun _ _ _ h => h) (Or.inr ⟨by rfl, rfl⟩) ?_ ?_
            rotate_left
            · simp only [Act.put, List.setIfInBounds_toArray, List.set_cons_zero, List.set_cons_succ, i64_w, i32_w]
              rfl
            refine pure_ (i := 10) (N := some 32) (v := undef) (a' := ?_) #[true, true, true, true, true, true, true, true, true, true, true, false, false, false, false, false, false, false, false] rfl rfl (by kernel_rfl) (fun _ _ _ h => h) (Or.inr ⟨by rfl, rfl⟩) ?_ ?_
            rotate_left
            · simp only [Act.put, List.setIfInBounds_toArray, List.set_cons_zero, List.set_cons_succ, i64_w, i32_w]
              rfl
            refine pure_ (i := 11) (N := some 33) (v := undef) (a' := ?_) #[true, true, true, true, true, true, true, true, true, true, true, true, false, false, false, false, false, false, false] rfl rfl (by kernel_rfl) (fun _ _ _ h => h) (Or.inr ⟨by rfl, rfl⟩) ?_ ?_
            rotate_left
            · simp only [Act.put, List.setIfInBounds_toArray, List.set_cons_zero, List.set_cons_succ, i64_w, i32_w]
              rfl
            refine pure_ (i := 12) (N := some 34) (v := undef) (a' := ?_) #[true, true, true, true, true, true, true, true, true, true, true, true, true, false, false, false, false, false, false] rfl rfl (by kernel_rfl) (fun _ _ _ h => h) (Or.inr ⟨by rfl, rfl⟩) ?_ ?_
            rotate_left
            · simp only [Act.put, List.setIfInBounds_toArray, List.set_cons_zero, List.set_cons_succ, i64_w, i32_w]
              rfl
            refine pure_ (i := 13) (N := some 35) (v := undef) (a' := ?_) #[true, true, true, true, true, true, true, true, true, true, true, true, true, true, false, false, false, false, false] rfl rfl (by kernel_rfl) (fun _ _ _ h => h) (Or.inr ⟨by rfl, rfl⟩) ?_ ?_
            rotate_left
            · simp only [Act.put, List.setIfInBounds_toArray, List.set_cons_zero, List.set_cons_succ, i64_w, i32_w]
              rfl
            refine pure_ (i := 14) (N := some 36) (v := undef) (a' := ?_) #[true, true, true, true, true, true, true, true, true, true, true, true, true, true, true, false, false, false, false] rfl rfl (by kernel_rfl) (fun _ _ _ h => h) (Or.inr ⟨by rfl, rfl⟩) ?_ ?_
            rotate_left
            · simp only [Act.put, List.setIfInBounds_toArray, List.set_cons_zero, List.set_cons_succ, i64_w, i32_w]
              rfl
            refine pure_ (i := 15) (N := some 37) (v := undef) (a' := ?_) #[true, true, true, true, true, true, true, true, true, true, true, true, true, true, true, true, false, false, false] rfl rfl (by kernel_rfl) (fun _ _ _ h => h) (Or.inr ⟨by rfl, rfl⟩) ?_ ?_
            rotate_left
            · simp only [Act.put, List.setIfInBounds_toArray, List.set_cons_zero, List.set_cons_succ, i64_w, i32_w]
              rfl
            refine pure_ (i := 16) (N := some 38) (v := undef) (a' := ?_) #[true, true, true, true, true, true, true, true, true, true, true, true, true, true, true, true, true, false, false] rfl rfl (by kernel_rfl) (fun _ _ _ h => h) (Or.inr ⟨by rfl, rfl⟩) ?_ ?_
            rotate_left
            · simp only [Act.put, List.setIfInBounds_toArray, List.set_cons_zero, List.set_cons_succ, i64_w, i32_w]
              rfl
            refine pure_ (i := 17) (N := some 39) (v := ?_) (a' := ?_) #[true, true, true, true, true, true, true, true, true, true, true, true, true, true, true, true, true, true, false] rfl rfl (by kernel_rfl) (fun _ _ _ h => h) (Or.inl ⟨by rfl, ?_⟩) ?_ ?_
            rotate_left
            · intro w'
              go_simp
              with_reducible rfl
            rotate_left
            · simp only [Act.put, List.setIfInBounds_toArray, List.set_cons_zero, List.set_cons_succ, i64_w, i32_w]
              rfl
            refine pure_ (i := 18) (N := some 40) (v := ?_) (a' := ?_) #[true, true, true, true, true, true, true, true, true, true, true, true, true, true, true, true, true, true, true] rfl rfl (by kernel_rfl) (fun _ _ _ h => h) (Or.inl ⟨by rfl, ?_⟩) ?_ ?_
            rotate_left
            · intro w'
              go_simp
              with_reducible rfl
            rotate_left
            · simp only [Act.put, List.setIfInBounds_toArray, List.set_cons_zero, List.set_cons_succ, i64_w, i32_w]
              rfl
            refine done_ (by kernel_rfl) ?_
            go_wp2
            go_meet
            case rel => exact ⟨_, rfl, ⟨by simp [hm]⟩, mHB, mBT, mBX, mRN, mRT⟩
          · obtain ⟨m, rfl⟩ : ∃ m, i = m + 1 := ⟨i - 1, by omega⟩
            have HH : Aside0 (Go.Sort.HoldsK Cm.enc 5 wx gs 0 d) := ⟨Go.Srt.holdsK_below DH.out hgl HBa.out⟩
            have q0 := (holds_cells5 HH.out (show m < d.size by omega)).1
            generalize hy : d[m]! = y at *
            have HY := Aside0.mk hy
            clear hy
            have hmw : wrap64 (m : Int) = (m : Int) := by unfold wrap64; omega
            have hml : ((m : Int) < (l0.length : Int)) = True := eq_true (by omega)
            have hmg : ((0 : Int) ≤ (m : Int)) = True := by simp
            have hg0 : ((0 : Int) < (m : Int) + 1) = True := eq_true (by omega)
            refine start_ (n := 19) (S := fun w' => w'.cell? ⟨w1.heap.size, 0, none⟩ = some (.slice (some ⟨gs, 0, none⟩) l0.length cv) ∧ w'.cell? ⟨gs, m * 5, none⟩ = some (.string y.n) ∧ w'.cell? ⟨wr.heap.size, 0, none⟩ = some (.string x.n) ∧ w'.cell? ⟨wr.heap.size, 1, none⟩ = some (.int .i64 x.t.f0) ∧ w'.cell? ⟨wr.heap.size, 2, none⟩ = some (.int .i64 x.t.f1) ∧ w'.cell? ⟨wr.heap.size, 3, none⟩ = some (.slice x.A2 x.t.f2.length x.c2) ∧ w'.cell? ⟨wr.heap.size, 4, none⟩ = some (.slice x.A3 x.t.f3.length x.c3)) (ds := []) #[false, false, false, false, false, false, false, false, false, false, false, false, false, false, false, false, false, false, false] (by kernel_rfl) rfl rfl ⟨c4, q0, t0, t1, t2, t3, t4⟩ (fun hHeld => ?_)
            refine pure_ (i := 0) (N := some 22) (v := ?_) (a' := ?_) #[true, false, false, false, false, false, false, false, false, false, false, false, false, false, false, false, false, false, false] rfl rfl (by kernel_rfl) (fun _ _ _ h => h) (Or.inl ⟨by rfl, ?_⟩) ?_ ?_
            rotate_left
            · intro w'
              go_simp
              with_reducible rfl
            rotate_left
            · simp only [Act.put, List.setIfInBounds_toArray, List.set_cons_zero, List.set_cons_succ, i64_w, i32_w]
              rfl
            refine take_ (i := 1) (N := some 23) (v := ?_) (a' := ?_) #[true, true, false, false, false, false, false, false, false, false, false, false, false, false, false, false, false, false, false] rfl rfl (by kernel_rfl) (fun _ _ _ h => h) (Or.inl ⟨by rfl, ?_⟩) hHeld ?_ ?_
            rotate_left
            · rintro w' ⟨s5, s6, s0, s1, s2, s3, s4⟩
              go_simp
              with_reducible rfl
            rotate_left
            · simp only [Act.put, List.setIfInBounds_toArray, List.set_cons_zero, List.set_cons_succ, i64_w, i32_w]
              rfl
            refine one_ (i := 2) (N := some 24) #[true, true, true, false, false, false, false, false, false, false, false, false, false, false, false, false, false, false, false] rfl rfl (by kernel_rfl) (by decide) (fun K hK => ?_)
            refine call_ 36 #[.agg #[.int .i64 x.t.f0, .int .i64 x.t.f1, .slice x.A2 x.t.f2.length x.c2, .slice x.A3 x.t.f3.length x.c3]] (by rfl) rfl ?_ ?_
            · go_simp
              try rfl
            refine (types_may.calls Km _ _ _ _ _ _ _ _ _ _ (Kd.C_drew RX.out.2.1) RX.out.1 (Kd.C_drew RX.out.2.2.2) RX.out.2.2.1 EM.out).mono ?_
            rintro e w3 ⟨rfl, hb⟩
            refine ⟨_, rfl, ?_⟩
            have mHB := Aside0.mk (below_step (below_drew1 HBa.out) hb)
            have mBT := Aside0.mk (blk_below (blk_drew BTa.out) hb)
            have mBX := Aside0.mk (blk_below (blk_drew BX.out) hb)
            have mRN := Aside0.mk (Kd.R_below (Kd.R_drew RNa.out) hb)
            have mRT := Aside0.mk (Kd.R_below (Kd.R_drew RTa.out) hb)
            refine hK.out _ _ ⟨pw_cell_below hb hHeld.1, pw_cell_below hb hHeld.2.1, pw_cell_below hb hHeld.2.2.1, pw_cell_below hb hHeld.2.2.2.1, pw_cell_below hb hHeld.2.2.2.2.1, pw_cell_below hb hHeld.2.2.2.2.2.1, pw_cell_below hb hHeld.2.2.2.2.2.2⟩ (fun hHeld => ?_)
            clear hK K
            refine norm_ (a' := ?_) ?_ ?_
            rotate_left
            · show Act.put _ (some 24) _ = _
              simp only [Act.put, List.setIfInBounds_toArray, List.set_cons_zero, List.set_cons_succ, i64_w, i32_w]
              rfl
            refine pure_ (i := 3) (N := some 25) (v := ?_) (a' := ?_) #[true, true, true, true, false, false, false, false, false, false, false, false, false, false, false, false, false, false, false] rfl rfl (by kernel_rfl) (fun _ _ _ h => h) (Or.inl ⟨by rfl, ?_⟩) ?_ ?_
            rotate_left
            · intro w'
              go_simp
              with_reducible rfl
            rotate_left
            · simp only [Act.put, List.setIfInBounds_toArray, List.set_cons_zero, List.set_cons_succ, i64_w, i32_w]
              rfl
            refine pure_ (i := 4) (N := some 26) (v := ?_) (a' := ?_) #[true, true, true, true, true, false, false, false, false, false, false, false, false, false, false, false, false, false, false] rfl rfl (by kernel_rfl) (fun _ _ _ h => h) (Or.inl ⟨by rfl, ?_⟩) ?_ ?_
            rotate_left
            · intro w'
              go_simp
              with_reducible rfl
            rotate_left
            · simp only [Act.put, List.setIfInBounds_toArray, List.set_cons_zero, List.set_cons_succ, i64_w, i32_w]
              rfl
            refine pure_ (i := 5) (N := some 27) (v := ?_) (a' := ?_) #[true, true, true, true, true, true, false, false, false, false, false, false, false, false, false, false, false, false, false] rfl rfl (by kernel_rfl) (fun _ _ _ h => h) (Or.inl ⟨by rfl, ?_⟩) ?_ ?_
            rotate_left
            · intro w'
              go_simp
              with_reducible rfl
            rotate_left
            · simp only [Act.put, List.setIfInBounds_toArray, List.set_cons_zero, List.set_cons_succ, i64_w, i32_w]
              rfl
            refine pure_ (i := 6) (N := some 28) (v := ?_) (a' := ?_) #[true, true, true, true, true, true, true, false, false, false, false, false, false, false, false, false, false, false, false] rfl rfl (by kernel_rfl) (fun _ _ _ h => h) (Or.inl ⟨by rfl, ?_⟩) ?_ ?_
            rotate_left
            · intro w'
              go_simp
              with_reducible rfl
            rotate_left
            · simp only [Act.put, List.setIfInBounds_toArray, List.set_cons_zero, List.set_cons_succ, i64_w, i32_w]
              rfl
            refine pure_ (i := 7) (N := some 29) (v := ?_) (a' := ?_) #[true, true, true, true, true, true, true, true, false, false, false, false, false, false, false, false, false, false, false] rfl rfl (by kernel_rfl) (fun _ _ _ h => h) (Or.inl ⟨by rfl, ?_⟩) ?_ ?_
            rotate_left
            · intro w'
              go_simp
              with_reducible rfl
            rotate_left
            · simp only [Act.put, List.setIfInBounds_toArray, List.set_cons_zero, List.set_cons_succ, i64_w, i32_w]
              rfl
            refine pure_ (i := 9) (N := some 31) (v := ?_) (a' := ?_) #[true, true, true, true, true, true, true, true, false, true, false, false, false, false, false, false, false, false, false] rfl rfl (by kernel_rfl) (fun _ _ _ h => h) (Or.inl ⟨by rfl, ?_⟩) ?_ ?_
            rotate_left
            · intro w'
              go_simp
              with_reducible rfl
            rotate_left
            · simp only [Act.put, List.setIfInBounds_toArray, List.set_cons_zero, List.set_cons_succ, i64_w, i32_w]
              rfl
            refine pure_ (i := 10) (N := some 32) (v := ?_) (a' := ?_) #[true, true, true, true, true, true, true, true, false, true, true, false, false, false, false, false, false, false, false] rfl rfl (by kernel_rfl) (fun _ _ _ h => h) (Or.inl ⟨by rfl, ?_⟩) ?_ ?_
            rotate_left
            · intro w'
              go_simp
              with_reducible rfl
            rotate_left
            · simp only [Act.put, List.setIfInBounds_toArray, List.set_cons_zero, List.set_cons_succ, i64_w, i32_w]
              rfl
            refine pure_ (i := 14) (N := some 36) (v := ?_) (a' := ?_) #[true, true, true, true, true, true, true, true, false, true, true, false, false, false, true, false, false, false, false] rfl rfl (by kernel_rfl) (fun _ _ _ h => h) (Or.inl ⟨by rfl, ?_⟩) ?_ ?_
            rotate_left
            · intro w'
              go_simp
              with_reducible rfl
            rotate_left
            · simp only [Act.put, List.setIfInBounds_toArray, List.set_cons_zero, List.set_cons_succ, i64_w, i32_w]
              rfl
            refine take_ (i := 8) (N := some 30) (v := ?_) (a' := ?_) #[true, true, true, true, true, true, true, true, true, true, true, false, false, false, true, false, false, false, false] rfl rfl (by kernel_rfl) (fun _ _ _ h => h) (Or.inl ⟨by rfl, ?_⟩) hHeld ?_ ?_
            rotate_left
            · rintro w' ⟨s5, s6, s0, s1, s2, s3, s4⟩
              go_simp
              with_reducible rfl
            rotate_left
            · simp only [Act.put, List.setIfInBounds_toArray, List.set_cons_zero, List.set_cons_succ, i64_w, i32_w]
              rfl
            refine pure_ (i := 11) (N := some 33) (v := ?_) (a' := ?_) #[true, true, true, true, true, true, true, true, true, true, true, true, false, false, true, false, false, false, false] rfl rfl (by kernel_rfl) (fun _ _ _ h => h) (Or.inl ⟨by rfl, ?_⟩) ?_ ?_
            rotate_left
            · intro w'
              go_simp
              with_reducible rfl
            rotate_left
            · simp only [Act.put, List.setIfInBounds_toArray, List.set_cons_zero, List.set_cons_succ, i64_w, i32_w]
              rfl
            refine pure_ (i := 12) (N := some 34) (v := ?_) (a' := ?_) #[true, true, true, true, true, true, true, true, true, true, true, true, true, false, true, false, false, false, false] rfl rfl (by kernel_rfl) (fun _ _ _ h => h) (Or.inl ⟨by rfl, ?_⟩) ?_ ?_
            rotate_left
            · intro w'
              go_simp
              with_reducible rfl
            rotate_left
            · simp only [Act.put, List.setIfInBounds_toArray, List.set_cons_zero, List.set_cons_succ, i64_w, i32_w]
              rfl
            refine take_ (i := 13) (N := some 35) (v := ?_) (a' := ?_) #[true, true, true, true, true, true, true, true, true, true, true, true, true, true, true, false, false, false, false] rfl rfl (by kernel_rfl) (fun _ _ _ h => h) (Or.inl ⟨by rfl, ?_⟩) hHeld ?_ ?_
            rotate_left
            · rintro w' ⟨s5, s6, s0, s1, s2, s3, s4⟩
              go_simp
              with_reducible rfl
            rotate_left
            · simp only [Act.put, List.setIfInBounds_toArray, List.set_cons_zero, List.set_cons_succ, i64_w, i32_w]
              rfl
            refine take_ (i := 15) (N := some 37) (v := ?_) (a' := ?_) #[true, true, true, true, true, true, true, true, true, true, true, true, true, true, true, true, false, false, false] rfl rfl (by kernel_rfl) (fun _ _ _ h => h) (Or.inl ⟨by rfl, ?_⟩) hHeld ?_ ?_
            rotate_left
            · rintro w' ⟨s5, s6, s0, s1, s2, s3, s4⟩
              go_simp
              with_reducible rfl
            rotate_left
            · simp only [Act.put, List.setIfInBounds_toArray, List.set_cons_zero, List.set_cons_succ, i64_w, i32_w]
              rfl
            refine pure_ (i := 16) (N := some 38) (v := ?_) (a' := ?_) #[true, true, true, true, true, true, true, true, true, true, true, true, true, true, true, true, true, false, false] rfl rfl (by kernel_rfl) (fun _ _ _ h => h) (Or.inl ⟨by rfl, ?_⟩) ?_ ?_
            rotate_left
            · intro w'
              go_simp
              with_reducible rfl
            rotate_left
            · simp only [Act.put, List.setIfInBounds_toArray, List.set_cons_zero, List.set_cons_succ, i64_w, i32_w]
              rfl
            refine pure_ (i := 17) (N := some 39) (v := ?_) (a' := ?_) #[true, true, true, true, true, true, true, true, true, true, true, true, true, true, true, true, true, true, false] rfl rfl (by kernel_rfl) (fun _ _ _ h => h) (Or.inl ⟨by rfl, ?_⟩) ?_ ?_
            rotate_left
            · intro w'
              go_simp
              with_reducible rfl
            rotate_left
            · simp only [Act.put, List.setIfInBounds_toArray, List.set_cons_zero, List.set_cons_succ, i64_w, i32_w]
              rfl
            refine pure_ (i := 18) (N := some 40) (v := ?_) (a' := ?_) #[true, true, true, true, true, true, true, true, true, true, true, true, true, true, true, true, true, true, true] rfl rfl (by kernel_rfl) (fun _ _ _ h => h) (Or.inl ⟨by rfl, ?_⟩) ?_ ?_
            rotate_left
            · intro w'
              go_simp
              with_reducible rfl
            rotate_left
            · simp only [Act.put, List.setIfInBounds_toArray, List.set_cons_zero, List.set_cons_succ, i64_w, i32_w]
              rfl
            refine done_ (by kernel_rfl) ?_
            go_wp2
            go_meet
            case rel => exact ⟨_, rfl, ⟨by rw [show d[m + 1 - 1]! = y from HY.out]; simp [hm]; exact ⟨toList_inj, fun e => by rw [e]⟩⟩, mHB, mBT, mBX, mRN, mRT⟩
      clear HBa BTa RNa RTa BX
      obtain ⟨b, rfl, HB7, HBl, BTl, BX, RN, RT⟩ := hcut
      cases b with
      | true =>
        have hbad : recordT (l0.map slOf) = (zeroT, 1) := by
          refine record_bad DP.out ?_
          rcases HB7.out.1 rfl with h1 | ⟨h0, h1⟩
          · left
            refine ⟨slOf x.s, List.mem_map_of_mem (f := fun x : Cm => slOf x.s) ?_, h1⟩
            rw [← HXI.out, getElem!_pos d i (by omega)]; simp
          · right
            refine ⟨i - 1, by simp; omega, ?_⟩
            rw [← HXI.out, getElem!_pos d i (by omega), getElem!_pos d (i - 1) (by omega)] at h1
            have e : i - 1 + 1 = i := by omega
            simp only [List.getElem_map, Array.getElem_toList, e]
            exact h1
        have HU := Aside0.mk hbad
        clear hbad
        have B0w := Aside0.mk (blk_below B02.out HBl.out)
        obtain ⟨⟨z0, z1, z2, z3⟩, y0, y1, y2, y3⟩ := box4 B0w.out
        go_wp2
        refine bodyPost_ret (results_ct rfl _ _ w.heap.size 25 #[.int .i64 0, .int .i64 0, .slice none 0 0, .slice none 0 0] (0, 0) _ rfl (put4 B0w.out) Tryd.underlying25 rfl (by kernel_rfl)) rfl ?_
        rw [HU.out]
        exact ⟨_, _, rfl, Kd.R_nil _ _ _ _ _, Kd.R_nil _ _ _ _ _, below_put4 (below_step HB2.out HBl.out) (Nat.le_refl _)⟩
      | false =>
        obtain ⟨Na, nc, en⟩ := Kd.R_slice RN.out
        subst en
        obtain ⟨t0, t1, t2, t3, t4⟩ := box5 BX.out
        obtain ⟨⟨b0, b1, b2, b3⟩, fb0, fb1, fb2, fb3⟩ := box4 BTl.out
        have HNL : Aside0 ((namesTo d i).length = i) := ⟨by unfold namesTo; simp⟩
        go_wp2_with ((with_reducible refine gate_dst (N := 47) rfl ?_); refine Kd.R_append Kd.string (w0 := wc) (w2.heap.size + 1) rfl (.tmp 43) (.tmp 46) 22 9 (.string ⟨#[]⟩) 16 rfl Tryd.underlying22 info9 rfl (by decide) (by omega) (.slice Na (namesTo d i).length nc) (namesTo d i) x.n [.string x.n] (fun _ => True) (fun _ => False) rfl rfl rfl (fun _ h => h.elim) (fun _ _ => trivial) RN.out (Below.refl _ _) (by have := blk_lt BX.out; omega) (by have := HNL.out; omega) ?_; intro v1 w4 ho _ hg hat; have nHB := Aside0.mk (HBl.out.grown hg HBl.out.size (fun k hk => by have := hownN k hk; omega)); have nBT := Aside0.mk (blk_grown BTl.out hg (fun hk => by have := hownN _ hk.symm; omega)); have nBX := Aside0.mk (blk_grown BX.out hg (fun hk => by have := hownN _ hk.symm; omega)); have nRT := Aside0.mk (Kd.R_mono (ok' := fun k => some k ≠ v1.ownBlock) (Kd.R_grown (Kd.R_bound RT.out) hg (fun k hk => hk.1)) (fun k hk => by rcases hat with h | ⟨b, h, hb⟩; (· rw [h]; exact hk.1); (· rw [h]; intro e; injection e with e; have := hk.2.2.1; omega))); rw [← HNn.out] at ho; obtain ⟨Nb, nd, ev⟩ := Kd.R_slice ho; subst ev; have nRN := Aside0.mk ho; clear ho hg hat HBl BTl BX RT RN t0 t1 t2 t3 t4 b0 b1 b2 b3 fb0 fb1 fb2 fb3; obtain ⟨t0, t1, t2, t3, t4⟩ := box5 nBX.out; obtain ⟨⟨b0, b1, b2, b3⟩, fb0, fb1, fb2, fb3⟩ := box4 nBT.out)
        obtain ⟨Ta, tc, et⟩ := Kd.R_slice nRT.out
        subst et
        have HB5 := Aside0.mk (nHB.out.setCell (p := ⟨w2.heap.size, 2, none⟩) (Nat.le_refl _) (.slice Nb (namesTo d (i + 1)).length nd))
        have BT5 := Aside0.mk (blk_put (cs := #[_, _, _, _]) nBT.out 2 (.slice Nb (namesTo d (i + 1)).length nd) rfl)
        have BX5 : Aside0 ((w4.setCell ⟨w2.heap.size, 2, none⟩ (.slice Nb (namesTo d (i + 1)).length nd)).heap[wr.heap.size]? = _) := ⟨blk_far nBX.out (show wr.heap.size ≠ w2.heap.size by omega) _⟩
        have RN5 := Aside0.mk (keep1 (o := 2) (u := .slice Nb (namesTo d (i + 1)).length nd) nRN.out)
        have RT5 := Aside0.mk (keep1 (o := 2) (u := .slice Nb (namesTo d (i + 1)).length nd) nRT.out)
        generalize w4.setCell ⟨w2.heap.size, 2, none⟩ (.slice Nb (namesTo d (i + 1)).length nd) = w5 at *
        clear nHB nBT nBX nRN nRT t0 t1 t2 t3 t4 b0 b1 b2 b3 fb0 fb1 fb2 fb3
        obtain ⟨t0, t1, t2, t3, t4⟩ := box5 BX5.out
        have u3 := (box4 BT5.out).1.2.2.2
        obtain ⟨Kp, hKp⟩ := copied_ev x.t (by have := HWX.out; omega)
        have EP := Aside0.mk (hKp Kp (Nat.le_refl _))
        clear hKp
        have HTL : Aside0 ((typesTo d i).length = i) := ⟨by unfold typesTo; simp⟩
        have RX := Aside0.mk (rows_below ROWX.out HB5.out)
        have hown5 : ∀ k, (Value.slice Nb (namesTo d (i + 1)).length nd).ownBlock = some k → k < w5.heap.size := fun k hk => ((Kd.R_bound RN5.out).1 k hk).2.2.1
        refine start_ (n := 9) (S := fun w' => w'.cell? ⟨w2.heap.size, 3, none⟩ = some (.slice Ta (typesTo d i).length tc) ∧ w'.cell? ⟨wr.heap.size, 0, none⟩ = some (.string x.n) ∧ w'.cell? ⟨wr.heap.size, 1, none⟩ = some (.int .i64 x.t.f0) ∧ w'.cell? ⟨wr.heap.size, 2, none⟩ = some (.int .i64 x.t.f1) ∧ w'.cell? ⟨wr.heap.size, 3, none⟩ = some (.slice x.A2 x.t.f2.length x.c2) ∧ w'.cell? ⟨wr.heap.size, 4, none⟩ = some (.slice x.A3 x.t.f3.length x.c3)) (ds := [8]) #[false, false, false, false, false, false, false, false, false] (by kernel_rfl) rfl rfl ⟨u3, t0, t1, t2, t3, t4⟩ (fun hHeld => ?_)
        refine pure_ (i := 0) (N := some 49) (v := ?_) (a' := ?_) #[true, false, false, false, false, false, false, false, false] rfl rfl (by kernel_rfl) (fun _ _ _ h => h) (Or.inl ⟨by rfl, ?_⟩) ?_ ?_
        rotate_left
        · intro w'
          go_simp
          with_reducible rfl
        rotate_left
        · simp only [Act.put, List.setIfInBounds_toArray, List.set_cons_zero, List.set_cons_succ, i64_w, i32_w]
          rfl
        refine take_ (i := 1) (N := some 50) (v := ?_) (a' := ?_) #[true, true, false, false, false, false, false, false, false] rfl rfl (by kernel_rfl) (fun _ _ _ h => h) (Or.inl ⟨by rfl, ?_⟩) hHeld ?_ ?_
        rotate_left
        · rintro w' ⟨s5, s0, s1, s2, s3, s4⟩
          go_simp
          with_reducible rfl
        rotate_left
        · simp only [Act.put, List.setIfInBounds_toArray, List.set_cons_zero, List.set_cons_succ, i64_w, i32_w]
          rfl
        refine pure_ (i := 2) (N := some 51) (v := ?_) (a' := ?_) #[true, true, true, false, false, false, false, false, false] rfl rfl (by kernel_rfl) (fun _ _ _ h => h) (Or.inl ⟨by rfl, ?_⟩) ?_ ?_
        rotate_left
        · intro w'
          go_simp
          with_reducible rfl
        rotate_left
        · simp only [Act.put, List.setIfInBounds_toArray, List.set_cons_zero, List.set_cons_succ, i64_w, i32_w]
          rfl
        refine take_ (i := 3) (N := some 52) (v := ?_) (a' := ?_) #[true, true, true, true, false, false, false, false, false] rfl rfl (by kernel_rfl) (fun _ _ _ h => h) (Or.inl ⟨by rfl, ?_⟩) hHeld ?_ ?_
        rotate_left
        · rintro w' ⟨s5, s0, s1, s2, s3, s4⟩
          go_simp
          with_reducible rfl
        rotate_left
        · simp only [Act.put, List.setIfInBounds_toArray, List.set_cons_zero, List.set_cons_succ, i64_w, i32_w]
          rfl
        refine one_ (i := 4) (N := some 53) #[true, true, true, true, true, false, false, false, false] rfl rfl (by kernel_rfl) (by decide) (fun K hK => ?_)
        refine call_ 45 #[.agg #[.int .i64 x.t.f0, .int .i64 x.t.f1, .slice x.A2 x.t.f2.length x.c2, .slice x.A3 x.t.f3.length x.c3]] (by rfl) rfl ?_ ?_
        · go_simp
          try rfl
        refine (types_copied.calls Kp _ _ _ _ _ _ _ _ _ _ _ _ _ (Kd.C_drew RX.out.2.1) RX.out.1 (Kd.C_drew RX.out.2.2.2) RX.out.2.2.1 EP.out).mono ?_
        rintro e w6 ⟨v2_, v3_, rfl, g2, g3, hb⟩
        refine ⟨_, rfl, ?_⟩
        have mHB := Aside0.mk (below_step (below_drew1 HB5.out) hb)
        have mBT := Aside0.mk (blk_below (blk_drew BT5.out) hb)
        have mBX := Aside0.mk (blk_below (blk_drew BX5.out) hb)
        have mRN := Aside0.mk (Kd.R_below (Kd.R_drew RN5.out) hb)
        have mRT := Aside0.mk (Kd.R_below (Kd.R_drew RT5.out) hb)
        have hs6 := hb.size
        obtain ⟨Ac2, cc2, ec2⟩ := Kd.R_slice g2
        subst ec2
        obtain ⟨Ac3, cc3, ec3⟩ := Kd.R_slice g3
        subst ec3
        refine hK.out _ _ ⟨(blk_cell mBT.out 3).trans rfl, (blk_cell mBX.out 0).trans rfl, (blk_cell mBX.out 1).trans rfl, (blk_cell mBX.out 2).trans rfl, (blk_cell mBX.out 3).trans rfl, (blk_cell mBX.out 4).trans rfl⟩ (fun hHeld => ?_)
        clear hK K
        refine norm_ (a' := ?_) ?_ ?_
        rotate_left
        · show Act.put _ (some 53) _ = _
          simp only [Act.put, List.setIfInBounds_toArray, List.set_cons_zero, List.set_cons_succ, i64_w, i32_w]
          rfl
        refine one_ (i := 5) (N := some 54) #[true, true, true, true, true, true, false, false, false] rfl rfl (by kernel_rfl) (by decide) (fun K hK => ?_)
        refine value_ (w1 := ?_) (v := ?_) (by rfl) rfl ?_ ?_
        rotate_left 2
        · go_simp
          constructor
          · rfl
          · rfl
        have p1 := blk_alloc mBT.out (.cells #[.int .i64 x.t.f0, .int .i64 x.t.f1, .slice Ac2 x.t.f2.length cc2, .slice Ac3 x.t.f3.length cc3] 25)
        have p2 := blk_alloc mBX.out (.cells #[.int .i64 x.t.f0, .int .i64 x.t.f1, .slice Ac2 x.t.f2.length cc2, .slice Ac3 x.t.f3.length cc3] 25)
        refine hK.out _ _ ⟨(blk_cell p1 3).trans rfl, (blk_cell p2 0).trans rfl, (blk_cell p2 1).trans rfl, (blk_cell p2 2).trans rfl, (blk_cell p2 3).trans rfl, (blk_cell p2 4).trans rfl⟩ (fun hHeld => ?_)
        clear hK K
        refine norm_ (a' := ?_) ?_ ?_
        rotate_left
        · show Act.put _ (some 54) _ = _
          simp only [Act.put, List.setIfInBounds_toArray, List.set_cons_zero, List.set_cons_succ, i64_w, i32_w]
          rfl
        clear p1 p2 t0 t1 t2 t3 t4 u3
        refine one_ (i := 6) (N := some 55) #[true, true, true, true, true, true, true, false, false] rfl rfl (by kernel_rfl) (by decide) (fun K hK => ?_)
        have hs5 : w5.drew.heap.size = w5.heap.size := rfl
        have hwb : w2.heap.size < w5.heap.size := blk_lt BT5.out
        have hwx : wr.heap.size < w5.heap.size := blk_lt BX5.out
        have hM : k25.M w6 (w2.heap.size + 1) (fun k => w5.heap.size ≤ k) x.t [.int .i64 x.t.f0, .int .i64 x.t.f1, .slice Ac2 x.t.f2.length cc2, .slice Ac3 x.t.f3.length cc3] := k25_mkM _ _ _ x.t (Kd.R_lower (Kd.R_mono (Kd.R_bound g2) (fun k hk => hk.2.1)) (by omega)) (Kd.R_lower (Kd.R_mono (Kd.R_bound g3) (fun k hk => hk.2.1)) (by omega))
        refine Kd.R_append_step k25 (w0 := w6) (w2.heap.size + 1) (by rfl) (.tmp 50) (.tmp 54) 23 25 (.agg #[.int .i64 0, .int .i64 0, .slice none 0 0, .slice none 0 0]) 64 rfl Tryd.underlying23 info25 rfl (Nat.zero_lt_succ 3) (by decide) (.slice Ta (typesTo d i).length tc) (typesTo d i) x.t [.int .i64 x.t.f0, .int .i64 x.t.f1, .slice Ac2 x.t.f2.length cc2, .slice Ac3 x.t.f3.length cc3] (fun k => some k ≠ (Value.slice Nb (namesTo d (i + 1)).length nd).ownBlock) (fun k => w5.heap.size ≤ k) rfl rfl hM (fun k hk => ⟨fun e => by have := hown5 k e.symm; omega, fun e => by have := hownT k e.symm; omega⟩) (fun k hk e => by have := hown5 k e.symm; omega) mRT.out (Below.refl _ _) (by omega) (by have := HTL.out; omega) ?_
        intro v4 w7 ho _ hg _
        rw [← HTn.out] at ho
        obtain ⟨Aw, cw, ew⟩ := Kd.R_slice ho
        have mRN2 := Aside0.mk (Kd.R_over' mRN.out (Kd.R_typed mRT.out) (by decide) hg)
        have mHB2 := Aside0.mk (mHB.out.grown hg mHB.out.size (fun k hk => by have := hownT k hk; omega))
        have mBT2 := Aside0.mk (blk_grown mBT.out hg (fun hk => by have := hownT _ hk.symm; omega))
        have mBX2 := Aside0.mk (blk_grown mBX.out hg (fun hk => by have := hownT _ hk.symm; omega))
        subst ew
        have mRT2 := Aside0.mk ho
        clear ho hg hM g2 g3 hb mHB mBT mBX mRN mRT HB5 BT5 BX5 RN5 RT5
        refine hK.out _ _ ⟨(blk_cell mBT2.out 3).trans rfl, (blk_cell mBX2.out 0).trans rfl, (blk_cell mBX2.out 1).trans rfl, (blk_cell mBX2.out 2).trans rfl, (blk_cell mBX2.out 3).trans rfl, (blk_cell mBX2.out 4).trans rfl⟩ (fun hHeld => ?_)
        clear hK K
        refine norm_ (a' := ?_) ?_ ?_
        rotate_left
        · show Act.put _ (some 55) _ = _
          simp only [Act.put, List.setIfInBounds_toArray, List.set_cons_zero, List.set_cons_succ, i64_w, i32_w]
          rfl
        refine pure_ (i := 7) (N := some 56) (v := ?_) (a' := ?_) #[true, true, true, true, true, true, true, true, false] rfl rfl (by kernel_rfl) (fun _ _ _ h => h) (Or.inl ⟨by rfl, ?_⟩) ?_ ?_
        rotate_left
        · intro w'
          go_simp
          with_reducible rfl
        rotate_left
        · simp only [Act.put, List.setIfInBounds_toArray, List.set_cons_zero, List.set_cons_succ, i64_w, i32_w]
          rfl
        have u3 : w7.cell? ⟨w2.heap.size, 3, none⟩ = some (.slice Ta (typesTo d i).length tc) := (blk_cell mBT2.out 3).trans rfl
        have fu := blk_frozen mBT2.out 3
        refine last_ (i := 8) (N := none) #[true, true, true, true, true, true, true, true, true] rfl rfl (by kernel_rfl) (by decide) (fun K hK => ?_)
        refine skip_ (w1 := ?_) (by rfl) rfl ?_ ?_
        rotate_left
        · go_simp
          rfl
        refine hK.out _ _ ?_
        clear hK K
        refine done_ (by kernel_rfl) ?_
        go_wp2
        go_roundw
        case rel => exact ⟨i + 1, _, _, by go_num, hi, ⟨HOn.out (by rcases hmm : mayT x.t with _ | _; (· exact absurd (HB7.out.2 (Or.inl hmm)) (by decide)); (· rfl)) (fun h0 e => by have := HB7.out.2 (Or.inr ⟨h0, e⟩); cases this)⟩, ⟨mHB2.out.setCell (p := ⟨w2.heap.size, 3, none⟩) (Nat.le_refl _) _⟩, ⟨blk_put (cs := #[_, _, _, _]) mBT2.out 3 _ rfl⟩, ⟨keep1 mRN2.out⟩, ⟨keep1 mRT2.out⟩⟩
        case measure => simp [RowKit.intOf]; omega
    · obtain rfl : i = l0.length := by omega
      have hlt : ((l0.length : Int) < (l0.length : Int)) = False := by simp
      rw [← hds] at HOK RN RT
      have HU := Aside0.mk (record_all DP.out (DS.out.imp (fun h => by omega)) HOK.out)
      have hwJ : Aside0 (wT (⟨8, 0, namesTo d d.size, typesTo d d.size⟩ : Ty) ≤ 1000000000001) := ⟨record_weight DP.out hds HW.out hn1⟩
      have HSZ : Aside0 (sizeT (⟨8, 0, namesTo d d.size, typesTo d d.size⟩ : Ty) = 1 + sizeTs (typesTo d d.size)) := ⟨by rw [sizeT_mk]⟩
      have hw0 : Aside0 (w.heap.size < w2.heap.size) := ⟨by have := blk_lt B02.out; omega⟩
      clear HOK DP DS DH DK hsz
      generalize hN : namesTo d d.size = Ns at *
      generalize hT : typesTo d d.size = Tt at *
      clear hN hT
      obtain ⟨A2, c2, e2⟩ := Kd.R_slice RN.out
      subst e2
      obtain ⟨A3, c3, e3⟩ := Kd.R_slice RT.out
      subst e3
      have B0w := Aside0.mk (blk_below B02.out HBl.out)
      have HBF := Aside0.mk (below_step HB2.out HBl.out)
      obtain ⟨⟨u0, u1, u2, u3⟩, fu0, fu1, fu2, fu3⟩ := box4 BTl.out
      obtain ⟨⟨z0, z1, z2, z3⟩, y0, y1, y2, y3⟩ := box4 B0w.out
      obtain ⟨Ks, hKs⟩ := size_ev (⟨8, 0, Ns, Tt⟩ : Ty) (by have := hwJ.out; omega)
      have ES := Aside0.mk (hKs Ks (Nat.le_refl _))
      clear hKs
      obtain ⟨_, lc2, rc2⟩ := Kd.R_reads' RN.out
      obtain ⟨_, lc3, rc3⟩ := Kd.R_reads' RT.out
      have RR := Aside0.mk (And.intro lc2 (And.intro rc2 (And.intro lc3 rc3)))
      clear lc2 rc2 lc3 rc3
      go_wp2_with (go_at_call 15; refine hold_ ?_)
      unfold Held
      refine (types_Size.calls Ks _ _ _ _ Ns _ _ Tt _ _ RR.out.2.1 RR.out.1 RR.out.2.2.2 RR.out.2.2.1 ES.out).mono ?_
      rintro e w8 ⟨rfl, hb⟩
      have nPB := Aside0.mk (blk_below BTl.out hb)
      have nB0 := Aside0.mk (blk_below B0w.out hb)
      have nHBF := Aside0.mk (below_step HBF.out hb)
      have nG2 := Aside0.mk (Kd.R_below RN.out hb)
      have nG3 := Aside0.mk (Kd.R_below RT.out hb)
      clear BTl B0w HBF RN RT hb u0 u1 u2 u3 fu0 fu1 fu2 fu3 z0 z1 z2 z3 y0 y1 y2 y3 RR ES c4
      obtain ⟨⟨u0, u1, u2, u3⟩, fu0, fu1, fu2, fu3⟩ := box4 nPB.out
      obtain ⟨⟨z0, z1, z2, z3⟩, y0, y1, y2, y3⟩ := box4 nB0.out
      by_cases hs : 300 < sizeT (⟨8, 0, Ns, Tt⟩ : Ty)
      · have HUX : Aside0 (recordT (l0.map slOf) = (zeroT, 3)) := ⟨by rw [HU.out, if_pos (by have := HSZ.out; omega)]⟩
        have hd3 : (300 < (sizeT (⟨8, 0, Ns, Tt⟩ : Ty) : Int)) = True := eq_true (by omega)
        go_wp2
        refine bodyPost_ret (results_ct rfl _ _ w.heap.size 25 #[.int .i64 0, .int .i64 0, .slice none 0 0, .slice none 0 0] (0, 0) _ rfl (put4 nB0.out) Tryd.underlying25 rfl (by kernel_rfl)) rfl ?_
        rw [HUX.out]
        exact ⟨_, _, rfl, Kd.R_nil _ _ _ _ _, Kd.R_nil _ _ _ _ _, below_put4 nHBF.out (Nat.le_refl _)⟩
      · have HUX : Aside0 (recordT (l0.map slOf) = ((⟨8, 0, Ns, Tt⟩ : Ty), 0)) := ⟨by rw [HU.out, if_neg (by have := HSZ.out; omega)]⟩
        have hd3 : (300 < (sizeT (⟨8, 0, Ns, Tt⟩ : Ty) : Int)) = False := eq_false (by omega)
        go_wp2
        refine bodyPost_ret (results_ct rfl _ _ w.heap.size 25 #[.int .i64 8, .int .i64 0, .slice A2 Ns.length c2, .slice A3 Tt.length c3] (0, 0) _ rfl (put4 nB0.out) Tryd.underlying25 rfl (by kernel_rfl)) rfl ?_
        rw [HUX.out]
        exact ⟨_, _, rfl, Kd.R_lower (keep4 (Nat.lt_succ_of_lt hw0.out) nG2.out) (by have := hw0.out; omega), Kd.R_lower (keep4 (Nat.lt_succ_of_lt hw0.out) nG3.out) (by have := hw0.out; omega), below_put4 nHBF.out (Nat.le_refl _)⟩
end Go.Proofs.YtjcajpkgamolkaaDoor.Ty
