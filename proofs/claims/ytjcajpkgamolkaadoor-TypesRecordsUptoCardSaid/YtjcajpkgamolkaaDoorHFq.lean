/- HF, as this claim needs it. -/
import Derived.Test.YtjcajpkgamolkaaDoorHAq
import Derived.Test.YtjcajpkgamolkaaDoorHSq
import Derived.Test.YtjcajpkgamolkaaDoorHBq
import Derived.Test.YtjcajpkgamolkaaDoorLayGtq
import Derived.Ground.GgtProg
import Derived.Shelf.GgSortMore.Stable
import Derived.Test.YtjcajpkgamolkaaDoorProg
namespace Go.Proofs.YtjcajpkgamolkaaDoor.Ty
open Go.RowKit Go.Proofs.YtjcajpkgamolkaaDoor.PTyp Go.Proofs.YtjcajpkgamolkaaDoorW.PrintWords Go.Proofs.YtjcajpkgamolkaaDoorW.PrintLast Go.Proofs.YtjcajpkgamolkaaDoorW.PrintMore
set_option linter.unusedVariables false
set_option linter.unusedSimpArgs false
def kW (w0 : World) : Kd S25 where
  sz := 4
  E := []
  K := fun _ x cs => k25.K w0 x cs
  M := fun _ _ _ x cs => k25.K w0 x cs
  K_len := fun h => k25.K_len h
  K_one := fun h => k25.K_one h
  K_below := fun _ h => h
  K_of_M := fun h => h
  M_mono := fun _ h => h
  M_bound := fun h => h
  M_move := fun _ h => h
  M_lower := fun _ h => h
theorem kW_of {w0 W : World} {A : Option Addr} {n : Nat} {xs : List Ty} (h : k25.C w0 A n xs) (hB : Below w0.heap.size w0 W) : ReadsRow (k25.K w0) 4 W A n xs := ReadsRow.imp_ h hB (fun _ _ h => h)
theorem kW_to {w0 W : World} {A : Option Addr} {n : Nat} {xs : List Ty} (h : (kW w0).C W A n xs) (hB : Below w0.heap.size w0 W) : k25.C W A n xs := ReadsRow.imp_ h (Below.refl _ _) (fun _ _ h => k25.K_below hB h)
structure Cl where
  t : Ty
  A2 : Option Addr
  c2 : Nat
  A3 : Option Addr
  c3 : Nat
instance : Inhabited Cl := ⟨⟨⟨0, 0, [], []⟩, none, 0, none, 0⟩⟩
def Cl.enc (x : Cl) : List Value := [.int .i64 x.t.f0, .int .i64 x.t.f1, .slice x.A2 x.t.f2.length x.c2, .slice x.A3 x.t.f3.length x.c3]
theorem Cl.len (x : Cl) : x.enc.length = 4 := rfl
theorem Cl.one (x : Cl) : ∀ v ∈ x.enc, v.oneCell' = true := by
  intro v hv
  simp only [Cl.enc, List.mem_cons, List.not_mem_nil, or_false] at hv
  rcases hv with rfl | rfl | rfl | rfl <;> rfl
theorem cl_of {w0 : World} {t : Ty} {cs : List Value} (h : k25.K w0 t cs) : ∃ x : Cl, x.t = t ∧ x.enc = cs := by
  obtain ⟨A2, c2, A3, c3, rfl, _⟩ := k25_open h
  exact ⟨⟨t, A2, c2, A3, c3⟩, rfl, rfl⟩
theorem cls_of {w0 : World} : ∀ (xs : List Ty) (inner : List Value), Reps (k25.K w0) 4 xs inner → ∃ L : List Cl, L.map (·.t) = xs ∧ inner = L.flatMap Cl.enc ∧ ∀ x ∈ L, k25.K w0 x.t x.enc
  | [], inner, h => ⟨[], rfl, by simpa using h.1, fun x hx => by cases hx⟩
  | t :: xs, inner, h => by
    obtain ⟨x, hx1, hx2⟩ := cl_of (h.2 0 t rfl)
    rw [Nat.zero_mul, List.drop_zero] at hx2
    have hr : Reps (k25.K w0) 4 xs (inner.drop 4) := by
      refine ⟨by rw [List.length_drop, h.1, List.length_cons]; omega, fun j p hj => ?_⟩
      have := h.2 (j + 1) p (by simpa using hj)
      rw [List.drop_drop, show 4 + j * 4 = (j + 1) * 4 by omega]
      exact this
    obtain ⟨L, h1, h2, h3⟩ := cls_of xs _ hr
    refine ⟨x :: L, by rw [List.map_cons, hx1, h1], ?_, fun y hy => ?_⟩
    · rw [List.flatMap_cons, hx2, ← h2, List.take_append_drop]
    · rcases List.mem_cons.1 hy with rfl | hy
      · have := h.2 0 t rfl
        rw [Nat.zero_mul, List.drop_zero, ← hx2] at this
        rw [hx1]; exact this
      · exact h3 y hy
theorem flat_get : ∀ (L : List Cl) (t : Nat), t < L.length * 4 → (L.flatMap Cl.enc)[t]? = (L[t / 4]?).bind fun x => x.enc[t % 4]?
  | [], t, h => by simp at h
  | x :: L, t, h => by
    rw [List.flatMap_cons]
    rcases Nat.lt_or_ge t 4 with h4 | h4
    · rw [List.getElem?_append_left (by rw [Cl.len]; exact h4), Nat.div_eq_of_lt h4, Nat.mod_eq_of_lt h4]
      rfl
    · rw [List.getElem?_append_right (by rw [Cl.len]; exact h4), Cl.len, flat_get L (t - 4) (by rw [List.length_cons] at h; omega)]
      have e1 : t / 4 = (t - 4) / 4 + 1 := by omega
      have e2 : t % 4 = (t - 4) % 4 := by omega
      rw [e1, e2, List.getElem?_cons_succ]
theorem holds_of {W : World} {g : Nat} {cur : Array Value} {e : TypeId} {L : List Cl} (hb : W.heap[g]? = some (.cells cur e (0, 0))) (hc : cur.toList.take (L.length * 4) = L.flatMap Cl.enc) : Go.Sort.HoldsK Cl.enc 4 W g 0 L.toArray := by
  intro j hj
  rw [Go.Sort.size_flatK] at hj
  have hj' : j < L.length * 4 := by simpa using hj
  refine ⟨?_, blk_frozen hb _⟩
  rw [Go.Sort.get_flatK _ _ _ _ hj, Nat.zero_add]
  have h1 : W.cell? ⟨g, j, none⟩ = cur[j]? := blk_cell hb j
  rw [h1]
  have h2 : cur[j]? = (L.flatMap Cl.enc)[j]? := by
    rw [← hc, List.getElem?_take, if_pos hj']
    simp
  rw [h2, flat_get L j hj']
  have h3 : j / 4 < L.length := by omega
  rw [List.getElem?_eq_getElem h3, Option.bind_some]
  have h4 : L.toArray[j / 4]! = L[j / 4] := by simp [h3]
  rw [h4]
  have h5 : j % 4 < (L[j / 4]).enc.length := by rw [Cl.len]; omega
  simp [h5]
theorem row_holds {w0 W : World} {base : Nat} {ok : Nat → Prop} {v : Value} {xs : List Ty} (h : (kW w0).R 25 W base ok v xs) (hn : 0 < xs.length) :
    ∃ (g cap : Nat) (L : List Cl), v = .slice (some ⟨g, 0, none⟩) xs.length cap ∧ base ≤ g ∧ g < W.heap.size ∧ L.map (·.t) = xs ∧ (∀ x ∈ L, k25.K w0 x.t x.enc) ∧ Go.Sort.HoldsK Cl.enc 4 W g 0 L.toArray := by
  obtain ⟨_, inner, ho, hr⟩ := h
  obtain ⟨L, h1, h2, h3⟩ := cls_of xs inner hr
  have hl : L.length = xs.length := by rw [← h1, List.length_map]
  rcases ho.2 with ⟨_, h0⟩ | ⟨g, cap, cur, rfl, hg, hh, hc1, hc2, hc3, hc4⟩
  · omega
  · refine ⟨g, cap, L, rfl, hg, ?_, h1, h3, ?_⟩
    · exact blk_lt hh
    · exact holds_of hh (by rw [hl, ← h2]; exact hc4)
theorem holds_cells {W : World} {g : Nat} {d : Array Cl} (h : Go.Sort.HoldsK Cl.enc 4 W g 0 d) {i : Nat} (hi : i < d.size) :
    W.cell? ⟨g, i * 4, none⟩ = some (.int .i64 d[i]!.t.f0) ∧ W.cell? ⟨g, i * 4 + 1, none⟩ = some (.int .i64 d[i]!.t.f1) ∧ W.cell? ⟨g, i * 4 + 2, none⟩ = some (.slice d[i]!.A2 d[i]!.t.f2.length d[i]!.c2) ∧ W.cell? ⟨g, i * 4 + 3, none⟩ = some (.slice d[i]!.A3 d[i]!.t.f3.length d[i]!.c3) := by
  have c : ∀ k, k < 4 → W.cell? ⟨g, i * 4 + k, none⟩ = some (d[i]!.enc)[k]! := fun k hk => by
    have := (Go.Sort.HoldsK.cell h hi hk).1
    rwa [Nat.zero_add] at this
  exact ⟨c 0 (by omega), c 1 (by omega), c 2 (by omega), c 3 (by omega)⟩
def clLt (x y : Cl) : Bool := decide (cmpT x.t y.t < 0)
theorem clLt_swo : Go.Sort.SWO clLt where
  irrefl := fun x => by unfold clLt; rw [cmpT_self]; simp
  trans := fun x y z h1 h2 => by
    unfold clLt at *
    exact decide_eq_true (cmpT_lt_trans (of_decide_eq_true h1) (of_decide_eq_true h2))
  ntrans := fun x y z h1 h2 => by
    unfold clLt at *
    have a := of_decide_eq_false h1
    have b := of_decide_eq_false h2
    have s1 := (cmpT_sk x.t y.t).1
    have s2 := (cmpT_sk y.t z.t).1
    have s3 := (cmpT_sk x.t z.t).1
    have := (cmpT_tr z.t y.t x.t).1 (by omega) (by omega)
    exact decide_eq_false (by omega)
theorem once_sorted {L : List Cl} {d' : Array Cl} (hp : Go.Sort.PermIn 0 L.toArray.size L.toArray d') (hs : Go.Sort.SortedIn clLt 0 L.toArray.size d') : onceT (d'.toList.map (·.t)) = normT (L.map (·.t)) ∧ d'.size = L.length ∧ ∀ x, x ∈ d'.toList → x ∈ L := by
  have hsz : d'.size = L.length := by rw [hp.1]; simp
  have hperm : d'.toList.Perm L := by
    have := hp.2.2
    rw [show L.toArray.size = d'.size by rw [hp.1]] at this
    have e1 : (d'.extract 0 d'.size) = d' := by simp
    rw [e1] at this
    have e2 : (L.toArray.extract 0 d'.size) = L.toArray := by rw [hsz]; simp
    rw [e2] at this
    simpa using this
  refine ⟨normT_eq (onceT_rises ?_) (fun t => ?_), hsz, fun x hx => (hperm.mem_iff).1 hx⟩
  · rw [List.pairwise_map, List.pairwise_iff_getElem]
    intro i j hi hj hij
    have h1 : i < d'.size := by simpa using hi
    have h2 : j < d'.size := by simpa using hj
    have := hs i j (Nat.zero_le _) hij (by rw [← hp.1]; exact h2)
    unfold clLt at this
    have := of_decide_eq_false this
    rw [getElem!_pos d' i h1, getElem!_pos d' j h2] at this
    simpa using this
  · rw [onceT_mem, List.mem_map, List.mem_map]
    constructor
    · rintro ⟨x, hx, rfl⟩; exact ⟨x, (hperm.mem_iff).1 hx, rfl⟩
    · rintro ⟨x, hx, rfl⟩; exact ⟨x, (hperm.mem_iff).2 hx, rfl⟩
end Go.Proofs.YtjcajpkgamolkaaDoor.Ty
namespace Go.Proofs.YtjcajpkgamolkaaDoor.Ty
open Go.RowKit Go.Proofs.YtjcajpkgamolkaaDoor.PTyp Go.Proofs.YtjcajpkgamolkaaDoorW.PrintWords Go.Proofs.YtjcajpkgamolkaaDoorW.PrintLast Go.Proofs.YtjcajpkgamolkaaDoorW.PrintMore
set_option linter.unusedVariables false
set_option linter.unusedSimpArgs false
theorem cl_rows {w0 W : World} {x : Cl} (h : k25.K w0 x.t x.enc) (hB : Below w0.heap.size w0 W) : x.t.f2.length ≤ x.c2 ∧ Kd.string.C W x.A2 x.t.f2.length x.t.f2 ∧ x.t.f3.length ≤ x.c3 ∧ k25.C W x.A3 x.t.f3.length x.t.f3 := by
  obtain ⟨A2, c2, A3, c3, e, l2, g2, l3, g3⟩ := k25_open h
  simp only [Cl.enc, List.cons.injEq, Value.slice.injEq, true_and, and_true] at e
  obtain ⟨⟨rfl, rfl⟩, rfl, rfl⟩ := e
  exact ⟨l2, Kd.C_below g2 hB, l3, Kd.C_below g3 hB⟩
set_option maxHeartbeats 4000000 in
set_option maxRecDepth 100000 in
theorem less_calls {w0 W : World} {g n cap b4 : Nat} {d : Array Cl} (hB : Below w0.heap.size w0 W) (hH : Go.Sort.HoldsK Cl.enc 4 W g 0 d) (hn : d.size = n) (hn2 : n ≤ 1099511627776) (h4 : W.heap[b4]? = some (.cells #[.slice (some ⟨g, 0, none⟩) n cap] 23 (0, 0))) (hK : ∀ x ∈ d.toList, k25.K w0 x.t x.enc) (hw : ∀ x ∈ d.toList, wT x.t ≤ 1099511627776) (i j : Nat) (hi : i < n) (hj : j < n) :
    Calls Tryd.prog 44 (#[.int .i64 i, .int .i64 j] ++ #[.pointer (some ⟨b4, 0, none⟩)]) W fun e w' => e = .returned (.bool (clLt d[i]! d[j]!)) ∧ Below W.heap.size W w' := by
  subst hn
  obtain ⟨p0, p1, p2, p3⟩ := holds_cells hH hi
  obtain ⟨q0, q1, q2, q3⟩ := holds_cells hH hj
  have mi : d[i]! ∈ d.toList := by rw [getElem!_pos d i hi]; simp
  have mj : d[j]! ∈ d.toList := by rw [getElem!_pos d j hj]; simp
  obtain ⟨K0, hK1⟩ := cmp_ev d[i]!.t d[j]!.t (hw _ mi) (hw _ mj)
  have E := Aside0.mk (hK1 K0 (Nat.le_refl _))
  have RI := Aside0.mk (cl_rows (hK _ mi) hB)
  have RJ := Aside0.mk (cl_rows (hK _ mj) hB)
  have hz : clLt d[i]! d[j]! = decide (cmpT d[i]!.t d[j]!.t < 0) := rfl
  rw [hz]
  have c4 : W.cell? ⟨b4, 0, none⟩ = some (.slice (some ⟨g, 0, none⟩) d.size cap) := (blk_cell h4 0).trans rfl
  clear hK1 mi mj hz hH h4 hK hw hB
  generalize d[i]! = x at *
  generalize d[j]! = y at *
  go_enter Tryd.func44, Tryd.ntmps44
  go_wp2
  refine start_ (n := 11) (S := fun w' => w'.cell? ⟨b4, 0, none⟩ = some (.slice (some ⟨g, 0, none⟩) d.size cap) ∧ w'.cell? ⟨g, i * 4, none⟩ = some (.int .i64 x.t.f0) ∧ w'.cell? ⟨g, i * 4 + 1, none⟩ = some (.int .i64 x.t.f1) ∧ w'.cell? ⟨g, i * 4 + 2, none⟩ = some (.slice x.A2 x.t.f2.length x.c2) ∧ w'.cell? ⟨g, i * 4 + 3, none⟩ = some (.slice x.A3 x.t.f3.length x.c3) ∧ w'.cell? ⟨g, j * 4, none⟩ = some (.int .i64 y.t.f0) ∧ w'.cell? ⟨g, j * 4 + 1, none⟩ = some (.int .i64 y.t.f1) ∧ w'.cell? ⟨g, j * 4 + 2, none⟩ = some (.slice y.A2 y.t.f2.length y.c2) ∧ w'.cell? ⟨g, j * 4 + 3, none⟩ = some (.slice y.A3 y.t.f3.length y.c3)) (ds := []) #[false, false, false, false, false, false, false, false, false, false, false] (by kernel_rfl) rfl rfl ⟨c4, p0, p1, p2, p3, q0, q1, q2, q3⟩ (fun hHeld => ?_)
  refine take_ (i := 0) (N := some 6) (v := ?_) (a' := ?_) #[true, false, false, false, false, false, false, false, false, false, false] rfl rfl (by kernel_rfl) (fun _ _ _ h => h) (Or.inl ⟨by rfl, ?_⟩) hHeld ?_ ?_
  rotate_left
  · rintro w' ⟨s0, s1, s2, s3, s4, s5, s6, s7, s8⟩
    go_simp
    with_reducible rfl
  rotate_left
  · simp only [Act.put, List.setIfInBounds_toArray, List.set_cons_zero, List.set_cons_succ, i64_w, i32_w]
    rfl
  refine pure_ (i := 1) (N := some 7) (v := ?_) (a' := ?_) #[true, true, false, false, false, false, false, false, false, false, false] rfl rfl (by kernel_rfl) (fun _ _ _ h => h) (Or.inl ⟨by rfl, ?_⟩) ?_ ?_
  rotate_left
  · intro w'
    go_simp
    with_reducible rfl
  rotate_left
  · simp only [Act.put, List.setIfInBounds_toArray, List.set_cons_zero, List.set_cons_succ, i64_w, i32_w]
    rfl
  refine pure_ (i := 2) (N := some 8) (v := ?_) (a' := ?_) #[true, true, true, false, false, false, false, false, false, false, false] rfl rfl (by kernel_rfl) (fun _ _ _ h => h) (Or.inl ⟨by rfl, ?_⟩) ?_ ?_
  rotate_left
  · intro w'
    go_simp
    with_reducible rfl
  rotate_left
  · simp only [Act.put, List.setIfInBounds_toArray, List.set_cons_zero, List.set_cons_succ, i64_w, i32_w]
    rfl
  refine take_ (i := 3) (N := some 9) (v := ?_) (a' := ?_) #[true, true, true, true, false, false, false, false, false, false, false] rfl rfl (by kernel_rfl) (fun _ _ _ h => h) (Or.inl ⟨by rfl, ?_⟩) hHeld ?_ ?_
  rotate_left
  · rintro w' ⟨s0, s1, s2, s3, s4, s5, s6, s7, s8⟩
    go_simp
    with_reducible rfl
  rotate_left
  · simp only [Act.put, List.setIfInBounds_toArray, List.set_cons_zero, List.set_cons_succ, i64_w, i32_w]
    rfl
  refine take_ (i := 4) (N := some 10) (v := ?_) (a' := ?_) #[true, true, true, true, true, false, false, false, false, false, false] rfl rfl (by kernel_rfl) (fun _ _ _ h => h) (Or.inl ⟨by rfl, ?_⟩) hHeld ?_ ?_
  rotate_left
  · rintro w' ⟨s0, s1, s2, s3, s4, s5, s6, s7, s8⟩
    go_simp
    with_reducible rfl
  rotate_left
  · simp only [Act.put, List.setIfInBounds_toArray, List.set_cons_zero, List.set_cons_succ, i64_w, i32_w]
    rfl
  refine pure_ (i := 5) (N := some 11) (v := ?_) (a' := ?_) #[true, true, true, true, true, true, false, false, false, false, false] rfl rfl (by kernel_rfl) (fun _ _ _ h => h) (Or.inl ⟨by rfl, ?_⟩) ?_ ?_
  rotate_left
  · intro w'
    go_simp
    with_reducible rfl
  rotate_left
  · simp only [Act.put, List.setIfInBounds_toArray, List.set_cons_zero, List.set_cons_succ, i64_w, i32_w]
    rfl
  refine pure_ (i := 6) (N := some 12) (v := ?_) (a' := ?_) #[true, true, true, true, true, true, true, false, false, false, false] rfl rfl (by kernel_rfl) (fun _ _ _ h => h) (Or.inl ⟨by rfl, ?_⟩) ?_ ?_
  rotate_left
  · intro w'
    go_simp
    with_reducible rfl
  rotate_left
  · simp only [Act.put, List.setIfInBounds_toArray, List.set_cons_zero, List.set_cons_succ, i64_w, i32_w]
    rfl
  refine take_ (i := 7) (N := some 13) (v := ?_) (a' := ?_) #[true, true, true, true, true, true, true, true, false, false, false] rfl rfl (by kernel_rfl) (fun _ _ _ h => h) (Or.inl ⟨by rfl, ?_⟩) hHeld ?_ ?_
  rotate_left
  · rintro w' ⟨s0, s1, s2, s3, s4, s5, s6, s7, s8⟩
    go_simp
    with_reducible rfl
  rotate_left
  · simp only [Act.put, List.setIfInBounds_toArray, List.set_cons_zero, List.set_cons_succ, i64_w, i32_w]
    rfl
  refine one_ (i := 8) (N := some 14) #[true, true, true, true, true, true, true, true, true, false, false] rfl rfl (by kernel_rfl) (by decide) (fun K hK => ?_)
  refine call_ 21 #[.agg #[.int .i64 x.t.f0, .int .i64 x.t.f1, .slice x.A2 x.t.f2.length x.c2, .slice x.A3 x.t.f3.length x.c3], .agg #[.int .i64 y.t.f0, .int .i64 y.t.f1, .slice y.A2 y.t.f2.length y.c2, .slice y.A3 y.t.f3.length y.c3]] (by rfl) rfl ?_ ?_
  · go_simp
    try rfl
  refine (types_Compare.calls K0 _ _ _ _ _ _ _ _ _ _ _ _ _ _ _ _ _ _ (Kd.C_drew RI.out.2.1) RI.out.1 (Kd.C_drew RI.out.2.2.2) RI.out.2.2.1 (Kd.C_drew RJ.out.2.1) RJ.out.1 (Kd.C_drew RJ.out.2.2.2) RJ.out.2.2.1 E.out).mono ?_
  rintro e w1 ⟨rfl, hb⟩
  refine ⟨_, rfl, ?_⟩
  have HB := Aside0.mk (below_step (below_drew1 (Below.refl W.heap.size W)) hb)
  refine hK.out _ _ ⟨pw_cell_below hb hHeld.1, pw_cell_below hb hHeld.2.1, pw_cell_below hb hHeld.2.2.1, pw_cell_below hb hHeld.2.2.2.1, pw_cell_below hb hHeld.2.2.2.2.1, pw_cell_below hb hHeld.2.2.2.2.2.1, pw_cell_below hb hHeld.2.2.2.2.2.2.1, pw_cell_below hb hHeld.2.2.2.2.2.2.2.1, pw_cell_below hb hHeld.2.2.2.2.2.2.2.2⟩ (fun hHeld => ?_)
  clear hK K
  refine norm_ (a' := ?_) ?_ ?_
  rotate_left
  · show Act.put _ (some 14) _ = _
    simp only [Act.put, List.setIfInBounds_toArray, List.set_cons_zero, List.set_cons_succ, i64_w, i32_w]
    rfl
  refine pure_ (i := 9) (N := some 15) (v := ?_) (a' := ?_) #[true, true, true, true, true, true, true, true, true, true, false] rfl rfl (by kernel_rfl) (fun _ _ _ h => h) (Or.inl ⟨by rfl, ?_⟩) ?_ ?_
  rotate_left
  · intro w'
    go_simp
    with_reducible rfl
  rotate_left
  · simp only [Act.put, List.setIfInBounds_toArray, List.set_cons_zero, List.set_cons_succ, i64_w, i32_w]
    rfl
  refine pure_ (i := 10) (N := some 5) (v := ?_) (a' := ?_) #[true, true, true, true, true, true, true, true, true, true, true] rfl rfl (by kernel_rfl) (fun _ _ _ h => h) (Or.inl ⟨by rfl, ?_⟩) ?_ ?_
  rotate_left
  · intro w'
    go_simp
    with_reducible rfl
  rotate_left
  · simp only [Act.put, List.setIfInBounds_toArray, List.set_cons_zero, List.set_cons_succ, i64_w, i32_w]
    rfl
  refine done_ (by kernel_rfl) ?_
  go_wp2
  go_ret
  exact ⟨rfl, HB.out⟩
end Go.Proofs.YtjcajpkgamolkaaDoor.Ty
namespace Go.Proofs.YtjcajpkgamolkaaDoor.Ty
open Go.RowKit Go.Proofs.YtjcajpkgamolkaaDoor.PTyp Go.Proofs.YtjcajpkgamolkaaDoorW.PrintWords Go.Proofs.YtjcajpkgamolkaaDoorW.PrintLast Go.Proofs.YtjcajpkgamolkaaDoorW.PrintMore
open Go.Shelf Go.Lib Go.Sort
set_option linter.unusedVariables false
set_option linter.unusedSimpArgs false
noncomputable def si23 : TypeInfo := (Tryd.prog.info? 23).get (by kernel_rfl)
noncomputable def si25 : TypeInfo := (Tryd.prog.info? 25).get (by kernel_rfl)
theorem si25K (n : Nat) (h2 : 2 ≤ n) : Lib.swapperK n si25 25 = 9 := by
  have a : si25.hasPointers = true := by kernel_rfl
  have b : (si25.bytes == 8) = false := by kernel_rfl
  have c : (n == 0) = false := by simp; omega
  have d : (n == 1) = false := by simp; omega
  simp [Lib.swapperK, a, b, c, d]
theorem perm_mem {L : List Cl} {d : Array Cl} {n : Nat} (hn : L.toArray.size = n) (hp : Go.Sort.PermIn 0 n L.toArray d) : d.size = n ∧ ∀ x, x ∈ d.toList → x ∈ L := by
  subst hn
  have hsz : d.size = L.length := by rw [hp.1]; simp
  have hperm : d.toList.Perm L := by
    have := hp.2.2
    rw [show L.toArray.size = d.size by rw [hp.1]] at this
    have e1 : (d.extract 0 d.size) = d := by simp
    rw [e1] at this
    have e2 : (L.toArray.extract 0 d.size) = L.toArray := by rw [hsz]; simp
    rw [e2] at this
    simpa using this
  exact ⟨hp.1, fun x hx => hperm.mem_iff.1 hx⟩
theorem turn_below {B g : Nat} {w W X : World} (h : Below B w W) (ht : Go.Srt.Turn g W X) (hg : B ≤ g) (hB : B ≤ W.heap.size) : Below B w X :=
  h.trans ⟨ht.os, ht.tape, ht.output, ht.size, fun k hk => ht.block k (by omega) (by omega)⟩
theorem sort_calls {w W : World} {g cap b4 : Nat} {L : List Cl} {xs : List Ty} (hLm : L.map (·.t) = xs) (hLk : ∀ x ∈ L, k25.K w x.t x.enc) (hLh : HoldsK Cl.enc 4 W g 0 L.toArray) (hg : g < W.heap.size) (hgw : w.heap.size ≤ g) (hb4g : b4 ≠ g) (h4 : W.heap[b4]? = some (.cells #[.slice (some ⟨g, 0, none⟩) xs.length cap] 23 (0, 0))) (hB : Below w.heap.size w W) (hn : 0 < xs.length) (hn2 : xs.length ≤ 1000000000000) (hw : ∀ x ∈ xs, wT x ≤ 1099511627776) :
    Calls Tryd.prog 43 #[.iface 23 (.slice (some ⟨g, 0, none⟩) xs.length cap), .func (.func 44) #[] #[.pointer (some ⟨b4, 0, none⟩)]] W fun e w' => e = .returned (.tuple #[]) ∧ ∃ d : Array Cl, d.size = xs.length ∧ HoldsK Cl.enc 4 w' g 0 d ∧ (∀ x ∈ d.toList, k25.K w x.t x.enc) ∧ (∀ x ∈ d.toList, x.t ∈ xs) ∧ onceT (d.toList.map (·.t)) = normT xs ∧ Go.Srt.Turn g W w' := by
  have hl : L.toArray.size = xs.length := by rw [← hLm]; simp
  by_cases h2 : 2 ≤ xs.length
  · have hS := Go.Srt.sliceStable Tryd.laysGt8 23 25 si23 si25 (by kernel_rfl) (by kernel_rfl) (by kernel_rfl) (by kernel_rfl) 25 (fun _ => by kernel_rfl) Cl.enc 4 Cl.len (by kernel_rfl) (fun _ => by kernel_rfl) Cl.one clLt clLt_swo 44 #[.pointer (some ⟨b4, 0, none⟩)]
      (enters_of Tryd.func44 (by kernel_rfl) rfl) g 0 cap L.toArray (by rw [hl]; exact h2) (by rw [hl]; omega) 90 (by rw [si25K _ (by rw [hl]; exact h2)]; kernel_rfl) false
      (fun args W => run_callFunc_extern Tryd.func90 (by kernel_rfl) (by kernel_rfl) (by kernel_rfl) (e := Extern.ReflectliteSwapper.swap false) (by kernel_rfl) args W) W
      (fun X => Below w.heap.size w X ∧ X.heap[b4]? = some (.cells #[.slice (some ⟨g, 0, none⟩) xs.length cap] 23 (0, 0))) ⟨hB, h4⟩
      (fun X Y hJ hT => ⟨turn_below hJ.1 hT hgw hJ.1.size, by rw [hT.block b4 (blk_lt hJ.2) hb4g]; exact hJ.2⟩)
      (fun d X hH hJ hp hgX i j hi hj => by
        obtain ⟨hd1, hd2⟩ := perm_mem rfl hp
        exact less_calls hJ.1 hH (hd1.trans hl) (by omega) hJ.2 (fun x hx => hLk x (hd2 x hx)) (fun x hx => hw _ (by rw [← hLm]; exact List.mem_map_of_mem (hd2 x hx))) i j (by omega) (by omega)) hLh hg
    change Calls Tryd.prog 43 _ _ _ at hS
    rw [hl] at hS
    refine hS.mono ?_
    rintro e w' ⟨rfl, d, hH, hp, hs, _, hT⟩
    obtain ⟨hd1, hd2⟩ := perm_mem hl hp
    have hp' : Go.Sort.PermIn 0 L.toArray.size L.toArray d := by rw [hl]; exact hp
    have hs' : Go.Sort.SortedIn clLt 0 L.toArray.size d := by rw [hl]; exact hs
    obtain ⟨ho, _, _⟩ := once_sorted hp' hs'
    exact ⟨rfl, d, hd1, hH, fun x hx => hLk x (hd2 x hx), fun x hx => by rw [← hLm]; exact List.mem_map_of_mem (hd2 x hx), by rw [ho, hLm], hT⟩
  · have h1 : xs.length = 1 := by omega
    have hS := Any.sort_SliceStable_tiny Tryd.laysGt8 23 25 si23 si25 (by kernel_rfl) (by kernel_rfl) (by kernel_rfl) (by kernel_rfl) 25 (fun _ => by kernel_rfl) (some ⟨g, 0, none⟩) xs.length cap (by omega) 83 (by rw [h1]; kernel_rfl) (.func 44) #[] #[.pointer (some ⟨b4, 0, none⟩)] W
    change Calls Tryd.prog 43 _ _ _ at hS
    refine hS.mono ?_
    rintro e w' ⟨rfl, os, rfl⟩
    have hb : Below W.heap.size W (grow W os) := ⟨rfl, rfl, rfl, by simp [grow], fun k hk => by simp [grow, Array.getElem?_append, hk]⟩
    refine ⟨rfl, L.toArray, hl, Go.Srt.holdsK_below hLh hg hb, by simpa using hLk, fun x hx => by rw [← hLm]; exact List.mem_map_of_mem (by simpa using hx), ?_, .of_below hb⟩
    show onceT (L.map (·.t)) = _
    rw [hLm]
    obtain ⟨x, rfl⟩ := List.length_eq_one_iff.1 h1
    simp [onceT, normT, insAll, insT]
end Go.Proofs.YtjcajpkgamolkaaDoor.Ty
namespace Go.Proofs.YtjcajpkgamolkaaDoor.Ty
open Go.RowKit Go.Proofs.YtjcajpkgamolkaaDoor.PTyp
set_option linter.unusedVariables false
set_option linter.unusedSimpArgs false
def behindT : Ty → List Ty → List Ty
  | _, [] => []
  | p, b :: r => if cmpT p b = 0 then behindT b r else b :: behindT b r
theorem onceT_behind : ∀ (r : List Ty) (a : Ty), onceT (a :: r) = a :: behindT a r
  | [], a => by simp [onceT, behindT]
  | b :: r, a => by
    rw [onceT, behindT, onceT_behind r b]
    split
    · rename_i h
      rw [cmpT_eq h]
    · rfl
theorem behindT_snoc : ∀ (r : List Ty) (p x : Ty), behindT p (r ++ [x]) = behindT p r ++ (if cmpT ((p :: r).getLast (by simp)) x = 0 then [] else [x])
  | [], p, x => by
    show behindT p [x] = _
    rw [behindT, behindT, behindT]
    split <;> simp_all
  | b :: r, p, x => by
    rw [List.cons_append, behindT, behindT, behindT_snoc r b x]
    have e : (p :: b :: r).getLast (by simp) = (b :: r).getLast (by simp) := by simp
    rw [e]
    split <;> simp
def newTs (d : Array Cl) : Nat → List Ty
  | 0 => []
  | i + 1 => newTs d i ++ (if i = 0 then [d[i]!.t] else if cmpT d[i - 1]!.t d[i]!.t = 0 then [] else [d[i]!.t])
theorem newTs_len (d : Array Cl) : ∀ i, (newTs d i).length ≤ i
  | 0 => by simp [newTs]
  | i + 1 => by
    have := newTs_len d i
    rw [newTs, List.length_append]
    split
    · simp; omega
    · split <;> simp <;> omega
theorem newTs_is {a : Ty} {r : List Ty} (d : Array Cl) (h : d.toList.map (·.t) = a :: r) : ∀ i, i < d.size → newTs d (i + 1) = a :: behindT a (r.take i)
  | 0, hi => by
    have : d[0]!.t = a := by
      rw [getElem!_pos d 0 hi]
      have h1 : (d.toList.map (·.t))[0]? = some a := by rw [h]; rfl
      simpa [hi] using h1
    rw [newTs, newTs, if_pos rfl, this]
    simp [behindT]
  | i + 1, hi => by
    have g : ∀ k, k < d.size → (a :: r)[k]? = some d[k]!.t := fun k hk => by
      rw [← h, getElem!_pos d k hk]; simp [hk]
    rw [newTs, newTs_is d h i (by omega), if_neg (by omega), Nat.add_sub_cancel]
    have h1 := g (i + 1) hi
    rw [List.getElem?_cons_succ] at h1
    have hlt : i < r.length := by
      rcases Nat.lt_or_ge i r.length with q | q
      · exact q
      · rw [List.getElem?_eq_none q] at h1; cases h1
    have h2 : r[i] = d[i + 1]!.t := by rw [List.getElem?_eq_getElem hlt] at h1; injection h1
    rw [List.take_succ_eq_append_getElem hlt, behindT_snoc, h2]
    have h3 : (a :: r.take i).getLast (by simp) = d[i]!.t := by
      have := g i (by omega)
      rw [List.getLast_eq_getElem]
      have e : (a :: r.take i)[(a :: r.take i).length - 1]? = some d[i]!.t := by
        rw [← this, List.length_cons, List.length_take, Nat.min_eq_left (by omega), Nat.add_sub_cancel]
        cases i with
        | zero => rfl
        | succ k => rw [List.getElem?_cons_succ, List.getElem?_cons_succ, List.getElem?_take, if_pos (by omega)]
      rw [List.getElem?_eq_getElem (by simp)] at e
      injection e
    rw [h3]
    split <;> simp
theorem newTs_all {d : Array Cl} {n : Nat} (hn : d.size = n) (h0 : 0 < n) : newTs d n = onceT (d.toList.map (·.t)) := by
  subst hn
  have hl : (d.toList.map (·.t)).length = d.size := by simp
  rcases h : d.toList.map (·.t) with _ | ⟨a, r⟩
  · rw [h] at hl; simp at hl; omega
  · have e := newTs_is d h (d.size - 1) (by omega)
    rw [show d.size - 1 + 1 = d.size by omega] at e
    have hr : r.length = d.size - 1 := by rw [h, List.length_cons] at hl; omega
    rw [e, h, onceT_behind, ← hr, List.take_length]
end Go.Proofs.YtjcajpkgamolkaaDoor.Ty
namespace Go.Proofs.YtjcajpkgamolkaaDoor.Ty
open Go.RowKit Go.Proofs.YtjcajpkgamolkaaDoor.PTyp Go.Proofs.YtjcajpkgamolkaaDoorW.PrintWords Go.Proofs.YtjcajpkgamolkaaDoorW.PrintLast Go.Proofs.YtjcajpkgamolkaaDoorW.PrintMore
set_option linter.unusedVariables false
set_option linter.unusedSimpArgs false
def kA : Kd S25 where
  sz := 4
  E := [9, 25]
  K := fun w x cs => k25.K w x cs
  M := fun w base ok x cs => ∃ v2 v3 : Value, cs = [.int .i64 x.f0, .int .i64 x.f1, v2, v3] ∧ Kd.string.R 9 w base ok v2 x.f2 ∧ k25.R 25 w base (fun k => ok k ∧ some k ≠ v2.ownBlock) v3 x.f3
  K_len := fun h => k25.K_len h
  K_one := fun h => k25.K_one h
  K_below := fun hB h => k25.K_below hB h
  K_of_M := fun h => by
    obtain ⟨v2, v3, rfl, g2, g3⟩ := h
    exact k25.K_of_M (k25_mkM _ _ _ _ g2 (Kd.R_mono g3 (fun _ hk => hk.1)))
  M_mono := fun ho h => by
    obtain ⟨v2, v3, rfl, g2, g3⟩ := h
    exact ⟨v2, v3, rfl, Kd.R_mono g2 ho, Kd.R_mono g3 (fun k hk => ⟨ho k hk.1, hk.2⟩)⟩
  M_bound := fun h => by
    obtain ⟨v2, v3, rfl, g2, g3⟩ := h
    refine ⟨v2, v3, rfl, Kd.R_mono (Kd.R_bound g2) (fun k hk => ?_), Kd.R_mono (Kd.R_bound g3) (fun k hk => ?_)⟩
    · obtain ⟨h1, h2, h3, q, hq, hc⟩ := hk
      refine ⟨h1, h2, h3, q, ?_, hc⟩
      rcases List.mem_cons.1 hq with rfl | hq
      · simp
      · cases hq
    · obtain ⟨h1, h2, h3, q, hq, hc⟩ := hk
      refine ⟨⟨h1.1, h2, h3, q, ?_, hc⟩, h1.2⟩
      rcases List.mem_cons.1 hq with rfl | hq
      · simp
      · exact hq
  M_move := fun hm h => by
    obtain ⟨v2, v3, rfl, g2, g3⟩ := h
    exact ⟨v2, v3, rfl, Kd.R_move g2 hm, Kd.R_move g3 (fun k hk => hm k hk.1)⟩
  M_lower := fun hb h => by
    obtain ⟨v2, v3, rfl, g2, g3⟩ := h
    exact ⟨v2, v3, rfl, Kd.R_lower g2 hb, Kd.R_lower g3 hb⟩
theorem kA_k25 {W : World} {base : Nat} {ok : Nat → Prop} {v : Value} {xs : List Ty} (h : kA.R 25 W base ok v xs) : k25.R 25 W base ok v xs := by
  obtain ⟨h0, inner, ho, hr⟩ := h
  refine ⟨h0, inner, ho, hr.imp_ (fun _ _ hp => ?_)⟩
  obtain ⟨v2, v3, rfl, g2, g3⟩ := hp
  exact k25_mkM _ _ _ _ g2 (Kd.R_mono g3 (fun _ hk => hk.1))
theorem row_keep2 {W : World} {b o : Nat} {v : Value} {xs : List Ty} (h : kA.R 25 W (b + 1) (fun _ => True) v xs) {u : Value} : kA.R 25 (W.setCell ⟨b, o, none⟩ u) (b + 1) (fun _ => True) v xs :=
  Kd.R_mono (Kd.R_far (p := ⟨b, o, none⟩) (Kd.R_mono (Kd.R_bound h) (fun k hk => (show k ≠ b from by have := hk.2.1; omega))) (fun _ hk => hk) u) (fun _ _ => trivial)
theorem row_len {W : World} {base : Nat} {A : Option Addr} {c : Nat} {P : List Ty} {t : Ty} (h : kA.R 25 W base (fun _ => True) (.slice A (P ++ [t]).length c) (P ++ [t])) : kA.R 25 W base (fun _ => True) (.slice A (P.length + 1) c) (P ++ [t]) := by
  rw [List.length_append] at h
  exact h
theorem row_one {W : World} {base : Nat} {v : Value} {t : Ty} (h : kA.R 25 W base (fun _ => True) v [t]) : ∃ (g cap : Nat) (A2 : Option Addr) (c2 : Nat) (A3 : Option Addr) (c3 : Nat), v = .slice (some ⟨g, 0, none⟩) 1 cap ∧
    (W.cell? ⟨g, 0, none⟩ = some (.int .i64 t.f0) ∧ W.cell? ⟨g, 1, none⟩ = some (.int .i64 t.f1) ∧ W.cell? ⟨g, 2, none⟩ = some (.slice A2 t.f2.length c2) ∧ W.cell? ⟨g, 3, none⟩ = some (.slice A3 t.f3.length c3)) ∧
    Kd.string.R 9 W base (fun _ => True) (.slice A2 t.f2.length c2) t.f2 ∧ k25.R 25 W base (fun k => some k ≠ (Value.slice A2 t.f2.length c2).ownBlock) (.slice A3 t.f3.length c3) t.f3 := by
  obtain ⟨A, cap, rfl⟩ := Kd.R_slice h
  have hA : ∃ g, A = some ⟨g, 0, none⟩ := by
    obtain ⟨_, inner, ho, hr⟩ := h
    rcases ho.2 with ⟨e, h0⟩ | ⟨g, cap', cur, e, _⟩
    · exact absurd h0 (by simp)
    · injection e with e1; exact ⟨g, e1⟩
  obtain ⟨g, rfl⟩ := hA
  obtain ⟨c, hl, hM, hc, _⟩ := Kd.R_elem h z25 0 (by omega) (by simp)
  obtain ⟨v2, v3, rfl, g2, g3⟩ := hM
  obtain ⟨A2, c2, e2⟩ := Kd.R_slice g2
  obtain ⟨A3, c3, e3⟩ := Kd.R_slice g3
  subst e2
  subst e3
  have k : ∀ j u, ([.int .i64 t.f0, .int .i64 t.f1, .slice A2 t.f2.length c2, .slice A3 t.f3.length c3] : List Value)[j]? = some u → W.cell? ⟨g, j, none⟩ = some u := fun j u hu => by
    have := hc j u hu
    simpa using this
  exact ⟨g, cap, A2, c2, A3, c3, rfl, ⟨k 0 _ rfl, k 1 _ rfl, k 2 _ rfl, k 3 _ rfl⟩, Kd.R_mono g2 (fun _ _ => trivial), Kd.R_mono g3 (fun _ hk => hk.2)⟩
end Go.Proofs.YtjcajpkgamolkaaDoor.Ty
