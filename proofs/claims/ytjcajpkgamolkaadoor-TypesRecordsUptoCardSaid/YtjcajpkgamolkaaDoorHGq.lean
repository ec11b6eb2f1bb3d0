/- HG, as this claim needs it. -/
import Derived.Test.YtjcajpkgamolkaaDoorHFq
import Derived.Test.YtjcajpkgamolkaaDoorHBq
import Derived.Test.YtjcajpkgamolkaaDoorHLq
import Derived.Test.YtjcajpkgamolkaaDoorHKq
import Derived.Test.YtjcajpkgamolkaaDoorHEq
namespace Go.Proofs.YtjcajpkgamolkaaDoor.Ty
open Go.RowKit Go.Proofs.YtjcajpkgamolkaaDoor.PTyp Go.Proofs.YtjcajpkgamolkaaDoorW.PrintWords Go.Proofs.YtjcajpkgamolkaaDoorW.PrintLast Go.Proofs.YtjcajpkgamolkaaDoorW.PrintMore
set_option linter.unusedVariables false
set_option linter.unusedSimpArgs false
theorem at_t {w W : World} {A : Option Addr} {l : List Ty} (h : k25.C w A l.length l) (hB : Below w.heap.size w W) {i : Nat} (hi : i < l.length) : ∃ ad A2 c2 A3 c3, A = some ad ∧ W.cell? (ad.add (i * 4)) = some (.int .i64 l[i].f0) ∧ W.cell? ⟨(ad.add (i * 4)).block, (ad.add (i * 4)).off + 1, none⟩ = some (.int .i64 l[i].f1) ∧ W.cell? ⟨(ad.add (i * 4)).block, (ad.add (i * 4)).off + 2, none⟩ = some (.slice A2 l[i].f2.length c2) ∧ W.cell? ⟨(ad.add (i * 4)).block, (ad.add (i * 4)).off + 3, none⟩ = some (.slice A3 l[i].f3.length c3) ∧ l[i].f2.length ≤ c2 ∧ Kd.string.C w A2 l[i].f2.length l[i].f2 ∧ l[i].f3.length ≤ c3 ∧ k25.C w A3 l[i].f3.length l[i].f3 := by
  obtain ⟨ad, A2, c2, A3, c3, e, q0, q1, q2, q3, l2, g2, l3, g3⟩ := at_T25 h (i : Int) (by omega) (by omega)
  rw [rd_at hi] at q0 q1 q2 q3 l2 g2 l3 g3
  rw [Int.toNat_natCast] at q0 q1 q2 q3
  exact ⟨ad, A2, c2, A3, c3, e, pw_cell_below hB q0, pw_cell_below hB q1, pw_cell_below hB q2, pw_cell_below hB q3, l2, g2, l3, g3⟩
theorem rows_below {W X : World} {A2 A3 : Option Addr} {c2 c3 : Nat} {t : Ty} (h : t.f2.length ≤ c2 ∧ Kd.string.C W A2 t.f2.length t.f2 ∧ t.f3.length ≤ c3 ∧ k25.C W A3 t.f3.length t.f3) (hB : Below W.heap.size W X) : t.f2.length ≤ c2 ∧ Kd.string.C X A2 t.f2.length t.f2 ∧ t.f3.length ≤ c3 ∧ k25.C X A3 t.f3.length t.f3 := ⟨h.1, Kd.C_below h.2.1 hB, h.2.2.1, Kd.C_below h.2.2.2 hB⟩
def Held (p : Prop) : Prop := p
theorem hold_ {p : Prop} (h : Held p) : p := h
theorem put4 {W : World} {b : Nat} {t : TypeId} {x y z u a b' c d : Value} (h : W.heap[b]? = some (.cells #[x, y, z, u] t)) : ((((W.setCell ⟨b, 0, none⟩ a).setCell ⟨b, 1, none⟩ b').setCell ⟨b, 2, none⟩ c).setCell ⟨b, 3, none⟩ d).heap[b]? = some (.cells #[a, b', c, d] t) := by
  have p0 := blk_put (cs := #[x, y, z, u]) h 0 a rfl
  have p1 := blk_put (cs := #[a, y, z, u]) p0 1 b' rfl
  have p2 := blk_put (cs := #[a, b', z, u]) p1 2 c rfl
  exact blk_put (cs := #[a, b', c, u]) p2 3 d rfl
theorem below_put4 {B b : Nat} {w W : World} {u0 u1 u2 u3 : Value} (h : Below B w W) (hb : B ≤ b) : Below B w ((((W.setCell ⟨b, 0, none⟩ u0).setCell ⟨b, 1, none⟩ u1).setCell ⟨b, 2, none⟩ u2).setCell ⟨b, 3, none⟩ u3) :=
  (((h.setCell (p := ⟨b, 0, none⟩) hb u0).setCell (p := ⟨b, 1, none⟩) hb u1).setCell (p := ⟨b, 2, none⟩) hb u2).setCell (p := ⟨b, 3, none⟩) hb u3
theorem far4 {W : World} {b k : Nat} {t : TypeId} {cs : Array Value} {u0 u1 u2 u3 : Value} (h : W.heap[k]? = some (.cells cs t (0, 0))) (hk : k ≠ b) : ((((W.setCell ⟨b, 0, none⟩ u0).setCell ⟨b, 1, none⟩ u1).setCell ⟨b, 2, none⟩ u2).setCell ⟨b, 3, none⟩ u3).heap[k]? = some (.cells cs t (0, 0)) :=
  blk_far (blk_far (blk_far (blk_far h hk _) hk _) hk _) hk _
theorem box4 {W : World} {b : Nat} {t : TypeId} {x y z u : Value} (h : W.heap[b]? = some (.cells #[x, y, z, u] t (0, 0))) : (W.cell? ⟨b, 0, none⟩ = some x ∧ W.cell? ⟨b, 1, none⟩ = some y ∧ W.cell? ⟨b, 2, none⟩ = some z ∧ W.cell? ⟨b, 3, none⟩ = some u) ∧ W.frozen? ⟨b, 0, none⟩ = false ∧ W.frozen? ⟨b, 1, none⟩ = false ∧ W.frozen? ⟨b, 2, none⟩ = false ∧ W.frozen? ⟨b, 3, none⟩ = false :=
  ⟨⟨(blk_cell h 0).trans rfl, (blk_cell h 1).trans rfl, (blk_cell h 2).trans rfl, (blk_cell h 3).trans rfl⟩, blk_frozen h 0, blk_frozen h 1, blk_frozen h 2, blk_frozen h 3⟩
def isAny (t : Ty) : Bool := t.f0 == 1
theorem any_next (p : Ty → Bool) {l : List Ty} {i : Nat} (hi : i < l.length) {t : Ty} (ht : l[i] = t) : (l.take (i + 1)).any p = ((l.take i).any p || p t) := by
  rw [List.take_succ_eq_append_getElem hi, List.any_append, ht]; simp
theorem wTs_parts (t : Ty) : wTs (partsOf t) ≤ wT t := by
  unfold partsOf
  split
  · show wTs t.f3 ≤ _; rw [wT_is]; omega
  · rw [wTs_cons, wTs_nil]; omega
theorem wTs_flat : ∀ l : List Ty, wTs (l.flatMap partsOf) ≤ wTs l
  | [] => by simp [wTs_nil]
  | t :: r => by rw [List.flatMap_cons, wTs_append, wTs_cons]; have := wTs_parts t; have := wTs_flat r; omega
theorem wTs_take_drop (l : List Ty) (i : Nat) : wTs (l.take i) + wTs (l.drop i) = wTs l := by rw [← wTs_append, List.take_append_drop]
theorem parts_len {l : List Ty} {m : Nat} (hw : wTs l ≤ m) {i : Nat} (hi : i < l.length) {t : Ty} (ht : l[i] = t) : ((l.take i).flatMap partsOf).length + t.f3.length ≤ m := by
  have h1 := wTs_take_drop l i
  rw [drop_at hi, wTs_cons, ht, wT_is] at h1
  have h2 := wTs_flat (l.take i)
  have h3 := wTs_len ((l.take i).flatMap partsOf)
  have h4 := wTs_len t.f3
  omega
theorem may_next {l : List Ty} {i : Nat} (hi : i < l.length) {t : Ty} (ht : l[i] = t) (h : mayTs (l.take i) = true) (hm : mayT t = true) : mayTs (l.take (i + 1)) = true := by
  rw [mayTs_iff] at h ⊢
  intro x hx
  rw [List.take_succ_eq_append_getElem hi, List.mem_append, List.mem_singleton, ht] at hx
  rcases hx with hx | rfl
  · exact h x hx
  · exact hm
theorem row_keep {w W : World} {v : Value} {xs : List Ty} (h : (kW w).R 25 W (w.heap.size + 2) (fun _ => True) v xs) {u : Value} : (kW w).R 25 (W.setCell ⟨w.heap.size + 1, 0, none⟩ u) (w.heap.size + 2) (fun _ => True) v xs :=
  Kd.R_mono (Kd.R_far (p := ⟨w.heap.size + 1, 0, none⟩) (Kd.R_mono (Kd.R_bound h) (fun k hk => (show k ≠ w.heap.size + 1 from by have := hk.2.1; omega))) (fun _ hk => hk) u) (fun _ _ => trivial)
theorem row_next {w W : World} {l P Q : List Ty} {i : Nat} (hi : i < l.length) {t : Ty} (ht : l[i] = t) (hP : (l.take i).flatMap partsOf = P) (hq : Q = partsOf t) {A : Option Addr} {m c : Nat} (hm : m = (P ++ Q).length) {base : Nat} {ok : Nat → Prop} (h : (kW w).R 25 W base ok (.slice A (P ++ Q).length c) (P ++ Q)) : (kW w).R 25 W base ok (.slice A m c) ((l.take (i + 1)).flatMap partsOf) := by
  subst hm
  rw [List.take_succ_eq_append_getElem hi, List.flatMap_append, hP, ht, List.flatMap_cons, List.flatMap_nil, List.append_nil, ← hq]
  exact h
theorem b2_keep {w W : World} {o : Obj} {u : Value} (h : W.heap[w.heap.size]? = some o) : (W.setCell ⟨w.heap.size + 1, 0, none⟩ u).heap[w.heap.size]? = some o := by
  rw [Below.heap_setCell _ ⟨w.heap.size + 1, 0, none⟩ u _ (by show w.heap.size ≠ w.heap.size + 1; omega)]; exact h
theorem zero_k (w : World) : k25.K w z25 [.int .i64 0, .int .i64 0, .slice none 0 0, .slice none 0 0] :=
  k25_mk w z25 (A2 := none) (c2 := 0) (Nat.le_refl _) ⟨rfl, by decide, fun h => absurd h (by decide)⟩ (A3 := none) (c3 := 0) (Nat.le_refl _) ⟨rfl, by decide, fun h => absurd h (by decide)⟩
theorem row_form {w W : World} {base : Nat} {ok : Nat → Prop} {v : Value} {xs : List Ty} (h : (kW w).R 25 W base ok v xs) (hn : 0 < xs.length) : ∃ g cap, v = .slice (some ⟨g, 0, none⟩) xs.length cap := by
  obtain ⟨g, cap, _, e, _⟩ := row_holds h hn
  exact ⟨g, cap, e⟩
theorem row_cells {w W : World} {base : Nat} {ok : Nat → Prop} {g n cap : Nat} {xs : List Ty} (h : (kW w).R 25 W base ok (.slice (some ⟨g, 0, none⟩) n cap) xs) (i : Nat) (hi : i < xs.length) : ∃ c : List Value, c.length = 4 ∧ ∀ j u, c[j]? = some u → W.cell? ⟨g, i * 4 + j, none⟩ = some u := by
  obtain ⟨A, c, e, _, hC⟩ := Kd.R_reads h
  injection e with e1 e2 e3
  obtain ⟨_, _, hg⟩ := hC
  obtain ⟨ad, e4, hc⟩ := hg (by omega)
  rw [← e1] at e4
  injection e4 with e4
  subst e4
  obtain ⟨cs, h1, _, h2⟩ := hc i _ (List.getElem?_eq_getElem hi)
  refine ⟨cs, h1, fun j u hu => ?_⟩
  have := h2 j u hu
  rw [add_plain] at this
  exact this
theorem four {c : List Value} (h : c.length = 4) : ∃ a b d e, c = [a, b, d, e] := by
  match c, h with
  | [a, b, d, e], _ => exact ⟨a, b, d, e, rfl⟩
theorem row_frozen {w W : World} {base : Nat} {ok : Nat → Prop} {g n cap : Nat} {xs : List Ty} (h : (kW w).R 25 W base ok (.slice (some ⟨g, 0, none⟩) n cap) xs) (j : Nat) : W.frozen? ⟨g, j, none⟩ = false := by
  obtain ⟨_, inner, ho, _⟩ := h
  rcases ho.2 with ⟨h0, _⟩ | ⟨g', cap', cur, e, _, hh, _⟩
  · cases h0
  · injection e with e1 e2 e3
    injection e1 with e1
    injection e1 with e1 _ _
    subst e1
    exact blk_frozen hh j
theorem type_k {w : World} {A2 A3 : Option Addr} {c2 c3 : Nat} {t : Ty} (h : t.f2.length ≤ c2 ∧ Kd.string.C w A2 t.f2.length t.f2 ∧ t.f3.length ≤ c3 ∧ k25.C w A3 t.f3.length t.f3) {c : List Value} (hc : c.length = 4) : k25.K w t (c.take 0 ++ [.int .i64 t.f0, .int .i64 t.f1, .slice A2 t.f2.length c2, .slice A3 t.f3.length c3] ++ c.drop (0 + 4)) := by
  have e : c.drop (0 + 4) = [] := List.drop_eq_nil_of_le (by omega)
  rw [e, List.take_zero, List.nil_append, List.append_nil]
  exact k25_mk w t h.1 h.2.1 h.2.2.1 h.2.2.2
theorem twolast_ {P : Program} {ops : Array Oper} {Q : Exit → Act → World → Prop} {md : Region.Mode} {S : World → Prop} {ds : List Nat} {i j : Nat} {oi oj : Oper} {fuel : Nat} {l : Array Bool} {a : Act} {w : World} (li lj : Array Bool) (hi : ops[i]? = some oi) (hj : ops[j]? = some oj) (hNi : oi.dst = none) (hNj : oj.dst = none)
    (hc : (Region.ready md ops l == [i, j] && l.setIfInBounds i true == li && l.setIfInBounds j true == lj) = true) (hdi : i ∈ ds) (hdj : j ∈ ds)
    (h1 : ∀ K : Act → World → Prop, Shut (∀ a' w', wpAnyLast P md ops Q S ds fuel li a' w' → K a' w') → if Region.wanted oi (yielded ops a.tmps) = true then Oper.wp P oi a w K Q else K (a.put none undef) w)
    (h2 : ∀ K : Act → World → Prop, Shut (∀ a' w', wpAnyLast P md ops Q S ds fuel lj a' w' → K a' w') → if Region.wanted oj (yielded ops a.tmps) = true then Oper.wp P oj a w K Q else K (a.put none undef) w) : wpAnyLast P md ops Q S ds (fuel + 1) l a w := by
  simp only [Bool.and_eq_true, beq_iff_eq] at hc
  obtain ⟨⟨h3, h4⟩, h5⟩ := hc
  subst h4
  subst h5
  exact wpAnyLast_ready h3 (by simp) (AllReadyL.cons_last hi hdi (fun K hK => by rw [hNi]; exact h1 K hK) (AllReadyL.cons_last hj hdj (fun K hK => by rw [hNj]; exact h2 K hK) AllReadyL.nil))
theorem R_store_step {P : Program} {ops : Array Oper} {Q : Exit → Act → World → Prop} {o : Oper} {a : Act} {K : Act → World → Prop} {α : Type} (d : Kd α) {W : World} (base : Nat) (hw : Region.wanted o (yielded ops a.tmps) = true) (hN : o.dst = none) (t : TypeId) (p x : Operand) (ho : o.op = .store t p x) (e : TypeId) {g n cap o' : Nat} (i : Nat) (xs : List α) (x' : α) (u : Value) (seg c : List Value) (ok okp : Nat → Prop)
    (haddr : a.eval p = .pointer (some ⟨g, o', none⟩)) (hoff : o' = i * d.sz) (hx : a.eval x = u) (hu : u.cells.toList = seg) (ht : (P.info? t).map (·.size) = some seg.length) (h1 : ∀ q ∈ seg, q.oneCell' = true)
    (HO : d.R e W base ok (.slice (some ⟨g, 0, none⟩) n cap) xs) (hi : i < n) (hcl : c.length = d.sz) (hcc : ∀ j u, c[j]? = some u → W.cell? ⟨g, i * d.sz + j, none⟩ = some u)
    (hj : 0 + seg.length ≤ d.sz) (hM : d.M W base okp x' (c.take 0 ++ seg ++ c.drop (0 + seg.length))) (hokp : ∀ k, okp k → ok k ∧ k ≠ g)
    (h : ∀ w1, d.R e w1 base ok (.slice (some ⟨g, 0, none⟩) n cap) (xs.set i x') → W.grownBy w1 (some g) → K a w1) : if Region.wanted o (yielded ops a.tmps) = true then Oper.wp P o a W K Q else K (a.put none undef) W := by
  subst hoff
  obtain ⟨hrow, hg⟩ := Kd.R_seg HO (i : Int) (by omega) (by omega) (j := 0) hcl (fun j u hu => by rw [Int.toNat_natCast]; exact hcc j u hu) hj hM hokp
  rw [Int.toNat_natCast] at hrow hg
  have hnx : n = xs.length := (Kd.R_reads' HO).1
  obtain ⟨_, inner, hown, hr⟩ := HO
  refine skip_ (w1 := W.setCells g (i * d.sz + 0) seg) hw hN ?_ (h _ hrow hg)
  have hrun : (Instr.storeAt t (.pointer (some ⟨g, i * d.sz, none⟩)) u).run P W = .ok () (W.setCells g (i * d.sz + 0) seg) := by
    rcases hown.2 with ⟨hv, _⟩ | ⟨g', cap', cur, hv, hb, hh, hnc, hcm, hcs, _⟩
    · cases hv
    injection hv with ha _ hc
    injection ha with ha
    injection ha with hg'
    subst hg'; subst hc
    refine run_store_run t u seg hh hu ht ?_ h1
    have h2 : i * d.sz + d.sz ≤ n * d.sz := by rw [← Nat.succ_mul]; exact Nat.mul_le_mul_right _ hi
    have h3 : n * d.sz ≤ cap * d.sz := Nat.mul_le_mul_right _ (by omega)
    omega
  unfold execOp
  simp only [ho, haddr, hx, Sem.run_bind, Sem.run_pure, Result.andThen_ok, hrun]
theorem row_set' {w W : World} {base : Nat} {ok : Nat → Prop} {A : Option Addr} {c : Nat} {P : List Ty} {z t : Ty} (h : (kW w).R 25 W base ok (.slice A (P ++ [z]).length c) ((P ++ [z]).set P.length t)) : (kW w).R 25 W base ok (.slice A (P ++ [t]).length c) (P ++ [t]) := by
  have e : (P ++ [z]).set P.length t = P ++ [t] := by simp
  have e2 : (P ++ [t]).length = (P ++ [z]).length := by simp
  rw [e] at h
  rw [e2]
  exact h
theorem part_pos {t : Ty} (h : mayT t = true) : 0 < (partsOf t).length := by
  unfold partsOf
  split
  · rename_i hk
    obtain ⟨k, n, ns, l⟩ := t
    rw [mayT_mk, Bool.and_eq_true] at h
    have h1 := h.1
    unfold shapeT at h1
    have hk' : k = 10 := hk
    subst hk'
    have e : Ty.k { f0 := 10, f1 := n, f2 := ns, f3 := l } = 10 := rfl
    rw [if_neg (by rw [e]; omega), if_neg (by rw [e]; omega), if_neg (by rw [e]; omega), if_neg (by rw [e]; omega), if_pos e] at h1
    simp only [Bool.and_eq_true, decide_eq_true_eq] at h1
    have h2 := h1.1.2
    show 0 < _
    omega
  · simp
theorem parts_pos {l : List Ty} (hz : ¬ l.length = 0) (h : mayTs l = true) : 0 < (l.flatMap partsOf).length := by
  match l, hz with
  | t :: r, _ =>
    have h1 := part_pos ((mayTs_iff _).1 h t (by simp))
    rw [List.flatMap_cons, List.length_append]
    omega
theorem wTs_ins : ∀ (l : List Ty) (t : Ty), wTs (insT l t) ≤ wTs l + wT t
  | [], t => by rw [insT, wTs_cons, wTs_nil]; omega
  | a :: r, t => by
    rw [insT]
    split
    · rw [wTs_cons, wTs_cons]; have := wTs_ins r t; omega
    · split
      · omega
      · rw [wTs_cons]; omega
theorem wTs_insAll : ∀ (m l : List Ty), wTs (insAll l m) ≤ wTs l + wTs m
  | [], l => by show wTs l ≤ _; omega
  | t :: m, l => by
    show wTs (insAll (insT l t) m) ≤ _
    have := wTs_insAll m (insT l t)
    have := wTs_ins l t
    rw [wTs_cons]; omega
theorem wTs_norm (m : List Ty) : wTs (normT m) ≤ wTs m := by
  have := wTs_insAll m []
  rw [wTs_nil] at this
  unfold normT; omega
theorem keep4 {α : Type} {d : Kd α} {e : Nat} {W : World} {B b : Nat} {ok : Nat → Prop} {v : Value} {xs : List α} {u0 u1 u2 u3 : Value} (hb : b < B) (h : d.R e W B ok v xs) : d.R e ((((W.setCell ⟨b, 0, none⟩ u0).setCell ⟨b, 1, none⟩ u1).setCell ⟨b, 2, none⟩ u2).setCell ⟨b, 3, none⟩ u3) B ok v xs :=
  Kd.R_mono (Kd.R_move (Kd.R_bound h) (fun k hk => by
    have hne : k ≠ b := by have := hk.2.1; omega
    rw [Below.heap_setCell _ ⟨b, 3, none⟩ u3 k hne, Below.heap_setCell _ ⟨b, 2, none⟩ u2 k hne, Below.heap_setCell _ ⟨b, 1, none⟩ u1 k hne, Below.heap_setCell _ ⟨b, 0, none⟩ u0 k hne])) (fun _ hk => hk.1)
def isGreat (t : Ty) : Bool := decide (300 < sizeT t)
set_option maxHeartbeats 2000000 in
set_option maxRecDepth 100000 in
theorem union_calls (A0 : Option Addr) (c0 : Nat) (l0 : List Ty) (w : World) (hr0 : Kd.C k25 w A0 l0.length l0) (hc0 : l0.length ≤ c0) (hw : wTs l0 ≤ 1000000000000) :
    Calls Tryd.prog 24 #[.slice A0 l0.length c0] w fun e w' => ∃ v2_ v3_ : Value, e = .returned (.tuple #[.agg #[.int .i64 (unionT l0).1.f0, .int .i64 (unionT l0).1.f1, v2_, v3_], .int .i64 (unionT l0).2]) ∧ Kd.R Kd.string 9 w' w.heap.size (fun _ => True) v2_ (unionT l0).1.f2 ∧ Kd.R k25 25 w' w.heap.size (fun k_ => some k_ ≠ (v2_ : Value).ownBlock) v3_ (unionT l0).1.f3 ∧ Below w.heap.size w w' := by
  have hu25 := Tryd.underlying25
  have hn := wTs_len l0
  have HR := Aside0.mk hr0
  have HW := Aside0.mk hw
  have HC := Aside0.mk hc0
  have hn1 : l0.length ≤ 1000000000000 := by omega
  clear hr0 hw hc0 hn
  have BZ0 := heap_alloc_new w (.cells #[.int .i64 0, .int .i64 0, .slice none 0 0, .slice none 0 0] 25)
  by_cases hz : l0.length = 0
  · have hu : unionT l0 = (zeroT, 1) := by unfold unionT; rw [if_pos hz]
    rw [hu]
    have hz' : ((l0.length : Int) == 0) = true := by simp [hz]
    have P := Aside0.mk BZ0
    have HBz := Aside0.mk (below_alloc (Below.refl w.heap.size w) (.cells #[.int .i64 0, .int .i64 0, .slice none 0 0, .slice none 0 0] 25))
    obtain ⟨⟨z0, z1, z2, z3⟩, y0, y1, y2, y3⟩ := box4 BZ0
    go_enter Tryd.func24, Tryd.ntmps24
    go_wp2
    refine bodyPost_ret (results_ct rfl _ _ w.heap.size 25 #[.int .i64 0, .int .i64 0, .slice none 0 0, .slice none 0 0] (0, 0) _ rfl P.out Tryd.underlying25 rfl (by kernel_rfl)) rfl ?_
    exact ⟨_, _, rfl, Kd.R_nil _ _ _ _ _, Kd.R_nil _ _ _ _ _, HBz.out⟩
  · have hz' : ((l0.length : Int) == 0) = false := by simp [hz]
    have B0 := Aside0.mk BZ0
    clear BZ0
    go_enter Tryd.func24, Tryd.ntmps24
    go_wp2
    go_loopw [5, 6, 18] (fun v5 v6 v18 W => ∃ (i : Nat) (v : Value), v18 = .int .i64 i ∧ i ≤ l0.length ∧ v5 = .bool ((l0.take i).any isAny) ∧ v6 = .bool ((l0.take i).any isGreat) ∧ Aside0 (mayTs (l0.take i) = true) ∧ Aside0 (Below w.heap.size w W) ∧ Aside0 (W.heap[w.heap.size]? = some (.cells #[.int .i64 0, .int .i64 0, .slice none 0 0, .slice none 0 0] 25)) ∧ Aside0 (W.heap[w.heap.size + 1]? = some (.cells #[v] 23)) ∧ Aside0 ((kW w).R 25 W (w.heap.size + 2) (fun _ => True) v ((l0.take i).flatMap partsOf))) (fun v5 v6 v18 _ => l0.length + 1 - (RowKit.intOf v18).toNat)
    case atStart => exact ⟨0, .slice none 0 0, rfl, Nat.zero_le _, by simp, by simp, ⟨mayTs_nil⟩, ⟨below_alloc (below_alloc (Below.refl _ _) _) _⟩, ⟨blk_alloc B0.out _⟩, ⟨by simpa using heap_alloc_new (w.alloc (.cells #[.int .i64 0, .int .i64 0, .slice none 0 0, .slice none 0 0] 25)) (.cells #[.slice none 0 0] 23)⟩, ⟨by simpa using Kd.R_nil (kW w) 25 _ _ _⟩⟩
    case round =>
      obtain ⟨i, v, rfl, hin, rfl, rfl, HM, HB, B2, B4, RP⟩ := hrel
      by_cases hi : i < l0.length
      · obtain ⟨ad, A2, c2, A3, c3, e, q0, q1, q2, q3, rows⟩ := at_t HR.out HB.out hi
        have ROWS := Aside0.mk rows
        have HWi : Aside0 (wT l0[i] ≤ 1000000000000) := ⟨by have := wTs_mem (List.getElem_mem hi); have := HW.out; omega⟩
        clear rows
        generalize ht : l0[i] = t at *
        have HTI := Aside0.mk ht
        clear ht
        subst e
        have hown : ∀ k, v.ownBlock = some k → w.heap.size + 2 ≤ k ∧ k < wr.heap.size := fun k hk => by
          have := (Kd.R_bound RP.out).1 k hk
          exact ⟨this.2.1, this.2.2.1⟩
        have hlt : ((i : Int) < (l0.length : Int)) = True := by simp [hi]
        have hge : ((0 : Int) ≤ (i : Int)) = True := by simp
        go_wp2_with (go_at_call 36; refine hold_ ?_)
        unfold Held
        obtain ⟨K0, hK0⟩ := may_ev t (by have := HWi.out; omega)
        have EM := Aside0.mk (hK0 K0 (Nat.le_refl _))
        clear hK0
        have rw_ := rows_below ROWS.out (below_alloc HB.out (.cells #[.int .i64 t.f0, .int .i64 t.f1, .slice A2 t.f2.length c2, .slice A3 t.f3.length c3] 25))
        refine (types_may.calls K0 _ _ _ _ _ _ _ _ _ _ rw_.2.1 rw_.1 rw_.2.2.2 rw_.2.2.1 EM.out).mono ?_
        rintro e w1 ⟨rfl, hb⟩
        have BT := Aside0.mk (heap_alloc_new wr (.cells #[.int .i64 t.f0, .int .i64 t.f1, .slice A2 t.f2.length c2, .slice A3 t.f3.length c3] 25))
        clear rw_
        have nHB := Aside0.mk (below_step (by repeat (first | (with_reducible exact HB.out) | (with_reducible apply below_alloc) | (with_reducible apply pw_below_drewN) | (with_reducible apply below_drew1))) hb)
        have nB2 := Aside0.mk (blk_below (g := w.heap.size) (o := (.cells #[.int .i64 0, .int .i64 0, .slice none 0 0, .slice none 0 0] 25)) (by repeat (first | (with_reducible exact B2.out) | (with_reducible refine blk_alloc ?_ _) | (with_reducible refine blk_drewN ?_ _) | (with_reducible refine blk_drew ?_))) hb)
        have nB4 := Aside0.mk (blk_below (g := w.heap.size + 1) (o := (.cells #[v] 23)) (by repeat (first | (with_reducible exact B4.out) | (with_reducible refine blk_alloc ?_ _) | (with_reducible refine blk_drewN ?_ _) | (with_reducible refine blk_drew ?_))) hb)
        have nBT := Aside0.mk (blk_below (g := wr.heap.size) (o := (.cells #[.int .i64 t.f0, .int .i64 t.f1, .slice A2 t.f2.length c2, .slice A3 t.f3.length c3] 25)) (by repeat (first | (with_reducible exact BT.out) | (with_reducible refine blk_alloc ?_ _) | (with_reducible refine blk_drewN ?_ _) | (with_reducible refine blk_drew ?_))) hb)
        have nRP := Aside0.mk (Kd.R_below (by repeat (first | (with_reducible exact RP.out) | (with_reducible apply Kd.R_alloc) | (with_reducible apply Kd.R_drewN) | (with_reducible apply Kd.R_drew))) hb)
        clear HB
        have HB := nHB
        clear nHB
        clear B2
        have B2 := nB2
        clear nB2
        clear B4
        have B4 := nB4
        clear nB4
        clear BT
        have BT := nBT
        clear nBT
        clear RP
        have RP := nRP
        clear nRP
        clear hb
        clear q0 q1 q2 q3
        cases hm : mayT t with
        | false =>
          have hu : unionT l0 = (zeroT, 1) := by
            have h1 : mayTs l0 = false := by
              rw [Bool.eq_false_iff]; intro h2
              have := (mayTs_iff l0).1 h2 l0[i] (List.getElem_mem hi)
              rw [HTI.out, hm] at this; cases this
            unfold unionT; rw [if_neg hz, if_pos h1]
          have HU := Aside0.mk hu
          clear hu
          obtain ⟨⟨z0, z1, z2, z3⟩, y0, y1, y2, y3⟩ := box4 B2.out
          go_wp2
          refine bodyPost_ret (results_ct rfl _ _ w.heap.size 25 #[.int .i64 0, .int .i64 0, .slice none 0 0, .slice none 0 0] (0, 0) _ rfl (put4 B2.out) Tryd.underlying25 rfl (by kernel_rfl)) rfl ?_
          rw [HU.out]
          exact ⟨_, _, rfl, Kd.R_nil _ _ _ _ _, Kd.R_nil _ _ _ _ _, below_put4 HB.out (Nat.le_refl _)⟩
        | true =>
          obtain ⟨t0, t1, t2, t3⟩ := (box4 BT.out).1
          go_upto_region 10 with (fail)
          go_cut [5] (fun v5 wc => v5 = .bool ((l0.take (i + 1)).any isAny) ∧ wc = w1)
          case first =>
            have hA := any_next isAny hi HTI.out
            cases hwd : (l0.take i).any isAny with
            | true =>
              rw [hwd] at hA
              go_wp2
              go_meet
              case rel => exact ⟨by rw [hA]; first | rfl | simp [isAny], rfl⟩
            | false =>
              rw [hwd] at hA
              go_wp2
              go_meet
              case rel => exact ⟨by rw [hA]; first | rfl | simp [isAny], rfl⟩
          obtain ⟨rfl, rfl⟩ := hcut
          go_upto_region 11 with (fail)
          go_cut [6] (fun v6 wc => v6 = .bool ((l0.take (i + 1)).any isGreat) ∧ Aside0 (Below w.heap.size w wc) ∧ Aside0 (wc.heap[w.heap.size]? = some (.cells #[.int .i64 0, .int .i64 0, .slice none 0 0, .slice none 0 0] 25)) ∧ Aside0 (wc.heap[w.heap.size + 1]? = some (.cells #[v] 23)) ∧ Aside0 (wc.heap[wr.heap.size]? = some (.cells #[.int .i64 t.f0, .int .i64 t.f1, .slice A2 t.f2.length c2, .slice A3 t.f3.length c3] 25)) ∧ Aside0 ((kW w).R 25 wc (w.heap.size + 2) (fun _ => True) v ((l0.take i).flatMap partsOf)))
          case first =>
            have hA := any_next isGreat hi HTI.out
            cases hwd : (l0.take i).any isGreat with
            | true =>
              rw [hwd] at hA
              go_wp2
              go_meet
              case rel => exact ⟨by rw [hA]; rfl, HB, B2, B4, BT, RP⟩
            | false =>
              rw [hwd] at hA
              obtain ⟨K1, hK1⟩ := size_ev t (by have := HWi.out; omega)
              have ES := Aside0.mk (hK1 K1 (Nat.le_refl _))
              have hr2 := rows_below ROWS.out HB.out
              clear hK1
              go_wp2_with (go_at_call 15; refine hold_ ?_)
              unfold Held
              refine (types_Size.calls K1 _ _ _ _ _ _ _ _ _ _ hr2.2.1 hr2.1 hr2.2.2.2 hr2.2.2.1 ES.out).mono ?_
              rintro e w2 ⟨rfl, hb⟩
              clear hr2
              have nHB := Aside0.mk (below_step (by repeat (first | (with_reducible exact HB.out) | (with_reducible apply below_alloc) | (with_reducible apply pw_below_drewN) | (with_reducible apply below_drew1))) hb)
              have nB2 := Aside0.mk (blk_below (g := w.heap.size) (o := (.cells #[.int .i64 0, .int .i64 0, .slice none 0 0, .slice none 0 0] 25)) (by repeat (first | (with_reducible exact B2.out) | (with_reducible refine blk_alloc ?_ _) | (with_reducible refine blk_drewN ?_ _) | (with_reducible refine blk_drew ?_))) hb)
              have nB4 := Aside0.mk (blk_below (g := w.heap.size + 1) (o := (.cells #[v] 23)) (by repeat (first | (with_reducible exact B4.out) | (with_reducible refine blk_alloc ?_ _) | (with_reducible refine blk_drewN ?_ _) | (with_reducible refine blk_drew ?_))) hb)
              have nBT := Aside0.mk (blk_below (g := wr.heap.size) (o := (.cells #[.int .i64 t.f0, .int .i64 t.f1, .slice A2 t.f2.length c2, .slice A3 t.f3.length c3] 25)) (by repeat (first | (with_reducible exact BT.out) | (with_reducible refine blk_alloc ?_ _) | (with_reducible refine blk_drewN ?_ _) | (with_reducible refine blk_drew ?_))) hb)
              have nRP := Aside0.mk (Kd.R_below (by repeat (first | (with_reducible exact RP.out) | (with_reducible apply Kd.R_alloc) | (with_reducible apply Kd.R_drewN) | (with_reducible apply Kd.R_drew))) hb)
              clear HB
              have HB := nHB
              clear nHB
              clear B2
              have B2 := nB2
              clear nB2
              clear B4
              have B4 := nB4
              clear nB4
              clear BT
              have BT := nBT
              clear nBT
              clear RP
              have RP := nRP
              clear nRP
              clear hb
              go_wp2
              go_meet
              case rel => exact ⟨by rw [hA]; simp [isGreat]; omega, HB, B2, B4, BT, RP⟩
          clear HB B2 B4 BT RP t0 t1 t2 t3
          obtain ⟨rfl, HB, B2, B4, BT, RP⟩ := hcut
          have hbase : ∀ k, v.ownBlock = some k → w.heap.size + 2 ≤ k := fun k hk => Kd.R_base RP.out k hk
          obtain ⟨t0, t1, t2, t3⟩ := (box4 BT.out).1
          have c4 : wc.cell? ⟨w.heap.size + 1, 0, none⟩ = some v := (blk_cell B4.out 0).trans rfl
          have f4 := blk_frozen B4.out 0
          have hlen : ((l0.take i).flatMap partsOf).length + t.f3.length ≤ 1000000000000 := parts_len HW.out hi HTI.out
          generalize hP : (l0.take i).flatMap partsOf = P at *
          have HP := Aside0.mk hP
          clear hP
          obtain ⟨Av, cv, ev⟩ := Kd.R_slice RP.out
          subst ev
          by_cases k10 : t.f0 = 10
          · have hk : (t.f0 == 10) = true := by simp [k10]
            have hq : Aside0 (t.f3 = partsOf t) := ⟨by unfold partsOf; rw [if_pos (show t.k = 10 from k10)]; rfl⟩
            go_wp2_with ((with_reducible refine gate_dst (N := 51) rfl ?_); refine Kd.R_append_rows (kW w) (w0 := wc) (w.heap.size + 2) rfl (.tmp 48) (.tmp 50) 23 25 (.agg #[.int .i64 0, .int .i64 0, .slice none 0 0, .slice none 0 0]) 64 rfl Tryd.underlying23 info25 rfl (Nat.zero_lt_succ 3) (by decide) (.slice Av P.length cv) P t.f3 A3 t.f3.length c3 (fun _ => True) (fun _ => False) rfl rfl RP.out (kW_of ROWS.out.2.2.2 HB.out) (fun _ _ h => h) (fun _ h => h.elim) (fun _ _ => trivial) (Below.refl _ _) (by have := blk_lt B4.out; omega) (by omega) ?_; intro v1 w2 ho _ hg _; have nHB := Aside0.mk (HB.out.grown hg HB.out.size (fun k hk => by have := hbase k hk; omega)); have nB2 := Aside0.mk (blk_grown B2.out hg (fun hk => by have := hbase _ hk.symm; omega)); have nB4 := Aside0.mk (blk_grown B4.out hg (fun hk => by have := hbase _ hk.symm; omega)); have nRP := Aside0.mk ho; clear ho hg HB B2 B4 RP BT t0 t1 t2 t3 c4 f4; obtain ⟨Aw, cw, ew⟩ := Kd.R_slice nRP.out; subst ew; have c4 : w2.cell? ⟨w.heap.size + 1, 0, none⟩ = some (.slice Av P.length cv) := (blk_cell nB4.out 0).trans rfl; have f4 := blk_frozen nB4.out 0)
            go_roundw
            case rel => exact ⟨i + 1, _, by go_num, hi, rfl, rfl, ⟨may_next hi HTI.out HM.out hm⟩, ⟨nHB.out.setCell (p := ⟨w.heap.size + 1, 0, none⟩) (Nat.le_succ _) _⟩, ⟨b2_keep nB2.out⟩, ⟨blk_put (cs := #[_]) nB4.out 0 _ rfl⟩, ⟨row_next hi HTI.out HP.out hq.out (by simp) (row_keep nRP.out)⟩⟩
            case measure => simp [RowKit.intOf]; omega
          · have hk : (t.f0 == 10) = false := by simp [k10]
            have hq : Aside0 ([t] = partsOf t) := ⟨by unfold partsOf; rw [if_neg (show ¬ t.k = 10 from k10)]⟩
            go_upto_region 13 with (fail)
            refine start_ (n := 8) (S := fun w' => w'.cell? ⟨w.heap.size + 1, 0, none⟩ = some (.slice Av P.length cv) ∧ w'.cell? ⟨wr.heap.size, 0, none⟩ = some (.int .i64 t.f0) ∧ w'.cell? ⟨wr.heap.size, 1, none⟩ = some (.int .i64 t.f1) ∧ w'.cell? ⟨wr.heap.size, 2, none⟩ = some (.slice A2 t.f2.length c2) ∧ w'.cell? ⟨wr.heap.size, 3, none⟩ = some (.slice A3 t.f3.length c3)) (ds := [6, 7]) #[false, false, false, false, false, false, false, false] (by kernel_rfl) rfl rfl ⟨c4, t0, t1, t2, t3⟩ (fun hHeld => ?_)
            refine take_ (i := 0) (N := some 40) (v := ?_) (a' := ?_) #[true, false, false, false, false, false, false, false] rfl rfl (by kernel_rfl) (fun _ _ _ h => h) (Or.inl ⟨by rfl, ?_⟩) hHeld ?_ ?_
            rotate_left
            · rintro w' ⟨s0, s1, s2, s3, s4⟩
              go_simp
              with_reducible rfl
            rotate_left
            · simp only [Act.put, List.setIfInBounds_toArray, List.set_cons_zero, List.set_cons_succ, i64_w, i32_w]
              rfl
            refine take_ (i := 1) (N := some 41) (v := ?_) (a' := ?_) #[true, true, false, false, false, false, false, false] rfl rfl (by kernel_rfl) (fun _ _ _ h => h) (Or.inl ⟨by rfl, ?_⟩) hHeld ?_ ?_
            rotate_left
            · rintro w' ⟨s0, s1, s2, s3, s4⟩
              go_simp
              with_reducible rfl
            rotate_left
            · simp only [Act.put, List.setIfInBounds_toArray, List.set_cons_zero, List.set_cons_succ, i64_w, i32_w]
              rfl
            refine pure_ (i := 2) (N := some 42) (v := ?_) (a' := ?_) #[true, true, true, false, false, false, false, false] rfl rfl (by kernel_rfl) (fun _ _ _ h => h) (Or.inl ⟨by rfl, ?_⟩) ?_ ?_
            rotate_left
            · intro w'
              go_simp
              with_reducible rfl
            rotate_left
            · simp only [Act.put, List.setIfInBounds_toArray, List.set_cons_zero, List.set_cons_succ, i64_w, i32_w]
              rfl
            refine one_ (i := 3) (N := some 43) #[true, true, true, true, false, false, false, false] rfl rfl (by kernel_rfl) (by decide) (fun K hK => ?_)
            refine value_ (w1 := ?_) (v := ?_) (by rfl) rfl ?_ ?_
            rotate_left 2
            · go_simp
              constructor
              · rfl
              · rfl
            have HBd : Aside0 (Below w.heap.size w wc.drew) := ⟨below_drew1 HB.out⟩
            have B2d := Aside0.mk (blk_drew B2.out)
            have B4d := Aside0.mk (blk_drew B4.out)
            have BTd := Aside0.mk (blk_drew BT.out)
            have RPd := Aside0.mk (Kd.R_drew RP.out)
            have p1 := blk_alloc B4d.out (.cells #[.int .i64 0, .int .i64 0, .slice none 0 0, .slice none 0 0] 25)
            have p2 := blk_alloc BTd.out (.cells #[.int .i64 0, .int .i64 0, .slice none 0 0, .slice none 0 0] 25)
            refine hK.out _ _ ⟨(blk_cell p1 0).trans rfl, (blk_cell p2 0).trans rfl, (blk_cell p2 1).trans rfl, (blk_cell p2 2).trans rfl, (blk_cell p2 3).trans rfl⟩ (fun hHeld => ?_)
            clear hK K
            refine norm_ (a' := ?_) ?_ ?_
            rotate_left
            · show Act.put _ (some 43) _ = _
              simp only [Act.put, List.setIfInBounds_toArray, List.set_cons_zero, List.set_cons_succ, i64_w, i32_w]
              rfl
            clear p1 p2 c4 f4 t0 t1 t2 t3
            refine one_ (i := 4) (N := some 44) #[true, true, true, true, true, false, false, false] rfl rfl (by kernel_rfl) (by decide) (fun K hK => ?_)
            refine Kd.R_append_step (kW w) (w0 := wc.drew) (w.heap.size + 2) (by rfl) (.tmp 40) (.tmp 43) 23 25 (.agg #[.int .i64 0, .int .i64 0, .slice none 0 0, .slice none 0 0]) 64 rfl Tryd.underlying23 info25 rfl (Nat.zero_lt_succ 3) (by decide) (.slice Av P.length cv) P z25 [.int .i64 0, .int .i64 0, .slice none 0 0, .slice none 0 0] (fun _ => True) (fun _ => False) rfl rfl (zero_k w) (fun _ h => h.elim) (fun _ _ => trivial) RPd.out (Below.refl _ _) (by have := blk_lt B4d.out; omega) (by omega) ?_
            intro v1 w2 ho _ hg _
            obtain ⟨g1, cap1, ev1⟩ := row_form ho (by simp)
            subst ev1
            have nHB := Aside0.mk (HBd.out.grown hg HBd.out.size (fun k hk => by have := hbase k hk; omega))
            have nB2 := Aside0.mk (blk_grown B2d.out hg (fun hk => by have := hbase _ hk.symm; omega))
            have nB4 := Aside0.mk (blk_grown B4d.out hg (fun hk => by have := hbase _ hk.symm; omega))
            have nBT := Aside0.mk (blk_grown BTd.out hg (fun hk => by have := hown _ hk.symm; omega))
            have nRP := Aside0.mk ho
            have hgb := Kd.R_base nRP.out g1 (by simp [Value.ownBlock])
            refine hK.out _ _ ⟨(blk_cell nB4.out 0).trans rfl, (blk_cell nBT.out 0).trans rfl, (blk_cell nBT.out 1).trans rfl, (blk_cell nBT.out 2).trans rfl, (blk_cell nBT.out 3).trans rfl⟩ (fun hHeld => ?_)
            clear hK K
            refine norm_ (a' := ?_) ?_ ?_
            rotate_left
            · show Act.put _ (some 44) _ = _
              simp only [Act.put, List.setIfInBounds_toArray, List.set_cons_zero, List.set_cons_succ, i64_w, i32_w]
              rfl
            clear HBd B2d B4d BTd RPd HB B2 B4 BT RP hg ho
            obtain ⟨zc, zl, zcell⟩ := row_cells nRP.out P.length (by simp)
            obtain ⟨za, zb, zc', zd, rfl⟩ := four zl
            have e0 := zcell 0 _ rfl
            have e1 := zcell 1 _ rfl
            have e2 := zcell 2 _ rfl
            have e3 := zcell 3 _ rfl
            rw [Nat.add_zero] at e0
            have fr : ∀ j, w2.frozen? ⟨g1, j, none⟩ = false := fun j => row_frozen nRP.out j
            have fr0 := fr (P.length * 4)
            have fr1 := fr (P.length * 4 + 1)
            have fr2 := fr (P.length * 4 + 2)
            have fr3 := fr (P.length * 4 + 3)
            have f4 := blk_frozen nB4.out 0
            have c4 : w2.cell? ⟨w.heap.size + 1, 0, none⟩ = some (.slice Av P.length cv) := (blk_cell nB4.out 0).trans rfl
            clear fr
            have hpl : ((P.length : Int) < (P.length : Int) + 1) = True := eq_true (by omega)
            have hpg : ((0 : Int) ≤ (P.length : Int)) = True := eq_true (by omega)
            refine pure_ (i := 5) (N := some 45) (v := ?_) (a' := ?_) #[true, true, true, true, true, true, false, false] rfl rfl (by kernel_rfl) (fun _ _ _ h => h) (Or.inl ⟨by rfl, ?_⟩) ?_ ?_
            rotate_left
            · intro w'
              go_simp
              with_reducible rfl
            rotate_left
            · simp only [Act.put, List.setIfInBounds_toArray, List.set_cons_zero, List.set_cons_succ, i64_w, i32_w]
              rfl
            refine join_ (σ := Unit) 0 #[true, true, true, true, true, true, true, true] (fun _ => []) (fun _ w' => Below w.heap.size w w' ∧ w'.heap[w.heap.size]? = some (.cells #[.int .i64 0, .int .i64 0, .slice none 0 0, .slice none 0 0] 25) ∧ w'.heap[w.heap.size + 1]? = some (.cells #[.slice (some ⟨g1, 0, none⟩) (P.length + 1) cap1] 23) ∧ (kW w).R 25 w' (w.heap.size + 2) (fun _ => True) (.slice (some ⟨g1, 0, none⟩) (P ++ [t]).length cap1) (P ++ [t])) (fun s w' hF => ?_) (fun hJ => ?_)
            rotate_left
            · refine twolast_ (i := 6) (j := 7) #[true, true, true, true, true, true, true, false] #[true, true, true, true, true, true, false, true] rfl rfl rfl rfl (by kernel_rfl) (by decide) (by decide) (fun K hK => ?_) (fun K hK => ?_)
              · refine R_store_step (kW w) (w.heap.size + 2) (by rfl) rfl 25 (.tmp 45) (.tmp 41) rfl 25 (g := g1) P.length (P ++ [z25]) t (.agg #[.int .i64 t.f0, .int .i64 t.f1, .slice A2 t.f2.length c2, .slice A3 t.f3.length c3]) [.int .i64 t.f0, .int .i64 t.f1, .slice A2 t.f2.length c2, .slice A3 t.f3.length c3] [za, zb, zc', zd] (fun _ => True) (fun _ => False) (by rfl) (by rfl) (by rfl) (by rfl) (by rfl) (by intro q hq; simp at hq; rcases hq with rfl | rfl | rfl | rfl <;> rfl) nRP.out (by simp) rfl zcell (Nat.le_refl 4) (type_k ROWS.out zl) (fun _ h => h.elim) ?_
                intro w3 ho3 hg3
                have mHB := Aside0.mk (nHB.out.grown hg3 nHB.out.size (fun k hk => by injection hk with hk; omega))
                have mB2 := Aside0.mk (blk_grown nB2.out hg3 (fun hk => by injection hk with hk; omega))
                have mB4 := Aside0.mk (blk_grown nB4.out hg3 (fun hk => by injection hk with hk; omega))
                have mRP := Aside0.mk (row_set' ho3)
                clear ho3 hg3 c4 f4
                have c4 : w3.cell? ⟨w.heap.size + 1, 0, none⟩ = some (.slice Av P.length cv) := (blk_cell mB4.out 0).trans rfl
                have f4 := blk_frozen mB4.out 0
                refine hK.out _ _ ?_
                clear hK K
                refine last_ (i := 7) (N := none) #[true, true, true, true, true, true, true, true] rfl rfl (by kernel_rfl) (by decide) (fun K hK => ?_)
                refine skip_ (w1 := ?_) (by rfl) rfl ?_ ?_
                rotate_left
                · go_simp
                  rfl
                refine hK.out _ _ ?_
                clear hK K
                exact hJ () _ ⟨mHB.out.setCell (p := ⟨w.heap.size + 1, 0, none⟩) (Nat.le_succ _) _, b2_keep mB2.out, blk_put (cs := #[_]) mB4.out 0 _ rfl, row_keep mRP.out⟩
              · refine skip_ (w1 := ?_) (by rfl) rfl ?_ ?_
                rotate_left
                · go_simp
                  rfl
                refine hK.out _ _ ?_
                clear hK K
                refine last_ (i := 6) (N := none) #[true, true, true, true, true, true, true, true] rfl rfl (by kernel_rfl) (by decide) (fun K hK => ?_)
                refine R_store_step (kW w) (w.heap.size + 2) (by rfl) rfl 25 (.tmp 45) (.tmp 41) rfl 25 (g := g1) P.length (P ++ [z25]) t (.agg #[.int .i64 t.f0, .int .i64 t.f1, .slice A2 t.f2.length c2, .slice A3 t.f3.length c3]) [.int .i64 t.f0, .int .i64 t.f1, .slice A2 t.f2.length c2, .slice A3 t.f3.length c3] [za, zb, zc', zd] (fun _ => True) (fun _ => False) (by rfl) (by rfl) (by rfl) (by rfl) (by rfl) (by intro q hq; simp at hq; rcases hq with rfl | rfl | rfl | rfl <;> rfl) (row_keep nRP.out) (by simp) rfl (fun j u hu => by rw [cell_far (show g1 ≠ w.heap.size + 1 from by omega)]; exact zcell j u hu) (Nat.le_refl 4) (type_k ROWS.out zl) (fun _ h => h.elim) ?_
                intro w3 ho3 hg3
                have mHB := Aside0.mk ((nHB.out.setCell (p := ⟨w.heap.size + 1, 0, none⟩) (Nat.le_succ _) _).grown hg3 (nHB.out.setCell (p := ⟨w.heap.size + 1, 0, none⟩) (Nat.le_succ _) _).size (fun k hk => by injection hk with hk; omega))
                have mB2 := Aside0.mk (blk_grown (b2_keep nB2.out) hg3 (fun hk => by injection hk with hk; omega))
                have mB4 := Aside0.mk (blk_grown (blk_put (cs := #[_]) nB4.out 0 _ rfl) hg3 (fun hk => by injection hk with hk; omega))
                refine hK.out _ _ ?_
                clear hK K
                exact hJ () _ ⟨mHB.out, mB2.out, mB4.out, row_set' ho3⟩
            obtain ⟨nHB', nB2', nB4', nRP'⟩ := hF
            clear nHB nB2 nB4 nBT nRP e0 e1 e2 e3 fr0 fr1 fr2 fr3 f4 c4 hHeld
            have nHB := Aside0.mk nHB'
            have nB2 := Aside0.mk nB2'
            have nB4 := Aside0.mk nB4'
            have nRP := Aside0.mk nRP'
            clear nHB' nB2' nB4' nRP'
            refine done_ (by kernel_rfl) ?_
            simp only [putAll]
            go_wp2
            go_roundw
            case rel => exact ⟨i + 1, _, by go_num, hi, rfl, rfl, ⟨may_next hi HTI.out HM.out hm⟩, ⟨nHB.out⟩, ⟨nB2.out⟩, ⟨nB4.out⟩, ⟨row_next hi HTI.out HP.out hq.out (by simp) nRP.out⟩⟩
            case measure => simp [RowKit.intOf]; omega
      · obtain rfl : i = l0.length := by omega
        rw [List.take_length] at *
        have hlt : ((l0.length : Int) < (l0.length : Int)) = False := by simp
        cases hany : l0.any isAny with
        | true =>
          have hu : unionT l0 = (anyT, 0) := by
            unfold unionT; rw [if_neg hz, if_neg (by rw [HM.out]; decide), if_pos (by exact hany)]
          have HU := Aside0.mk hu
          clear hu
          obtain ⟨⟨z0, z1, z2, z3⟩, y0, y1, y2, y3⟩ := box4 B2.out
          go_wp2
          refine bodyPost_ret (results_ct rfl _ _ w.heap.size 25 #[.int .i64 1, .int .i64 0, .slice none 0 0, .slice none 0 0] (0, 0) _ rfl (put4 B2.out) Tryd.underlying25 rfl (by kernel_rfl)) rfl ?_
          rw [HU.out]
          exact ⟨_, _, rfl, Kd.R_nil _ _ _ _ _, Kd.R_nil _ _ _ _ _, below_put4 HB.out (Nat.le_refl _)⟩
        | false =>
          have c4 : wr.cell? ⟨w.heap.size + 1, 0, none⟩ = some v := (blk_cell B4.out 0).trans rfl
          have f4 := blk_frozen B4.out 0
          have hpos := parts_pos hz HM.out
          obtain ⟨gs, cap, Lc, ev, hgb, hgl, hLm, hLk, hLh⟩ := row_holds RP.out hpos
          subst ev
          have HX := Aside0.mk (And.intro hLm (And.intro hLk hLh))
          clear hLm hLk hLh
          have hlenP : (l0.flatMap partsOf).length ≤ 1000000000000 := by have := wTs_flat l0; have := wTs_len (l0.flatMap partsOf); have := HW.out; omega
          generalize hP : l0.flatMap partsOf = P at *
          have HP := Aside0.mk hP
          clear hP
          have hwP : Aside0 (∀ x ∈ P, wT x ≤ 1099511627776) := ⟨fun x hx => by rw [← HP.out] at hx; have := wTs_mem hx; have := wTs_flat l0; have := HW.out; omega⟩
          have h4g : w.heap.size + 1 ≠ gs := by omega
          have hgw : w.heap.size ≤ gs := by omega
          have hsort := sort_calls HX.out.1 HX.out.2.1 HX.out.2.2 hgl hgw h4g B4.out HB.out hpos hlenP hwP.out
          have HSORT := Aside0.mk hsort
          clear hsort
          go_wp2_with (go_at_call 43; refine hold_ ?_)
          unfold Held
          refine HSORT.out.mono ?_
          rintro e w1 ⟨rfl, d, hds, hdH, hdK, hdm, hdo, hT⟩
          have nHB := Aside0.mk (turn_below HB.out hT hgw HB.out.size)
          have nB2 := Aside0.mk (show w1.heap[w.heap.size]? = some (.cells #[.int .i64 0, .int .i64 0, .slice none 0 0, .slice none 0 0] 25) by rw [hT.block _ (blk_lt B2.out) (by omega)]; exact B2.out)
          have nB4 := Aside0.mk (show w1.heap[w.heap.size + 1]? = some (.cells #[.slice (some ⟨gs, 0, none⟩) P.length cap] 23) by rw [hT.block _ (blk_lt B4.out) (by omega)]; exact B4.out)
          have hsz := hT.size
          have DH := Aside0.mk hdH
          have DK := Aside0.mk hdK
          have DM := Aside0.mk hdm
          have DO := Aside0.mk hdo
          have HMl := Aside0.mk HM.out
          clear hT hdH hdK hdm hdo HB B2 B4 RP HX c4 f4 HM Lc
          have c4 : w1.cell? ⟨w.heap.size + 1, 0, none⟩ = some (.slice (some ⟨gs, 0, none⟩) P.length cap) := (blk_cell nB4.out 0).trans rfl
          have f4 := blk_frozen nB4.out 0
          have BU := heap_alloc_new w1 (.cells #[.int .i64 10, .int .i64 0, .slice none 0 0, .slice none 0 0] 25)
          have BU0 := Aside0.mk BU
          clear BU
          have c4a : (w1.alloc (.cells #[.int .i64 10, .int .i64 0, .slice none 0 0, .slice none 0 0] 25)).cell? ⟨w.heap.size + 1, 0, none⟩ = some (.slice (some ⟨gs, 0, none⟩) P.length cap) := (blk_cell (blk_alloc nB4.out _) 0).trans rfl
          go_wp2
          go_loopw [62] (fun v62 W => ∃ (i : Nat) (vp : Value), v62 = .int .i64 i ∧ i ≤ P.length ∧ Aside0 (Below w1.heap.size w1 W) ∧ Aside0 (W.heap[w1.heap.size]? = some (.cells #[.int .i64 10, .int .i64 0, .slice none 0 0, vp] 25)) ∧ Aside0 (kA.R 25 W (w1.heap.size + 1) (fun _ => True) vp (newTs d i))) (fun v62 _ => P.length + 1 - (RowKit.intOf v62).toNat)
          case atStart => exact ⟨0, .slice none 0 0, rfl, Nat.zero_le _, ⟨below_alloc (Below.refl _ _) _⟩, ⟨BU0.out⟩, ⟨Kd.R_nil _ _ _ _ _⟩⟩
          case round =>
            obtain ⟨i, vp, rfl, hin, HBl, BUl, RO⟩ := hrel
            clear c4 f4 c4a
            have c4 : wr.cell? ⟨w.heap.size + 1, 0, none⟩ = some (.slice (some ⟨gs, 0, none⟩) P.length cap) := (HBl.out.cell (p := ⟨w.heap.size + 1, 0, none⟩) (blk_lt nB4.out)).trans ((blk_cell nB4.out 0).trans rfl)
            have HH : Aside0 (Go.Sort.HoldsK Cl.enc 4 wr gs 0 d) := ⟨Go.Srt.holdsK_below DH.out (by omega) HBl.out⟩
            by_cases hi : i < P.length
            · have hlt : ((i : Int) < (P.length : Int)) = True := by simp [hi]
              have hge : ((0 : Int) ≤ (i : Int)) = True := by simp
              obtain ⟨q0, q1, q2, q3⟩ := holds_cells HH.out (show i < d.size by omega)
              have mx : d[i]! ∈ d.toList := by rw [getElem!_pos d i (by omega)]; simp
              have hown2 : ∀ k, vp.ownBlock = some k → w1.heap.size + 1 ≤ k ∧ k < wr.heap.size := fun k hk => by
                have := (Kd.R_bound RO.out).1 k hk
                exact ⟨this.2.1, this.2.2.1⟩
              have hwr := blk_lt BUl.out
              have ROWX := Aside0.mk (cl_rows (DK.out _ mx) nHB.out)
              have HWX : Aside0 (wT d[i]!.t ≤ 1099511627776) := ⟨hwP.out _ (DM.out _ mx)⟩
              have HN : Aside0 (newTs d (i + 1) = newTs d i ++ (if i = 0 then [d[i]!.t] else if cmpT d[i - 1]!.t d[i]!.t = 0 then [] else [d[i]!.t])) := ⟨rfl⟩
              clear mx
              generalize hx : d[i]! = x at *
              have HXI := Aside0.mk hx
              clear hx
              go_upto_region 24 with (fail)
              have BX := Aside0.mk (heap_alloc_new wr (.cells #[.int .i64 x.t.f0, .int .i64 x.t.f1, .slice x.A2 x.t.f2.length x.c2, .slice x.A3 x.t.f3.length x.c3] 25))
              have HBa := Aside0.mk (below_alloc HBl.out (.cells #[.int .i64 x.t.f0, .int .i64 x.t.f1, .slice x.A2 x.t.f2.length x.c2, .slice x.A3 x.t.f3.length x.c3] 25))
              have BUa := Aside0.mk (blk_alloc BUl.out (.cells #[.int .i64 x.t.f0, .int .i64 x.t.f1, .slice x.A2 x.t.f2.length x.c2, .slice x.A3 x.t.f3.length x.c3] 25))
              have ROa := Aside0.mk (Kd.R_alloc RO.out (.cells #[.int .i64 x.t.f0, .int .i64 x.t.f1, .slice x.A2 x.t.f2.length x.c2, .slice x.A3 x.t.f3.length x.c3] 25))
              generalize hW : wr.alloc (.cells #[.int .i64 x.t.f0, .int .i64 x.t.f1, .slice x.A2 x.t.f2.length x.c2, .slice x.A3 x.t.f3.length x.c3] 25) = wx at *
              clear hW HBl BUl RO c4 HH q0 q1 q2 q3
              go_cut [78] (fun v78 wc => v78 = .bool (decide (i = 0) || decide (cmpT d[i - 1]!.t x.t ≠ 0)) ∧ Aside0 (Below w1.heap.size w1 wc) ∧ Aside0 (wc.heap[w1.heap.size]? = some (.cells #[.int .i64 10, .int .i64 0, .slice none 0 0, vp] 25)) ∧ Aside0 (wc.heap[wr.heap.size]? = some (.cells #[.int .i64 x.t.f0, .int .i64 x.t.f1, .slice x.A2 x.t.f2.length x.c2, .slice x.A3 x.t.f3.length x.c3] 25)) ∧ Aside0 (kA.R 25 wc (w1.heap.size + 1) (fun _ => True) vp (newTs d i)))
              case first =>
                rcases Nat.eq_zero_or_pos i with h0 | h0
                · subst h0
                  refine start_ (n := 12) (S := fun w' => True) (ds := []) #[false, false, false, false, false, false, false, false, false, false, false, false] (by kernel_rfl) rfl rfl trivial (fun hHeld => ?_)
                  refine pure_ (i := 0) (N := some 67) (v := ?_) (a' := ?_) #[true, false, false, false, false, false, false, false, false, false, false, false] rfl rfl (by kernel_rfl) (fun _ _ _ h => h) (Or.inl ⟨by rfl, ?_⟩) ?_ ?_
                  rotate_left
                  · intro w'
                    go_simp
                    with_reducible rfl
                  rotate_left
                  · simp only [Act.put, List.setIfInBounds_toArray, List.set_cons_zero, List.set_cons_succ, i64_w, i32_w]
                    rfl
                  refine pure_ (i := 1) (N := some 68) (v := ?_) (a' := ?_) #[true, true, false, false, false, false, false, false, false, false, false, false] rfl rfl (by kernel_rfl) (fun _ _ _ h => h) (Or.inl ⟨by rfl, ?_⟩) ?_ ?_
                  rotate_left
                  · intro w'
                    go_simp
                    with_reducible rfl
                  rotate_left
                  · simp only [Act.put, List.setIfInBounds_toArray, List.set_cons_zero, List.set_cons_succ, i64_w, i32_w]
                    rfl
                  refine pure_ (i := 2) (N := some 69) (v := ?_) (a' := ?_) #[true, true, true, false, false, false, false, false, false, false, false, false] rfl rfl (by kernel_rfl) (fun _ _ _ h => h) (Or.inl ⟨by rfl, ?_⟩) ?_ ?_
                  rotate_left
                  · intro w'
                    go_simp
                    with_reducible rfl
                  rotate_left
                  · simp only [Act.put, List.setIfInBounds_toArray, List.set_cons_zero, List.set_cons_succ, i64_w, i32_w]
                    rfl
                  refine pure_ (i := 3) (N := some 70) (v := undef) (a' := ?_) #[true, true, true, true, false, false, false, false, false, false, false, false] rfl rfl (by kernel_rfl) (fun _ _ _ h => h) (Or.inr ⟨by rfl, rfl⟩) ?_ ?_
                  rotate_left
                  · simp only [Act.put, List.setIfInBounds_toArray, List.set_cons_zero, List.set_cons_succ, i64_w, i32_w]
                    rfl
                  refine pure_ (i := 4) (N := some 71) (v := undef) (a' := ?_) #[true, true, true, true, true, false, false, false, false, false, false, false] rfl rfl (by kernel_rfl) (fun _ _ _ h => h) (Or.inr ⟨by rfl, rfl⟩) ?_ ?_
                  rotate_left
                  · simp only [Act.put, List.setIfInBounds_toArray, List.set_cons_zero, List.set_cons_succ, i64_w, i32_w]
                    rfl
                  refine pure_ (i := 5) (N := some 72) (v := undef) (a' := ?_) #[true, true, true, true, true, true, false, false, false, false, false, false] rfl rfl (by kernel_rfl) (fun _ _ _ h => h) (Or.inr ⟨by rfl, rfl⟩) ?_ ?_
                  rotate_left
                  · simp only [Act.put, List.setIfInBounds_toArray, List.set_cons_zero, List.set_cons_succ, i64_w, i32_w]
                    rfl
                  refine pure_ (i := 6) (N := some 73) (v := undef) (a' := ?_) #[true, true, true, true, true, true, true, false, false, false, false, false] rfl rfl (by kernel_rfl) (fun _ _ _ h => h) (Or.inr ⟨by rfl, rfl⟩) ?_ ?_
                  rotate_left
                  · simp only [Act.put, List.setIfInBounds_toArray, List.set_cons_zero, List.set_cons_succ, i64_w, i32_w]
                    rfl
                  refine pure_ (i := 7) (N := some 74) (v := undef) (a' := ?_) #[true, true, true, true, true, true, true, true, false, false, false, false] rfl rfl (by kernel_rfl) (fun _ _ _ h => h) (Or.inr ⟨by rfl, rfl⟩) ?_ ?_
                  rotate_left
                  · simp only [Act.put, List.setIfInBounds_toArray, List.set_cons_zero, List.set_cons_succ, i64_w, i32_w]
                    rfl
                  refine pure_ (i := 8) (N := some 75) (v := undef) (a' := ?_) #[true, true, true, true, true, true, true, true, true, false, false, false] rfl rfl (by kernel_rfl) (fun _ _ _ h => h) (Or.inr ⟨by rfl, rfl⟩) ?_ ?_
                  rotate_left
                  · simp only [Act.put, List.setIfInBounds_toArray, List.set_cons_zero, List.set_cons_succ, i64_w, i32_w]
                    rfl
                  refine pure_ (i := 9) (N := some 76) (v := undef) (a' := ?_) #[true, true, true, true, true, true, true, true, true, true, false, false] rfl rfl (by kernel_rfl) (fun _ _ _ h => h) (Or.inr ⟨by rfl, rfl⟩) ?_ ?_
                  rotate_left
                  · simp only [Act.put, List.setIfInBounds_toArray, List.set_cons_zero, List.set_cons_succ, i64_w, i32_w]
                    rfl
                  refine pure_ (i := 10) (N := some 77) (v := undef) (a' := ?_) #[true, true, true, true, true, true, true, true, true, true, true, false] rfl rfl (by kernel_rfl) (fun _ _ _ h => h) (Or.inr ⟨by rfl, rfl⟩) ?_ ?_
                  rotate_left
                  · simp only [Act.put, List.setIfInBounds_toArray, List.set_cons_zero, List.set_cons_succ, i64_w, i32_w]
                    rfl
                  refine pure_ (i := 11) (N := some 78) (v := ?_) (a' := ?_) #[true, true, true, true, true, true, true, true, true, true, true, true] rfl rfl (by kernel_rfl) (fun _ _ _ h => h) (Or.inl ⟨by rfl, ?_⟩) ?_ ?_
                  rotate_left
                  · intro w'
                    go_simp
                    with_reducible rfl
                  rotate_left
                  · simp only [Act.put, List.setIfInBounds_toArray, List.set_cons_zero, List.set_cons_succ, i64_w, i32_w]
                    rfl
                  refine done_ (by kernel_rfl) ?_
                  go_wp2
                  go_meet
                  case rel => exact ⟨rfl, ⟨below_drew1 HBa.out⟩, ⟨blk_drew BUa.out⟩, ⟨blk_drew BX.out⟩, ⟨Kd.R_drew ROa.out⟩⟩
                · obtain ⟨m, rfl⟩ : ∃ m, i = m + 1 := ⟨i - 1, by omega⟩
                  have HH : Aside0 (Go.Sort.HoldsK Cl.enc 4 wx gs 0 d) := ⟨Go.Srt.holdsK_below DH.out (by omega) HBa.out⟩
                  have c4 : wx.cell? ⟨w.heap.size + 1, 0, none⟩ = some (.slice (some ⟨gs, 0, none⟩) P.length cap) := (HBa.out.cell (p := ⟨w.heap.size + 1, 0, none⟩) (blk_lt nB4.out)).trans ((blk_cell nB4.out 0).trans rfl)
                  obtain ⟨q0, q1, q2, q3⟩ := holds_cells HH.out (show m < d.size by omega)
                  have my : d[m]! ∈ d.toList := by rw [getElem!_pos d m (by omega)]; simp
                  have ROWY := Aside0.mk (cl_rows (DK.out _ my) (below_step nHB.out HBa.out))
                  have HWY : Aside0 (wT d[m]!.t ≤ 1099511627776) := ⟨hwP.out _ (DM.out _ my)⟩
                  clear my
                  generalize hy : d[m]! = y at *
                  have HY := Aside0.mk hy
                  clear hy
                  obtain ⟨t0, t1, t2, t3⟩ := (box4 BX.out).1
                  have hm0 : (((m + 1 : Nat) : Int) == 0) = false := by simp; omega
                  have hmw : wrap64 (m : Int) = (m : Int) := by unfold wrap64; omega
                  have hml : ((m : Int) < (P.length : Int)) = True := eq_true (by omega)
                  have hmg : ((0 : Int) ≤ (m : Int)) = True := by simp
                  obtain ⟨Kc, hKc⟩ := cmp_ev y.t x.t HWY.out HWX.out
                  have EC := Aside0.mk (hKc Kc (Nat.le_refl _))
                  clear hKc
                  have RI := Aside0.mk (ROWY.out)
                  have RJ := Aside0.mk (rows_below ROWX.out HBa.out)
                  refine start_ (n := 12) (S := fun w' => w'.cell? ⟨w.heap.size + 1, 0, none⟩ = some (.slice (some ⟨gs, 0, none⟩) P.length cap) ∧ w'.cell? ⟨gs, m * 4, none⟩ = some (.int .i64 y.t.f0) ∧ w'.cell? ⟨gs, m * 4 + 1, none⟩ = some (.int .i64 y.t.f1) ∧ w'.cell? ⟨gs, m * 4 + 2, none⟩ = some (.slice y.A2 y.t.f2.length y.c2) ∧ w'.cell? ⟨gs, m * 4 + 3, none⟩ = some (.slice y.A3 y.t.f3.length y.c3) ∧ w'.cell? ⟨wr.heap.size, 0, none⟩ = some (.int .i64 x.t.f0) ∧ w'.cell? ⟨wr.heap.size, 1, none⟩ = some (.int .i64 x.t.f1) ∧ w'.cell? ⟨wr.heap.size, 2, none⟩ = some (.slice x.A2 x.t.f2.length x.c2) ∧ w'.cell? ⟨wr.heap.size, 3, none⟩ = some (.slice x.A3 x.t.f3.length x.c3)) (ds := []) #[false, false, false, false, false, false, false, false, false, false, false, false] (by kernel_rfl) rfl rfl ⟨c4, q0, q1, q2, q3, t0, t1, t2, t3⟩ (fun hHeld => ?_)
                  refine pure_ (i := 0) (N := some 67) (v := ?_) (a' := ?_) #[true, false, false, false, false, false, false, false, false, false, false, false] rfl rfl (by kernel_rfl) (fun _ _ _ h => h) (Or.inl ⟨by rfl, ?_⟩) ?_ ?_
                  rotate_left
                  · intro w'
                    go_simp
                    with_reducible rfl
                  rotate_left
                  · simp only [Act.put, List.setIfInBounds_toArray, List.set_cons_zero, List.set_cons_succ, i64_w, i32_w]
                    rfl
                  refine pure_ (i := 1) (N := some 68) (v := ?_) (a' := ?_) #[true, true, false, false, false, false, false, false, false, false, false, false] rfl rfl (by kernel_rfl) (fun _ _ _ h => h) (Or.inl ⟨by rfl, ?_⟩) ?_ ?_
                  rotate_left
                  · intro w'
                    go_simp
                    with_reducible rfl
                  rotate_left
                  · simp only [Act.put, List.setIfInBounds_toArray, List.set_cons_zero, List.set_cons_succ, i64_w, i32_w]
                    rfl
                  refine pure_ (i := 2) (N := some 69) (v := ?_) (a' := ?_) #[true, true, true, false, false, false, false, false, false, false, false, false] rfl rfl (by kernel_rfl) (fun _ _ _ h => h) (Or.inl ⟨by rfl, ?_⟩) ?_ ?_
                  rotate_left
                  · intro w'
                    go_simp
                    with_reducible rfl
                  rotate_left
                  · simp only [Act.put, List.setIfInBounds_toArray, List.set_cons_zero, List.set_cons_succ, i64_w, i32_w]
                    rfl
                  refine take_ (i := 3) (N := some 70) (v := ?_) (a' := ?_) #[true, true, true, true, false, false, false, false, false, false, false, false] rfl rfl (by kernel_rfl) (fun _ _ _ h => h) (Or.inl ⟨by rfl, ?_⟩) hHeld ?_ ?_
                  rotate_left
                  · rintro w' ⟨s0, s1, s2, s3, s4, s5, s6, s7, s8⟩
                    go_simp
                    with_reducible rfl
                  rotate_left
                  · simp only [Act.put, List.setIfInBounds_toArray, List.set_cons_zero, List.set_cons_succ, i64_w, i32_w]
                    rfl
                  refine pure_ (i := 4) (N := some 71) (v := ?_) (a' := ?_) #[true, true, true, true, true, false, false, false, false, false, false, false] rfl rfl (by kernel_rfl) (fun _ _ _ h => h) (Or.inl ⟨by rfl, ?_⟩) ?_ ?_
                  rotate_left
                  · intro w'
                    go_simp
                    with_reducible rfl
                  rotate_left
                  · simp only [Act.put, List.setIfInBounds_toArray, List.set_cons_zero, List.set_cons_succ, i64_w, i32_w]
                    rfl
                  refine pure_ (i := 5) (N := some 72) (v := ?_) (a' := ?_) #[true, true, true, true, true, true, false, false, false, false, false, false] rfl rfl (by kernel_rfl) (fun _ _ _ h => h) (Or.inl ⟨by rfl, ?_⟩) ?_ ?_
                  rotate_left
                  · intro w'
                    go_simp
                    with_reducible rfl
                  rotate_left
                  · simp only [Act.put, List.setIfInBounds_toArray, List.set_cons_zero, List.set_cons_succ, i64_w, i32_w]
                    rfl
                  refine pure_ (i := 6) (N := some 73) (v := ?_) (a' := ?_) #[true, true, true, true, true, true, true, false, false, false, false, false] rfl rfl (by kernel_rfl) (fun _ _ _ h => h) (Or.inl ⟨by rfl, ?_⟩) ?_ ?_
                  rotate_left
                  · intro w'
                    go_simp
                    with_reducible rfl
                  rotate_left
                  · simp only [Act.put, List.setIfInBounds_toArray, List.set_cons_zero, List.set_cons_succ, i64_w, i32_w]
                    rfl
                  refine take_ (i := 7) (N := some 74) (v := ?_) (a' := ?_) #[true, true, true, true, true, true, true, true, false, false, false, false] rfl rfl (by kernel_rfl) (fun _ _ _ h => h) (Or.inl ⟨by rfl, ?_⟩) hHeld ?_ ?_
                  rotate_left
                  · rintro w' ⟨s0, s1, s2, s3, s4, s5, s6, s7, s8⟩
                    go_simp
                    with_reducible rfl
                  rotate_left
                  · simp only [Act.put, List.setIfInBounds_toArray, List.set_cons_zero, List.set_cons_succ, i64_w, i32_w]
                    rfl
                  refine take_ (i := 8) (N := some 75) (v := ?_) (a' := ?_) #[true, true, true, true, true, true, true, true, true, false, false, false] rfl rfl (by kernel_rfl) (fun _ _ _ h => h) (Or.inl ⟨by rfl, ?_⟩) hHeld ?_ ?_
                  rotate_left
                  · rintro w' ⟨s0, s1, s2, s3, s4, s5, s6, s7, s8⟩
                    go_simp
                    with_reducible rfl
                  rotate_left
                  · simp only [Act.put, List.setIfInBounds_toArray, List.set_cons_zero, List.set_cons_succ, i64_w, i32_w]
                    rfl
                  refine one_ (i := 9) (N := some 76) #[true, true, true, true, true, true, true, true, true, true, false, false] rfl rfl (by kernel_rfl) (by decide) (fun K hK => ?_)
                  refine call_ 21 #[.agg #[.int .i64 y.t.f0, .int .i64 y.t.f1, .slice y.A2 y.t.f2.length y.c2, .slice y.A3 y.t.f3.length y.c3], .agg #[.int .i64 x.t.f0, .int .i64 x.t.f1, .slice x.A2 x.t.f2.length x.c2, .slice x.A3 x.t.f3.length x.c3]] (by rfl) rfl ?_ ?_
                  · go_simp
                    try rfl
                  refine (types_Compare.calls Kc _ _ _ _ _ _ _ _ _ _ _ _ _ _ _ _ _ _ (Kd.C_drew RI.out.2.1) RI.out.1 (Kd.C_drew RI.out.2.2.2) RI.out.2.2.1 (Kd.C_drew RJ.out.2.1) RJ.out.1 (Kd.C_drew RJ.out.2.2.2) RJ.out.2.2.1 EC.out).mono ?_
                  rintro e w2 ⟨rfl, hb⟩
                  refine ⟨_, rfl, ?_⟩
                  have mHB := Aside0.mk (below_step (below_drew1 HBa.out) hb)
                  have mBU := Aside0.mk (blk_below (blk_drew BUa.out) hb)
                  have mBX := Aside0.mk (blk_below (blk_drew BX.out) hb)
                  have mRO := Aside0.mk (Kd.R_below (Kd.R_drew ROa.out) hb)
                  refine hK.out _ _ ⟨pw_cell_below hb hHeld.1, pw_cell_below hb hHeld.2.1, pw_cell_below hb hHeld.2.2.1, pw_cell_below hb hHeld.2.2.2.1, pw_cell_below hb hHeld.2.2.2.2.1, pw_cell_below hb hHeld.2.2.2.2.2.1, pw_cell_below hb hHeld.2.2.2.2.2.2.1, pw_cell_below hb hHeld.2.2.2.2.2.2.2.1, pw_cell_below hb hHeld.2.2.2.2.2.2.2.2⟩ (fun hHeld => ?_)
                  clear hK K
                  refine norm_ (a' := ?_) ?_ ?_
                  rotate_left
                  · show Act.put _ (some 76) _ = _
                    simp only [Act.put, List.setIfInBounds_toArray, List.set_cons_zero, List.set_cons_succ, i64_w, i32_w]
                    rfl
                  refine pure_ (i := 10) (N := some 77) (v := ?_) (a' := ?_) #[true, true, true, true, true, true, true, true, true, true, true, false] rfl rfl (by kernel_rfl) (fun _ _ _ h => h) (Or.inl ⟨by rfl, ?_⟩) ?_ ?_
                  rotate_left
                  · intro w'
                    go_simp
                    with_reducible rfl
                  rotate_left
                  · simp only [Act.put, List.setIfInBounds_toArray, List.set_cons_zero, List.set_cons_succ, i64_w, i32_w]
                    rfl
                  refine pure_ (i := 11) (N := some 78) (v := ?_) (a' := ?_) #[true, true, true, true, true, true, true, true, true, true, true, true] rfl rfl (by kernel_rfl) (fun _ _ _ h => h) (Or.inl ⟨by rfl, ?_⟩) ?_ ?_
                  rotate_left
                  · intro w'
                    go_simp
                    with_reducible rfl
                  rotate_left
                  · simp only [Act.put, List.setIfInBounds_toArray, List.set_cons_zero, List.set_cons_succ, i64_w, i32_w]
                    rfl
                  refine done_ (by kernel_rfl) ?_
                  go_wp2
                  go_meet
                  have hm2 : ((m : Int) + 1 == 0) = false := by rw [beq_eq_false_iff_ne]; omega
                  case rel => exact ⟨by rw [show d[m + 1 - 1]! = y from HY.out]; by_cases h : cmpT y.t x.t = 0 <;> simp [h, hm2], mHB, mBU, mBX, mRO⟩
              clear HBa BUa ROa BX
              obtain ⟨rfl, HBl, BUl, BX, RO⟩ := hcut
              obtain ⟨Kp, hKp⟩ := copied_ev x.t HWX.out
              have EP := Aside0.mk (hKp Kp (Nat.le_refl _))
              clear hKp
              have hL := newTs_len d i
              cases hb : (decide (i = 0) || decide (cmpT d[i - 1]!.t x.t ≠ 0)) with
              | false =>
                have HN2 : Aside0 (newTs d (i + 1) = newTs d i) := by
                  simp only [Bool.or_eq_false_iff, decide_eq_false_iff_not, Decidable.not_not] at hb
                  refine ⟨?_⟩
                  rw [HN.out, if_neg hb.1, if_pos hb.2, List.append_nil]
                clear hb
                go_wp2
                go_roundw
                case rel => exact ⟨i + 1, vp, by go_num, hi, HBl, BUl, ⟨by rw [HN2.out]; exact RO.out⟩⟩
                case measure => simp [RowKit.intOf]; omega
              | true =>
                have HN2 : Aside0 (newTs d (i + 1) = newTs d i ++ [x.t]) := by
                  simp only [Bool.or_eq_true, decide_eq_true_eq] at hb
                  refine ⟨?_⟩
                  rw [HN.out]
                  rcases hb with hb | hb
                  · rw [if_pos hb]
                  · by_cases h0 : i = 0
                    · rw [if_pos h0]
                    · rw [if_neg h0, if_neg hb]
                clear hb
                obtain ⟨Av, cv, ev⟩ := Kd.R_slice RO.out
                subst ev
                obtain ⟨t0, t1, t2, t3⟩ := (box4 BX.out).1
                have u3 := (box4 BUl.out).1.2.2.2
                go_upto_region 25 with (fail)
                refine start_ (n := 8) (S := fun w' => w'.cell? ⟨w1.heap.size, 3, none⟩ = some (.slice Av (newTs d i).length cv) ∧ w'.cell? ⟨wr.heap.size, 0, none⟩ = some (.int .i64 x.t.f0) ∧ w'.cell? ⟨wr.heap.size, 1, none⟩ = some (.int .i64 x.t.f1) ∧ w'.cell? ⟨wr.heap.size, 2, none⟩ = some (.slice x.A2 x.t.f2.length x.c2) ∧ w'.cell? ⟨wr.heap.size, 3, none⟩ = some (.slice x.A3 x.t.f3.length x.c3)) (ds := [7]) #[false, false, false, false, false, false, false, false] (by kernel_rfl) rfl rfl ⟨u3, t0, t1, t2, t3⟩ (fun hHeld => ?_)
                refine pure_ (i := 0) (N := some 79) (v := ?_) (a' := ?_) #[true, false, false, false, false, false, false, false] rfl rfl (by kernel_rfl) (fun _ _ _ h => h) (Or.inl ⟨by rfl, ?_⟩) ?_ ?_
                rotate_left
                · intro w'
                  go_simp
                  with_reducible rfl
                rotate_left
                · simp only [Act.put, List.setIfInBounds_toArray, List.set_cons_zero, List.set_cons_succ, i64_w, i32_w]
                  rfl
                refine take_ (i := 1) (N := some 80) (v := ?_) (a' := ?_) #[true, true, false, false, false, false, false, false] rfl rfl (by kernel_rfl) (fun _ _ _ h => h) (Or.inl ⟨by rfl, ?_⟩) hHeld ?_ ?_
                rotate_left
                · rintro w' ⟨s0, s1, s2, s3, s4⟩
                  go_simp
                  with_reducible rfl
                rotate_left
                · simp only [Act.put, List.setIfInBounds_toArray, List.set_cons_zero, List.set_cons_succ, i64_w, i32_w]
                  rfl
                refine take_ (i := 2) (N := some 81) (v := ?_) (a' := ?_) #[true, true, true, false, false, false, false, false] rfl rfl (by kernel_rfl) (fun _ _ _ h => h) (Or.inl ⟨by rfl, ?_⟩) hHeld ?_ ?_
                rotate_left
                · rintro w' ⟨s0, s1, s2, s3, s4⟩
                  go_simp
                  with_reducible rfl
                rotate_left
                · simp only [Act.put, List.setIfInBounds_toArray, List.set_cons_zero, List.set_cons_succ, i64_w, i32_w]
                  rfl
                refine one_ (i := 3) (N := some 82) #[true, true, true, true, false, false, false, false] rfl rfl (by kernel_rfl) (by decide) (fun K hK => ?_)
                refine call_ 45 #[.agg #[.int .i64 x.t.f0, .int .i64 x.t.f1, .slice x.A2 x.t.f2.length x.c2, .slice x.A3 x.t.f3.length x.c3]] (by rfl) rfl ?_ ?_
                · go_simp
                  try rfl
                have RX := Aside0.mk (rows_below ROWX.out HBl.out)
                refine (types_copied.calls Kp _ _ _ _ _ _ _ _ _ _ _ _ _ (Kd.C_drew RX.out.2.1) RX.out.1 (Kd.C_drew RX.out.2.2.2) RX.out.2.2.1 EP.out).mono ?_
                rintro e w2 ⟨v2_, v3_, rfl, g2, g3, hb⟩
                refine ⟨_, rfl, ?_⟩
                have mHB := Aside0.mk (below_step (below_drew1 HBl.out) hb)
                have mBU := Aside0.mk (blk_below (blk_drew BUl.out) hb)
                have mBX := Aside0.mk (blk_below (blk_drew BX.out) hb)
                have mRO := Aside0.mk (Kd.R_below (Kd.R_drew RO.out) hb)
                obtain ⟨Ac2, cc2, ec2⟩ := Kd.R_slice g2
                subst ec2
                obtain ⟨Ac3, cc3, ec3⟩ := Kd.R_slice g3
                subst ec3
                refine hK.out _ _ ⟨(blk_cell mBU.out 3).trans rfl, (blk_cell mBX.out 0).trans rfl, (blk_cell mBX.out 1).trans rfl, (blk_cell mBX.out 2).trans rfl, (blk_cell mBX.out 3).trans rfl⟩ (fun hHeld => ?_)
                clear hK K
                refine norm_ (a' := ?_) ?_ ?_
                rotate_left
                · show Act.put _ (some 82) _ = _
                  simp only [Act.put, List.setIfInBounds_toArray, List.set_cons_zero, List.set_cons_succ, i64_w, i32_w]
                  rfl
                refine one_ (i := 4) (N := some 83) #[true, true, true, true, true, false, false, false] rfl rfl (by kernel_rfl) (by decide) (fun K hK => ?_)
                refine value_ (w1 := ?_) (v := ?_) (by rfl) rfl ?_ ?_
                rotate_left 2
                · go_simp
                  constructor
                  · rfl
                  · rfl
                have p1 := blk_alloc mBU.out (.cells #[.int .i64 x.t.f0, .int .i64 x.t.f1, .slice Ac2 x.t.f2.length cc2, .slice Ac3 x.t.f3.length cc3] 25)
                have p2 := blk_alloc mBX.out (.cells #[.int .i64 x.t.f0, .int .i64 x.t.f1, .slice Ac2 x.t.f2.length cc2, .slice Ac3 x.t.f3.length cc3] 25)
                refine hK.out _ _ ⟨(blk_cell p1 3).trans rfl, (blk_cell p2 0).trans rfl, (blk_cell p2 1).trans rfl, (blk_cell p2 2).trans rfl, (blk_cell p2 3).trans rfl⟩ (fun hHeld => ?_)
                clear hK K
                refine norm_ (a' := ?_) ?_ ?_
                rotate_left
                · show Act.put _ (some 83) _ = _
                  simp only [Act.put, List.setIfInBounds_toArray, List.set_cons_zero, List.set_cons_succ, i64_w, i32_w]
                  rfl
                clear p1 p2 t0 t1 t2 t3 u3
                refine one_ (i := 5) (N := some 84) #[true, true, true, true, true, true, false, false] rfl rfl (by kernel_rfl) (by decide) (fun K hK => ?_)
                have hs2 : wr.heap.size < w2.heap.size := Nat.lt_of_lt_of_le (blk_lt mBX.out) (Nat.le_refl _)
                have hs3 : wr.heap.size < wc.drew.heap.size := blk_lt (blk_drew BX.out)
                have hM : kA.M w2 (w1.heap.size + 1) (fun k => wr.heap.size < k) x.t [.int .i64 x.t.f0, .int .i64 x.t.f1, .slice Ac2 x.t.f2.length cc2, .slice Ac3 x.t.f3.length cc3] := ⟨_, _, rfl, Kd.R_lower (Kd.R_mono (Kd.R_bound g2) (fun k hk => Nat.lt_of_lt_of_le hs3 hk.2.1)) (by omega), Kd.R_lower (Kd.R_mono (Kd.R_bound g3) (fun k hk => ⟨Nat.lt_of_lt_of_le hs3 hk.2.1, hk.1⟩)) (by omega)⟩
                refine Kd.R_append_step kA (w0 := w2) (w1.heap.size + 1) (by rfl) (.tmp 80) (.tmp 83) 23 25 (.agg #[.int .i64 0, .int .i64 0, .slice none 0 0, .slice none 0 0]) 64 rfl Tryd.underlying23 info25 rfl (Nat.zero_lt_succ 3) (by decide) (.slice Av (newTs d i).length cv) (newTs d i) x.t [.int .i64 x.t.f0, .int .i64 x.t.f1, .slice Ac2 x.t.f2.length cc2, .slice Ac3 x.t.f3.length cc3] (fun _ => True) (fun k => wr.heap.size < k) rfl rfl hM (fun k hk => ⟨trivial, fun e => by have := hown2 k e.symm; omega⟩) (fun _ _ => trivial) mRO.out (Below.refl _ _) (by omega) (by omega) ?_
                intro v1 w3 ho _ hg _
                obtain ⟨Aw, cw, ew⟩ := Kd.R_slice ho
                subst ew
                have mHB2 := Aside0.mk (mHB.out.grown hg mHB.out.size (fun k hk => by have := hown2 k hk; omega))
                have mBU2 := Aside0.mk (blk_grown mBU.out hg (fun hk => by have := hown2 _ hk.symm; omega))
                have mBX2 := Aside0.mk (blk_grown mBX.out hg (fun hk => by have := hown2 _ hk.symm; omega))
                have mRO2 := Aside0.mk (row_len ho)
                clear ho hg hM g2 g3 hb mHB mBU mBX mRO HBl BUl BX RO
                refine hK.out _ _ ⟨(blk_cell mBU2.out 3).trans rfl, (blk_cell mBX2.out 0).trans rfl, (blk_cell mBX2.out 1).trans rfl, (blk_cell mBX2.out 2).trans rfl, (blk_cell mBX2.out 3).trans rfl⟩ (fun hHeld => ?_)
                clear hK K
                refine norm_ (a' := ?_) ?_ ?_
                rotate_left
                · show Act.put _ (some 84) _ = _
                  simp only [Act.put, List.setIfInBounds_toArray, List.set_cons_zero, List.set_cons_succ, i64_w, i32_w]
                  rfl
                refine pure_ (i := 6) (N := some 85) (v := ?_) (a' := ?_) #[true, true, true, true, true, true, true, false] rfl rfl (by kernel_rfl) (fun _ _ _ h => h) (Or.inl ⟨by rfl, ?_⟩) ?_ ?_
                rotate_left
                · intro w'
                  go_simp
                  with_reducible rfl
                rotate_left
                · simp only [Act.put, List.setIfInBounds_toArray, List.set_cons_zero, List.set_cons_succ, i64_w, i32_w]
                  rfl
                have u3 : w3.cell? ⟨w1.heap.size, 3, none⟩ = some (.slice Av (newTs d i).length cv) := (blk_cell mBU2.out 3).trans rfl
                have fu := blk_frozen mBU2.out 3
                refine last_ (i := 7) (N := none) #[true, true, true, true, true, true, true, true] rfl rfl (by kernel_rfl) (by decide) (fun K hK => ?_)
                refine skip_ (w1 := ?_) (by rfl) rfl ?_ ?_
                rotate_left
                · go_simp
                  rfl
                refine hK.out _ _ ?_
                clear hK K
                refine done_ (by kernel_rfl) ?_
                go_wp2
                go_roundw
                case rel => exact ⟨i + 1, _, by go_num, hi, ⟨mHB2.out.setCell (p := ⟨w1.heap.size, 3, none⟩) (Nat.le_refl _) _⟩, ⟨blk_put (cs := #[_, _, _, _]) mBU2.out 3 _ rfl⟩, ⟨by rw [HN2.out]; exact row_keep2 mRO2.out⟩⟩
                case measure => simp [RowKit.intOf]; omega
            · obtain rfl : i = P.length := by omega
              have hlt : ((P.length : Int) < (P.length : Int)) = False := by simp
              have hU := newTs_all hds hpos
              rw [DO.out] at hU
              have HU := Aside0.mk hU
              clear hU
              have hRO := RO.out
              rw [HU.out] at hRO
              have hUl : Aside0 (unionT l0 = if (l0.any isGreat || decide (300 < sizeT (joinT (normT P)))) = true then (zeroT, 3) else (joinT (normT P), 0)) := ⟨by
                unfold unionT; rw [if_neg hz, if_neg (by rw [HMl.out]; decide), if_neg (by rw [show (l0.any fun t => t.k == 1) = false from hany]; decide), HP.out]; rfl⟩
              clear RO
              have RO := Aside0.mk hRO
              clear hRO
              have hwU : Aside0 (wTs (normT P) ≤ 1000000000000) := ⟨by have := wTs_norm P; have := wTs_flat l0; rw [HP.out] at this; have := HW.out; omega⟩
              generalize normT P = U at *
              obtain ⟨Av, cv, ev⟩ := Kd.R_slice RO.out
              subst ev
              obtain ⟨⟨u0, u1, u2, u3⟩, fu0, fu1, fu2, fu3⟩ := box4 BUl.out
              clear HH DH DK DM DO HSORT
              have hw0 : Aside0 (w.heap.size < w1.heap.size) := ⟨by have := blk_lt nB2.out; omega⟩
              by_cases h1 : U.length = 1
              · obtain ⟨u, rfl⟩ := List.length_eq_one_iff.1 h1
                obtain ⟨g, cap1, A2, c2, A3, c3, e1, ⟨e0, e1', e2, e3⟩, g2, g3⟩ := row_one RO.out
                injection e1 with ea _ ec
                subst ea
                subst ec
                have hjo : joinT [u] = u := rfl
                have HJ := Aside0.mk hjo
                clear hjo
                have hwJ : Aside0 (wT u ≤ 1000000000000) := ⟨by have := hwU.out; rw [wTs_cons, wTs_nil] at this; omega⟩
                have q1 : ((([u] : List Ty).length : Int) == 1) = true := rfl
                go_upto_region 29 with (fail)
                have PB := Aside0.mk (put4 (a := .int .i64 u.f0) (b' := .int .i64 u.f1) (c := .slice A2 u.f2.length c2) (d := .slice A3 u.f3.length c3) BUl.out)
                have B2f : Aside0 (_ = _) := ⟨far4 (u0 := .int .i64 u.f0) (u1 := .int .i64 u.f1) (u2 := .slice A2 u.f2.length c2) (u3 := .slice A3 u.f3.length c3) (blk_below nB2.out HBl.out) (b := w1.heap.size) (by have := hw0.out; omega)⟩
                have HBF := Aside0.mk (below_put4 (u0 := .int .i64 u.f0) (u1 := .int .i64 u.f1) (u2 := .slice A2 u.f2.length c2) (u3 := .slice A3 u.f3.length c3) (below_step nHB.out HBl.out) (Nat.le_of_lt hw0.out))
                have G2 := Aside0.mk (keep4 (u0 := .int .i64 u.f0) (u1 := .int .i64 u.f1) (u2 := .slice A2 u.f2.length c2) (u3 := .slice A3 u.f3.length c3) (Nat.lt_succ_self w1.heap.size) g2)
                have G3 := Aside0.mk (keep4 (u0 := .int .i64 u.f0) (u1 := .int .i64 u.f1) (u2 := .slice A2 u.f2.length c2) (u3 := .slice A3 u.f3.length c3) (Nat.lt_succ_self w1.heap.size) g3)
                generalize ((((wr.setCell ⟨w1.heap.size, 0, none⟩ (.int .i64 u.f0)).setCell ⟨w1.heap.size, 1, none⟩ (.int .i64 u.f1)).setCell ⟨w1.heap.size, 2, none⟩ (.slice A2 u.f2.length c2)).setCell ⟨w1.heap.size, 3, none⟩ (.slice A3 u.f3.length c3)) = wf at *
                clear e0 e1' e2 e3 g2 g3 u0 u1 u2 u3 fu0 fu1 fu2 fu3 BUl RO HBl q1
                obtain ⟨⟨u0, u1, u2, u3⟩, fu0, fu1, fu2, fu3⟩ := box4 PB.out
                obtain ⟨⟨z0, z1, z2, z3⟩, y0, y1, y2, y3⟩ := box4 B2f.out
                cases hgr : l0.any isGreat with
                | true =>
                  have HUX : Aside0 (unionT l0 = (zeroT, 3)) := ⟨by rw [hUl.out, hgr, Bool.true_or, if_pos rfl]⟩
                  go_wp2
                  refine bodyPost_ret (results_ct rfl _ _ w.heap.size 25 #[.int .i64 0, .int .i64 0, .slice none 0 0, .slice none 0 0] (0, 0) _ rfl (put4 B2f.out) Tryd.underlying25 rfl (by kernel_rfl)) rfl ?_
                  rw [HUX.out]
                  exact ⟨_, _, rfl, Kd.R_nil _ _ _ _ _, Kd.R_nil _ _ _ _ _, below_put4 HBF.out (Nat.le_refl _)⟩
                | false =>
                  obtain ⟨Ks, hKs⟩ := size_ev u (by have := hwJ.out; omega)
                  have ES := Aside0.mk (hKs Ks (Nat.le_refl _))
                  clear hKs
                  obtain ⟨_, lc2, rc2⟩ := Kd.R_reads' G2.out
                  obtain ⟨_, lc3, rc3⟩ := Kd.R_reads' G3.out
                  have RR := Aside0.mk (And.intro lc2 (And.intro rc2 (And.intro lc3 rc3)))
                  clear lc2 rc2 lc3 rc3
                  go_wp2_with (go_at_call 15; refine hold_ ?_)
                  unfold Held
                  refine (types_Size.calls Ks _ _ _ _ u.f2 _ _ u.f3 _ _ RR.out.2.1 RR.out.1 RR.out.2.2.2 RR.out.2.2.1 ES.out).mono ?_
                  rintro e w4 ⟨rfl, hb⟩
                  have nPB := Aside0.mk (blk_below PB.out hb)
                  have nB2f := Aside0.mk (blk_below B2f.out hb)
                  have nHBF := Aside0.mk (below_step HBF.out hb)
                  have nG2 := Aside0.mk (Kd.R_below G2.out hb)
                  have nG3 := Aside0.mk (Kd.R_below G3.out hb)
                  clear PB B2f HBF G2 G3 hb u0 u1 u2 u3 fu0 fu1 fu2 fu3 z0 z1 z2 z3 y0 y1 y2 y3 RR ES
                  have HBF := nHBF
                  clear nHBF
                  obtain ⟨⟨u0, u1, u2, u3⟩, fu0, fu1, fu2, fu3⟩ := box4 nPB.out
                  obtain ⟨⟨z0, z1, z2, z3⟩, y0, y1, y2, y3⟩ := box4 nB2f.out
                  by_cases hs : 300 < sizeT u
                  · have HUX : Aside0 (unionT l0 = (zeroT, 3)) := ⟨by rw [hUl.out, hgr, Bool.false_or, HJ.out, if_pos (decide_eq_true hs)]⟩
                    have hd3 : (300 < (sizeT u : Int)) = True := eq_true (by omega)
                    go_wp2
                    refine bodyPost_ret (results_ct rfl _ _ w.heap.size 25 #[.int .i64 0, .int .i64 0, .slice none 0 0, .slice none 0 0] (0, 0) _ rfl (put4 nB2f.out) Tryd.underlying25 rfl (by kernel_rfl)) rfl ?_
                    rw [HUX.out]
                    exact ⟨_, _, rfl, Kd.R_nil _ _ _ _ _, Kd.R_nil _ _ _ _ _, below_put4 HBF.out (Nat.le_refl _)⟩
                  · have HUX : Aside0 (unionT l0 = (u, 0)) := ⟨by rw [hUl.out, hgr, Bool.false_or, HJ.out, if_neg (by rw [decide_eq_true_eq]; exact hs)]⟩
                    have hd3 : (300 < (sizeT u : Int)) = False := eq_false (by omega)
                    go_wp2
                    refine bodyPost_ret (results_ct rfl _ _ w.heap.size 25 #[.int .i64 u.f0, .int .i64 u.f1, .slice A2 u.f2.length c2, .slice A3 u.f3.length c3] (0, 0) _ rfl (put4 nB2f.out) Tryd.underlying25 rfl (by kernel_rfl)) rfl ?_
                    rw [HUX.out]
                    exact ⟨_, _, rfl, Kd.R_lower (keep4 (Nat.lt_succ_of_lt hw0.out) nG2.out) (by have := hw0.out; omega), Kd.R_lower (keep4 (Nat.lt_succ_of_lt hw0.out) nG3.out) (by have := hw0.out; omega), below_put4 HBF.out (Nat.le_refl _)⟩
              · have hjo : joinT U = ⟨10, 0, [], U⟩ := by unfold joinT; rw [if_neg h1]
                have HJ := Aside0.mk hjo
                clear hjo
                have hwJ : Aside0 (wT ⟨10, 0, [], U⟩ ≤ 1000000000001) := ⟨by have := hwU.out; rw [wT_is]; show 1 + 0 + wTs U ≤ _; omega⟩
                have q1 : ((U.length : Int) == 1) = false := by rw [beq_eq_false_iff_ne]; omega
                have PB := Aside0.mk BUl.out
                have B2f := Aside0.mk (blk_below nB2.out HBl.out)
                have HBF := Aside0.mk (below_step nHB.out HBl.out)
                have G2 : Aside0 (Kd.string.R 9 wr (w1.heap.size + 1) (fun _ => True) (.slice none (⟨10, 0, [], U⟩ : Ty).f2.length 0) (⟨10, 0, [], U⟩ : Ty).f2) := ⟨Kd.R_nil _ _ _ _ _⟩
                have G3 : Aside0 (k25.R 25 wr (w1.heap.size + 1) (fun k => some k ≠ (Value.slice none 0 0).ownBlock) (.slice Av (⟨10, 0, [], U⟩ : Ty).f3.length cv) (⟨10, 0, [], U⟩ : Ty).f3) := ⟨Kd.R_mono (kA_k25 RO.out) (fun k _ => by simp [Value.ownBlock])⟩
                clear BUl RO HBl
                obtain ⟨⟨u0, u1, u2, u3⟩, fu0, fu1, fu2, fu3⟩ := box4 PB.out
                obtain ⟨⟨z0, z1, z2, z3⟩, y0, y1, y2, y3⟩ := box4 B2f.out
                cases hgr : l0.any isGreat with
                | true =>
                  have HUX : Aside0 (unionT l0 = (zeroT, 3)) := ⟨by rw [hUl.out, hgr, Bool.true_or, if_pos rfl]⟩
                  go_wp2
                  refine bodyPost_ret (results_ct rfl _ _ w.heap.size 25 #[.int .i64 0, .int .i64 0, .slice none 0 0, .slice none 0 0] (0, 0) _ rfl (put4 B2f.out) Tryd.underlying25 rfl (by kernel_rfl)) rfl ?_
                  rw [HUX.out]
                  exact ⟨_, _, rfl, Kd.R_nil _ _ _ _ _, Kd.R_nil _ _ _ _ _, below_put4 HBF.out (Nat.le_refl _)⟩
                | false =>
                  obtain ⟨Ks, hKs⟩ := size_ev (⟨10, 0, [], U⟩ : Ty) (by have := hwJ.out; omega)
                  have ES := Aside0.mk (hKs Ks (Nat.le_refl _))
                  clear hKs
                  obtain ⟨_, lc2, rc2⟩ := Kd.R_reads' G2.out
                  obtain ⟨_, lc3, rc3⟩ := Kd.R_reads' G3.out
                  have RR := Aside0.mk (And.intro lc2 (And.intro rc2 (And.intro lc3 rc3)))
                  clear lc2 rc2 lc3 rc3
                  go_wp2_with (go_at_call 15; refine hold_ ?_)
                  unfold Held
                  refine (types_Size.calls Ks _ _ _ _ [] _ _ U _ _ RR.out.2.1 RR.out.1 RR.out.2.2.2 RR.out.2.2.1 ES.out).mono ?_
                  rintro e w4 ⟨rfl, hb⟩
                  have nPB := Aside0.mk (blk_below PB.out hb)
                  have nB2f := Aside0.mk (blk_below B2f.out hb)
                  have nHBF := Aside0.mk (below_step HBF.out hb)
                  have nG2 := Aside0.mk (Kd.R_below G2.out hb)
                  have nG3 := Aside0.mk (Kd.R_below G3.out hb)
                  clear PB B2f HBF G2 G3 hb u0 u1 u2 u3 fu0 fu1 fu2 fu3 z0 z1 z2 z3 y0 y1 y2 y3 RR ES
                  have HBF := nHBF
                  clear nHBF
                  obtain ⟨⟨u0, u1, u2, u3⟩, fu0, fu1, fu2, fu3⟩ := box4 nPB.out
                  obtain ⟨⟨z0, z1, z2, z3⟩, y0, y1, y2, y3⟩ := box4 nB2f.out
                  by_cases hs : 300 < sizeT (⟨10, 0, [], U⟩ : Ty)
                  · have HUX : Aside0 (unionT l0 = (zeroT, 3)) := ⟨by rw [hUl.out, hgr, Bool.false_or, HJ.out, if_pos (decide_eq_true hs)]⟩
                    have hd3 : (300 < (sizeT (⟨10, 0, [], U⟩ : Ty) : Int)) = True := eq_true (by omega)
                    go_wp2
                    refine bodyPost_ret (results_ct rfl _ _ w.heap.size 25 #[.int .i64 0, .int .i64 0, .slice none 0 0, .slice none 0 0] (0, 0) _ rfl (put4 nB2f.out) Tryd.underlying25 rfl (by kernel_rfl)) rfl ?_
                    rw [HUX.out]
                    exact ⟨_, _, rfl, Kd.R_nil _ _ _ _ _, Kd.R_nil _ _ _ _ _, below_put4 HBF.out (Nat.le_refl _)⟩
                  · have HUX : Aside0 (unionT l0 = ((⟨10, 0, [], U⟩ : Ty), 0)) := ⟨by rw [hUl.out, hgr, Bool.false_or, HJ.out, if_neg (by rw [decide_eq_true_eq]; exact hs)]⟩
                    have hd3 : (300 < (sizeT (⟨10, 0, [], U⟩ : Ty) : Int)) = False := eq_false (by omega)
                    go_wp2
                    refine bodyPost_ret (results_ct rfl _ _ w.heap.size 25 #[.int .i64 10, .int .i64 0, .slice none 0 0, .slice Av U.length cv] (0, 0) _ rfl (put4 nB2f.out) Tryd.underlying25 rfl (by kernel_rfl)) rfl ?_
                    rw [HUX.out]
                    exact ⟨_, _, rfl, Kd.R_lower (keep4 (Nat.lt_succ_of_lt hw0.out) nG2.out) (by have := hw0.out; omega), Kd.R_lower (keep4 (Nat.lt_succ_of_lt hw0.out) nG3.out) (by have := hw0.out; omega), below_put4 HBF.out (Nat.le_refl _)⟩
end Go.Proofs.YtjcajpkgamolkaaDoor.Ty
