/- HP, as this claim needs it. -/
import Derived.Test.YtjcajpkgamolkaaDoorHHq
import Derived.Test.YtjcajpkgamolkaaDoorHJq
namespace Go.Proofs.YtjcajpkgamolkaaDoor.Ty
open Go.RowKit Go.Proofs.YtjcajpkgamolkaaDoor.PTyp
set_option linter.unusedVariables false
set_option linter.unusedSimpArgs false
def RecOk (l : List Sl) (i : Nat) (s : List Sl) : Prop := s = normS (l.take i) ∧ mayTs ((l.take i).map (·.2)) = true ∧ twice (l.take i) = false
theorem normS_mem {m : List Sl} {x : Sl} : x ∈ normS m ↔ x ∈ m := by
  unfold normS; rw [foldl_mem]; simp
theorem normS_len (m : List Sl) : (normS m).length = m.length := by
  have h : ∀ (m l : List Sl), (m.foldl insS l).length = m.length + l.length := by
    intro m
    induction m with
    | nil => intro l; simp
    | cons a r ih => intro l; rw [List.foldl_cons, ih, (insS_perm l a).length_eq]; simp; omega
  have := h m []
  simpa [normS] using this
theorem lessB_iff (a b : ByteArray) : (Op.bytesLess a.toList b.toList = true → cmpB a b < 0) ∧ (Op.bytesLess a.toList b.toList = false → ¬ cmpB a b < 0) := by
  rw [Go.Proofs.bytesLess_eq]
  exact ⟨fun h => cmpB_lt.2 (of_decide_eq_true h), fun h h2 => of_decide_eq_false h (cmpB_lt.1 h2)⟩
theorem RecOk.rises {l : List Sl} {i : Nat} {s : List Sl} (h : RecOk l i s) : RisesS s := by
  rw [h.1]
  exact foldl_rises _ List.Pairwise.nil (by rw [List.append_nil]; exact (twice_iff _).1 h.2.2)
theorem recOk_zero (l : List Sl) : RecOk l 0 [] := ⟨rfl, by rw [List.take_zero]; rfl, rfl⟩
theorem rec_may {l : List Sl} {i : Nat} (hi : i < l.length) (h : mayT l[i].2 = false) : recordT l = (zeroT, 1) :=
  record_bad (List.Perm.refl l) (Or.inl ⟨l[i], List.getElem_mem hi, h⟩)
theorem rec_twice {l : List Sl} {i : Nat} (hi : i < l.length) {s : List Sl} (hs : RecOk l i s) {k : Nat} (hk : k < s.length) (e : s[k].1 = l[i].1) : recordT l = (zeroT, 1) := by
  have hm : s[k] ∈ l.take i := normS_mem.1 (by rw [← hs.1]; exact List.getElem_mem hk)
  unfold recordT
  rw [if_pos]
  rw [Bool.or_eq_true]
  right
  rcases ht : twice l with _ | _
  · exfalso
    have hnd := (twice_iff l).1 ht
    have e1 : l = l.take i ++ l[i] :: l.drop (i + 1) := by rw [← List.drop_eq_getElem_cons hi, List.take_append_drop]
    rw [e1, List.map_append, List.nodup_append] at hnd
    exact hnd.2.2 _ (List.mem_map_of_mem hm) _ (by rw [List.map_cons]; exact List.mem_cons_self) e
  · rfl
theorem insS_at : ∀ (s : List Sl) (t : Sl) (k : Nat), k ≤ s.length → (∀ j (h : j < s.length), j < k → cmpB s[j].1 t.1 < 0) → (∀ h : k < s.length, ¬ cmpB s[k].1 t.1 < 0) → insS s t = s.take k ++ [t] ++ s.drop k
  | [], t, k, hk, _, _ => by simp [insS]
  | a :: r, t, 0, _, _, h => by
    have := h (by simp)
    rw [List.getElem_cons_zero] at this
    rw [insS, if_neg this]; simp
  | a :: r, t, k + 1, hk, hb, h => by
    have h0 := hb 0 (by simp) (by omega)
    rw [List.getElem_cons_zero] at h0
    rw [insS, if_pos h0, insS_at r t k (by simpa using hk) (fun j hj hjk => by have := hb (j + 1) (by simpa using hj) (by omega); simpa using this) (fun hj => by have := h (by simpa using hj); simpa using this)]
    simp
theorem rec_next {l : List Sl} {i : Nat} (hi : i < l.length) {s : List Sl} (hs : RecOk l i s) (hm : mayT l[i].2 = true) (hn : ∀ x ∈ s, x.1 ≠ l[i].1) : RecOk l (i + 1) (insS s l[i]) := by
  refine ⟨?_, ?_, ?_⟩
  · rw [List.take_succ_eq_append_getElem hi, hs.1]; unfold normS; rw [List.foldl_append]; rfl
  · rw [mayTs_iff]
    intro t ht
    obtain ⟨x, hx, rfl⟩ := List.mem_map.1 ht
    rw [List.take_succ_eq_append_getElem hi] at hx
    rcases List.mem_append.1 hx with h | h
    · exact (mayTs_iff _).1 hs.2.1 _ (List.mem_map_of_mem h)
    · rw [List.mem_singleton.1 h]; exact hm
  · rw [twice_iff, List.take_succ_eq_append_getElem hi, List.map_append, List.nodup_append]
    refine ⟨(twice_iff _).1 hs.2.2, by simp, ?_⟩
    intro a ha b hb
    obtain ⟨x, hx, rfl⟩ := List.mem_map.1 ha
    simp at hb
    subst hb
    exact hn x (by rw [hs.1]; exact normS_mem.2 hx)
theorem rec_new {s : List Sl} (hr : RisesS s) {t : Sl} {k : Nat} (hb : ∀ j (h : j < s.length), j < k → cmpB s[j].1 t.1 < 0) (h1 : ∀ h : k < s.length, ¬ cmpB s[k].1 t.1 < 0) (h2 : ∀ h : k < s.length, s[k].1 ≠ t.1) : ∀ x ∈ s, x.1 ≠ t.1 := by
  intro x hx e
  obtain ⟨j, hj, rfl⟩ := List.mem_iff_getElem.1 hx
  rcases Nat.lt_trichotomy j k with h | h | h
  · have := hb j hj h; rw [e, cmpB_self] at this; omega
  · subst h; exact h2 hj e
  · have h3 := List.pairwise_iff_getElem.1 hr k j (by omega) hj h
    rw [e] at h3
    exact h1 (by omega) h3
theorem rec_size {l : List Sl} {i : Nat} (hi : i < l.length) : sizeTs ((l.take (i + 1)).map (·.2)) = sizeTs ((l.take i).map (·.2)) + sizeT l[i].2 := by
  rw [List.take_succ_eq_append_getElem hi, List.map_append]
  have h : ∀ (a b : List Ty), sizeTs (a ++ b) = sizeTs a + sizeTs b := by
    intro a b
    induction a with
    | nil => simp [sizeTs_nil]
    | cons x r ih => rw [List.cons_append, sizeTs_cons, sizeTs_cons, ih]; omega
  rw [h, List.map_cons, List.map_nil, sizeTs_cons, sizeTs_nil, Nat.add_zero]
def SumOk (S z : Nat) : Prop := (z ≤ 300 ∧ z = 1 + S) ∨ (300 < z ∧ 300 < 1 + S)
theorem SumOk.large {S z : Nat} (h : SumOk S z) : decide (300 < z) = decide (300 < 1 + S) := by
  rcases h with ⟨h1, h2⟩ | ⟨h1, h2⟩
  · subst h2; rfl
  · rw [decide_eq_true h1, decide_eq_true h2]
theorem sumOk_add {S z x : Nat} (h : SumOk S z) (hz : z ≤ 300) : SumOk (S + x) (z + x) := by
  rcases h with ⟨h1, h2⟩ | ⟨h1, h2⟩
  · subst h2
    by_cases hx : 1 + S + x ≤ 300
    · exact .inl ⟨hx, by omega⟩
    · exact .inr ⟨by omega, by omega⟩
  · omega
theorem sumOk_stay {S z x : Nat} (h : SumOk S z) (hz : 300 < z) : SumOk (S + x) z := by
  rcases h with ⟨h1, h2⟩ | ⟨h1, h2⟩
  · omega
  · exact .inr ⟨h1, by omega⟩
theorem rec_end {l s : List Sl} (h : RecOk l l.length s) {z : Nat} (hz : SumOk (sizeTs (l.map (·.2))) z) : recordT l = if 300 < z then (zeroT, 3) else (.mk 8 0 (s.map (·.1)) (s.map (·.2)), 0) := by
  have h1 := h.1
  have h2 := h.2.1
  have h3 := h.2.2
  rw [List.take_length] at h1 h2 h3
  unfold recordT
  rw [if_neg (by rw [h2, h3]; decide), ← h1]
  have := hz.large
  by_cases hx : 300 < z
  · rw [if_pos hx, if_pos (of_decide_eq_true (by rw [← this]; exact decide_eq_true hx))]
  · rw [if_neg hx, if_neg (fun hc => hx (of_decide_eq_true (by rw [this]; exact decide_eq_true hc)))]
end Go.Proofs.YtjcajpkgamolkaaDoor.Ty
namespace Go.Proofs.YtjcajpkgamolkaaDoor.Ty
open Go.RowKit Go.Proofs.YtjcajpkgamolkaaDoor.PTyp Go.Proofs.YtjcajpkgamolkaaDoorW.PrintWords Go.Proofs.YtjcajpkgamolkaaDoorW.PrintLast Go.Proofs.YtjcajpkgamolkaaDoorW.PrintMore
set_option linter.unusedVariables false
set_option linter.unusedSimpArgs false
theorem at_slot {w W : World} {A : Option Addr} {l : List S45} (h : k45.C w A l.length l) (hB : Below w.heap.size w W) {i : Nat} (hi : i < l.length) : ∃ ad A2 c2 A3 c3, A = some ad ∧ W.cell? (ad.add (i * 5)) = some (.string l[i].f0) ∧ W.cell? ⟨(ad.add (i * 5)).block, (ad.add (i * 5)).off + 1, none⟩ = some (.int .i64 l[i].f1.f0) ∧ W.cell? ⟨(ad.add (i * 5)).block, (ad.add (i * 5)).off + 1 + 1, none⟩ = some (.int .i64 l[i].f1.f1) ∧ W.cell? ⟨(ad.add (i * 5)).block, (ad.add (i * 5)).off + 1 + 2, none⟩ = some (.slice A2 l[i].f1.f2.length c2) ∧ W.cell? ⟨(ad.add (i * 5)).block, (ad.add (i * 5)).off + 1 + 3, none⟩ = some (.slice A3 l[i].f1.f3.length c3) ∧ RowsT w l[i].f1 A2 c2 A3 c3 := by
  obtain ⟨ad, e, hx⟩ := h.2.2 (by omega)
  obtain ⟨c, h3, h4, h5⟩ := hx i l[i] (List.getElem?_eq_getElem hi)
  have hc : ∀ j u, c[j]? = some u → w.cell? (ad.add (i * 5 + j)) = some u := h5
  obtain ⟨A2, c2, A3, c3, rfl, l2, g2, l3, g3⟩ := k45_open h4
  exact ⟨ad, A2, c2, A3, c3, e, pw_cell_below hB (hc 0 _ rfl), pw_cell_below hB (by rw [← add_field _ _ 1 (by omega)]; exact hc 1 _ rfl), pw_cell_below hB (by rw [Nat.add_assoc, ← add_field _ _ 2 (by omega)]; exact hc 2 _ rfl), pw_cell_below hB (by rw [Nat.add_assoc, ← add_field _ _ 3 (by omega)]; exact hc 3 _ rfl), pw_cell_below hB (by rw [Nat.add_assoc, ← add_field _ _ 4 (by omega)]; exact hc 4 _ rfl), l2, g2, l3, g3⟩
theorem reads_of {α : Type} {d : Kd α} {e : Nat} {W : World} {B : Nat} {ok : Nat → Prop} {A : Option Addr} {c : Nat} {xs : List α} (h : d.R e W B ok (.slice A xs.length c) xs) : xs.length ≤ c ∧ d.C W A xs.length xs := by
  obtain ⟨A', c', e1, h1, h2⟩ := Kd.R_reads h
  injection e1 with e2 _ e3
  subst e2
  subst e3
  exact ⟨h1, h2⟩
theorem keepR {α : Type} {d : Kd α} {e : Nat} {W : World} {b B o : Nat} {ok : Nat → Prop} {v : Value} {xs : List α} {u : Value} (hb : b < B) (h : d.R e W B ok v xs) : d.R e (W.setCell ⟨b, o, none⟩ u) B ok v xs :=
  Kd.R_mono (Kd.R_move (Kd.R_bound h) (fun k hk => by
    have hne : k ≠ b := by have := hk.2.1; omega
    rw [Below.heap_setCell _ ⟨b, o, none⟩ u k hne])) (fun _ hk => hk.1)
theorem string_one {W : World} {g : Nat} {n : ByteArray} (hb : W.heap[g]? = some (.cells #[.string n] 9 (0, 0))) : Kd.string.C W (some ⟨g, 0, none⟩) [n].length [n] := by
  refine ⟨rfl, by simp, fun _ => ⟨_, rfl, fun j p hj => ?_⟩⟩
  match j, hj with
  | 0, hj =>
    obtain rfl : n = p := by simpa using hj
    refine ⟨_, rfl, rfl, fun i v hv => ?_⟩
    rw [add_plain, show 0 * Kd.string.sz + i = i by rw [Nat.zero_mul, Nat.zero_add], blk_cell hb i]
    match i, hv with
    | 0, hv => exact hv
    | i + 1, hv => simp at hv
  | j + 1, hj => simp at hj
set_option maxHeartbeats 4000000 in
set_option maxRecDepth 100000 in
theorem refrecord_calls (A0 : Option Addr) (c0 : Nat) (l0 : List S45) (w : World) (hr0 : Kd.C k45 w A0 l0.length l0) (hc0 : l0.length ≤ c0) (hw : wTs (l0.map (·.f1)) ≤ 500000000000) :
    Calls Tryd.prog 29 #[.slice A0 l0.length c0] w fun e w' => ∃ A2 c2 A3 c3, e = .returned (.tuple #[.agg #[.int .i64 (recordT (l0.map slOf)).1.f0, .int .i64 (recordT (l0.map slOf)).1.f1, .slice A2 (recordT (l0.map slOf)).1.f2.length c2, .slice A3 (recordT (l0.map slOf)).1.f3.length c3], .int .i64 (recordT (l0.map slOf)).2]) ∧ RowsT w' (recordT (l0.map slOf)).1 A2 c2 A3 c3 ∧ Below w.heap.size w w' := by
  have hu25 := Tryd.underlying25
  have hu45 := Tryd.underlying45
  have hn := wTs_len (l0.map (·.f1))
  rw [List.length_map] at hn
  have HR := Aside0.mk hr0
  have HW := Aside0.mk hw
  have hn1 : l0.length ≤ 500000000000 := by omega
  clear hr0 hw hc0 hn
  have B0 := Aside0.mk (heap_alloc_new w (.cells #[.int .i64 0, .int .i64 0, .slice none 0 0, .slice none 0 0] 25))
  go_enter Tryd.func29, Tryd.ntmps29
  go_upto_region 2 with (fail)
  have hb0 := below_alloc (below_alloc (Below.refl w.heap.size w) (.cells #[.int .i64 0, .int .i64 0, .slice none 0 0, .slice none 0 0] 25)) (.cells #[.int .i64 8, .int .i64 0, .slice none 0 0, .slice none 0 0] 25)
  have hb1 := heap_alloc_new (w.alloc (.cells #[.int .i64 0, .int .i64 0, .slice none 0 0, .slice none 0 0] 25)) (.cells #[.int .i64 8, .int .i64 0, .slice none 0 0, .slice none 0 0] 25)
  have hs1 : (w.alloc (.cells #[.int .i64 0, .int .i64 0, .slice none 0 0, .slice none 0 0] 25)).heap.size = w.heap.size + 1 := Array.size_push _
  rw [hs1] at hb1
  have HB := Aside0.mk hb0
  have B4 := Aside0.mk hb1
  have B2 := Aside0.mk (blk_alloc B0.out (.cells #[.int .i64 8, .int .i64 0, .slice none 0 0, .slice none 0 0] 25))
  clear hb0 hb1 hs1 B0
  generalize ((w.alloc (.cells #[.int .i64 0, .int .i64 0, .slice none 0 0, .slice none 0 0] 25)).alloc (.cells #[.int .i64 8, .int .i64 0, .slice none 0 0, .slice none 0 0] 25)) = w0 at *
  go_wp2
  go_loopw [5, 6, 7] (fun v5 v6 v7 W => ∃ (i z : Nat) (s : List Sl) (Ns : List ByteArray) (Ts : List Ty) (V2 : Option Addr) (d2 : Nat) (V3 : Option Addr) (d3 : Nat), v7 = .int .i64 i ∧ i ≤ l0.length ∧ v6 = .int .i64 z ∧ v5 = .bool (decide (300 < z)) ∧ Aside0 (RecOk (l0.map slOf) i s ∧ SumOk (sizeTs (((l0.map slOf).take i).map (·.2))) z ∧ Ns = s.map (·.1) ∧ Ts = s.map (·.2)) ∧ z ≤ 600000000000 ∧ Aside0 (Below w.heap.size w W) ∧ Aside0 (W.heap[w.heap.size]? = some (.cells #[.int .i64 0, .int .i64 0, .slice none 0 0, .slice none 0 0] 25 (0, 0))) ∧ Aside0 (W.heap[w.heap.size + 1]? = some (.cells #[.int .i64 8, .int .i64 0, .slice V2 Ns.length d2, .slice V3 Ts.length d3] 25 (0, 0))) ∧ Aside0 (Kd.string.R 9 W (w.heap.size + 2) (fun _ => True) (.slice V2 Ns.length d2) Ns) ∧ Aside0 ((kW w).R 25 W (w.heap.size + 2) (fun _ => True) (.slice V3 Ts.length d3) Ts)) (fun _ _ v7 _ => l0.length + 1 - (RowKit.intOf v7).toNat)
  case atStart => exact ⟨0, 1, [], [], [], none, 0, none, 0, rfl, Nat.zero_le _, rfl, rfl, ⟨recOk_zero _, by rw [List.take_zero]; exact .inl ⟨by decide, rfl⟩, rfl, rfl⟩, by decide, HB, B2, B4, ⟨Kd.R_nil _ _ _ _ _⟩, ⟨Kd.R_nil _ _ _ _ _⟩⟩
  case round =>
    clear HB B2 B4
    obtain ⟨i, z, s, Ns, Ts, V2, d2, V3, d3, rfl, hin, rfl, rfl, HI, hz6, HB, B2, B4, R2, R3⟩ := hrel
    have hge : ((0 : Int) ≤ (i : Int)) = True := by simp
    obtain ⟨⟨t0, t1, t2, t3⟩, _⟩ := box4T B4.out
    by_cases hi : i < l0.length
    · obtain ⟨ad, A2, c2, A3, c3, e, q0, q1, q2, q3, q4, rows⟩ := at_slot HR.out HB.out hi
      have HAD : Aside0 ((ad.add (i * 5)).block < w.heap.size) := ⟨by
        obtain ⟨ad', _, _, _, _, e', q', _⟩ := at_slot HR.out (Below.refl _ _) hi
        rw [e] at e'; injection e' with e'; subst e'
        exact World.block_lt_of_cell? _ _ q'⟩
      have ROWS := Aside0.mk rows
      have HWi : Aside0 (wT l0[i].f1 ≤ 500000000000) := ⟨by have := wTs_mem (l := l0.map (·.f1)) (List.mem_map_of_mem (List.getElem_mem hi)); have := HW.out; omega⟩
      have hlt : ((i : Int) < (l0.length : Int)) = True := eq_true (by omega)
      have HTI : Aside0 ((l0.map slOf)[i]'(by simpa using hi) = (l0[i].f0, l0[i].f1)) := ⟨by simp [slOf]⟩
      clear rows
      obtain ⟨n, t, ht⟩ : ∃ n t, l0[i] = ⟨n, t⟩ := ⟨_, _, rfl⟩
      rw [ht] at q0 q1 q2 q3 q4 ROWS HWi HTI
      clear ht
      subst e
      dsimp only at q0 q1 q2 q3 q4 ROWS HWi HTI
      go_wp2_with (go_at_call 37; refine holdT_ ?_)
      unfold HeldT
      refine (rmay_calls t (by have := HWi.out; omega) A2 c2 A3 c3 _ (ROWS.out.below HB.out)).mono ?_
      rintro e w1 ⟨rfl, hb⟩
      replace q0 := pw_cell_below hb q0
      replace q1 := pw_cell_below hb q1
      replace q2 := pw_cell_below hb q2
      replace q3 := pw_cell_below hb q3
      replace q4 := pw_cell_below hb q4
      replace t0 := pw_cell_below hb t0
      replace t1 := pw_cell_below hb t1
      replace t2 := pw_cell_below hb t2
      replace t3 := pw_cell_below hb t3
      have nHB := Aside0.mk (below_step HB.out hb)
      have nB2 := Aside0.mk (blk_below B2.out hb)
      have nB4 := Aside0.mk (blk_below B4.out hb)
      have nR2 := Aside0.mk (Kd.R_below R2.out hb)
      have nR3 := Aside0.mk (Kd.R_below R3.out hb)
      clear hb HB B2 B4 R2 R3
      have HB := nHB
      have B2 := nB2
      have B4 := nB4
      have R2 := nR2
      have R3 := nR3
      clear nHB nB2 nB4 nR2 nR3
      cases hm : mayT t with
      | false =>
        have HU : Aside0 (recordT (l0.map slOf) = (zeroT, 1)) := ⟨rec_may (by simpa using hi) (by rw [HTI.out]; exact hm)⟩
        clear t0 t1 t2 t3
        obtain ⟨⟨z0, z1, z2, z3⟩, y0, y1, y2, y3⟩ := box4 B2.out
        go_wp2
        refine bodyPost_ret (results_ct rfl _ _ w.heap.size 25 #[.int .i64 0, .int .i64 0, .slice none 0 0, .slice none 0 0] (0, 0) _ rfl (put4 B2.out) Tryd.underlying25 rfl (by kernel_rfl)) rfl ?_
        rw [HU.out]
        exact ⟨none, 0, none, 0, rfl, rows_zero _, below_put4 HB.out (Nat.le_refl _)⟩
      | true =>
        have HMT := Aside0.mk hm
        clear hm
        have HNS : Aside0 (Ns = s.map (·.1)) := ⟨HI.out.2.2.1⟩
        have HTS : Aside0 (Ts = s.map (·.2)) := ⟨HI.out.2.2.2⟩
        have hnl : Ns.length ≤ 500000000000 := by
          have h1 := HNS.out
          have h2 : s.length = i := by rw [HI.out.1.1, normS_len, List.length_take, List.length_map]; omega
          rw [h1, List.length_map]; omega
        have HNT : Aside0 (Ts.length = Ns.length) := ⟨by rw [HNS.out, HTS.out, List.length_map, List.length_map]⟩
        go_upto_block 2 with fail
        go_cut [8] from 26 to 45 (fun v8 W => ∃ (k : Nat), v8 = .int .i64 k ∧ k ≤ Ns.length ∧ Aside0 (∀ j (h : j < Ns.length), j < k → cmpB Ns[j] n < 0) ∧ Aside0 (∀ h : k < Ns.length, ¬ cmpB Ns[k] n < 0) ∧ Aside0 (Below w1.heap.size w1 W))
        case first =>
          go_wp2_with fail
          go_loopw [8] (fun v8 W => ∃ (k : Nat), v8 = .int .i64 k ∧ k ≤ Ns.length ∧ Aside0 (∀ j (h : j < Ns.length), j < k → cmpB Ns[j] n < 0) ∧ Aside0 (Below w1.heap.size w1 W)) (fun v8 _ => Ns.length + 1 - (RowKit.intOf v8).toNat)
          case atStart => exact ⟨0, rfl, Nat.zero_le _, ⟨fun _ _ h => absurd h (by omega)⟩, ⟨Below.refl _ _⟩⟩
          case round =>
            obtain ⟨k, rfl, hkn, HK, HB1⟩ := hrel
            have hgk : ((0 : Int) ≤ (k : Int)) = True := by simp
            have hkb : k ≤ 500000000000 := by omega
            have hb1 := HB1.out
            have hb1K := HB1
            clear HB1
            replace q0 := pw_cell_below hb1 q0
            replace q1 := pw_cell_below hb1 q1
            replace q2 := pw_cell_below hb1 q2
            replace q3 := pw_cell_below hb1 q3
            replace q4 := pw_cell_below hb1 q4
            replace t0 := pw_cell_below hb1 t0
            replace t1 := pw_cell_below hb1 t1
            replace t2 := pw_cell_below hb1 t2
            replace t3 := pw_cell_below hb1 t3
            have nHB := Aside0.mk (below_step HB.out hb1)
            have nB2 := Aside0.mk (blk_below B2.out hb1)
            have nB4 := Aside0.mk (blk_below B4.out hb1)
            have nR2 := Aside0.mk (Kd.R_below R2.out hb1)
            have nR3 := Aside0.mk (Kd.R_below R3.out hb1)
            clear hb1 HB B2 B4 R2 R3
            have HB := nHB
            have B2 := nB2
            have B4 := nB4
            have R2 := nR2
            have R3 := nR3
            clear nHB nB2 nB4 nR2 nR3
            by_cases hk : k < Ns.length
            · have hlk : ((k : Int) < (Ns.length : Int)) = True := eq_true (by omega)
              have hlk1 : (k < Ns.length) = True := eq_true hk
              obtain ⟨ap, c, e, hcc, hgg⟩ := Kd.R_reads R2.out
              injection e with e1 e2 e3
              subst e1
              subst e3
              obtain ⟨an, e, hx⟩ := at_s hgg hk
              subst e
              clear hgg hcc e2
              have HLT : Aside0 ((Op.bytesLess Ns[k].toList n.toList = true → cmpB Ns[k] n < 0) ∧ (Op.bytesLess Ns[k].toList n.toList = false → ¬ cmpB Ns[k] n < 0)) := ⟨lessB_iff _ _⟩
              generalize hxk : Ns[k] = x at *
              have HXX := Aside0.mk hxk
              clear hxk
              go_upto_region 10 with (fail)
              refine start_ (n := 18) (S := fun w' => w'.cell? ⟨w.heap.size + 1, 0, none⟩ = some (.int .i64 8) ∧ w'.cell? ⟨w.heap.size + 1, 1, none⟩ = some (.int .i64 0) ∧ w'.cell? ⟨w.heap.size + 1, 2, none⟩ = some (.slice (some an) Ns.length d2) ∧ w'.cell? ⟨w.heap.size + 1, 3, none⟩ = some (.slice V3 Ts.length d3) ∧ w'.cell? (ad.add (i * 5)) = some (.string n) ∧ w'.cell? (an.add k) = some (.string x)) (ds := []) #[false, false, false, false, false, false, false, false, false, false, false, false, false, false, false, false, false, false] (by kernel_rfl) rfl rfl ⟨t0, t1, t2, t3, q0, hx⟩ (fun hHeld => ?_)
              refine pure_ (i := 0) (N := some 26) (v := ?_) (a' := ?_) #[true, false, false, false, false, false, false, false, false, false, false, false, false, false, false, false, false, false] rfl rfl (by kernel_rfl) (fun _ _ _ h => h) (Or.inl ⟨by rfl, ?_⟩) ?_ ?_
              rotate_left
              · intro w'
                go_simp
                with_reducible rfl
              rotate_left
              · simp only [Act.put, List.setIfInBounds_toArray, List.set_cons_zero, List.set_cons_succ, i64_w, i32_w]
                rfl
              refine pure_ (i := 1) (N := some 27) (v := ?_) (a' := ?_) #[true, true, false, false, false, false, false, false, false, false, false, false, false, false, false, false, false, false] rfl rfl (by kernel_rfl) (fun _ _ _ h => h) (Or.inl ⟨by rfl, ?_⟩) ?_ ?_
              rotate_left
              · intro w'
                go_simp
                with_reducible rfl
              rotate_left
              · simp only [Act.put, List.setIfInBounds_toArray, List.set_cons_zero, List.set_cons_succ, i64_w, i32_w]
                rfl
              refine take_ (i := 2) (N := some 28) (v := ?_) (a' := ?_) #[true, true, true, false, false, false, false, false, false, false, false, false, false, false, false, false, false, false] rfl rfl (by kernel_rfl) (fun _ _ _ h => h) (Or.inl ⟨by rfl, ?_⟩) hHeld ?_ ?_
              rotate_left
              · rintro w' ⟨s0, s1, s2, s3, s4, s5⟩
                go_simp
                with_reducible rfl
              rotate_left
              · simp only [Act.put, List.setIfInBounds_toArray, List.set_cons_zero, List.set_cons_succ, i64_w, i32_w]
                rfl
              refine pure_ (i := 3) (N := some 29) (v := ?_) (a' := ?_) #[true, true, true, true, false, false, false, false, false, false, false, false, false, false, false, false, false, false] rfl rfl (by kernel_rfl) (fun _ _ _ h => h) (Or.inl ⟨by rfl, ?_⟩) ?_ ?_
              rotate_left
              · intro w'
                go_simp
                with_reducible rfl
              rotate_left
              · simp only [Act.put, List.setIfInBounds_toArray, List.set_cons_zero, List.set_cons_succ, i64_w, i32_w]
                rfl
              refine pure_ (i := 4) (N := some 30) (v := ?_) (a' := ?_) #[true, true, true, true, true, false, false, false, false, false, false, false, false, false, false, false, false, false] rfl rfl (by kernel_rfl) (fun _ _ _ h => h) (Or.inl ⟨by rfl, ?_⟩) ?_ ?_
              rotate_left
              · intro w'
                go_simp
                with_reducible rfl
              rotate_left
              · simp only [Act.put, List.setIfInBounds_toArray, List.set_cons_zero, List.set_cons_succ, i64_w, i32_w]
                rfl
              refine pure_ (i := 5) (N := some 31) (v := ?_) (a' := ?_) #[true, true, true, true, true, true, false, false, false, false, false, false, false, false, false, false, false, false] rfl rfl (by kernel_rfl) (fun _ _ _ h => h) (Or.inl ⟨by rfl, ?_⟩) ?_ ?_
              rotate_left
              · intro w'
                go_simp
                with_reducible rfl
              rotate_left
              · simp only [Act.put, List.setIfInBounds_toArray, List.set_cons_zero, List.set_cons_succ, i64_w, i32_w]
                rfl
              refine pure_ (i := 6) (N := some 32) (v := ?_) (a' := ?_) #[true, true, true, true, true, true, true, false, false, false, false, false, false, false, false, false, false, false] rfl rfl (by kernel_rfl) (fun _ _ _ h => h) (Or.inl ⟨by rfl, ?_⟩) ?_ ?_
              rotate_left
              · intro w'
                go_simp
                with_reducible rfl
              rotate_left
              · simp only [Act.put, List.setIfInBounds_toArray, List.set_cons_zero, List.set_cons_succ, i64_w, i32_w]
                rfl
              refine pure_ (i := 8) (N := some 34) (v := ?_) (a' := ?_) #[true, true, true, true, true, true, true, false, true, false, false, false, false, false, false, false, false, false] rfl rfl (by kernel_rfl) (fun _ _ _ h => h) (Or.inl ⟨by rfl, ?_⟩) ?_ ?_
              rotate_left
              · intro w'
                go_simp
                with_reducible rfl
              rotate_left
              · simp only [Act.put, List.setIfInBounds_toArray, List.set_cons_zero, List.set_cons_succ, i64_w, i32_w]
                rfl
              refine pure_ (i := 11) (N := some 37) (v := ?_) (a' := ?_) #[true, true, true, true, true, true, true, false, true, false, false, true, false, false, false, false, false, false] rfl rfl (by kernel_rfl) (fun _ _ _ h => h) (Or.inl ⟨by rfl, ?_⟩) ?_ ?_
              rotate_left
              · intro w'
                go_simp
                with_reducible rfl
              rotate_left
              · simp only [Act.put, List.setIfInBounds_toArray, List.set_cons_zero, List.set_cons_succ, i64_w, i32_w]
                rfl
              refine pure_ (i := 12) (N := some 38) (v := ?_) (a' := ?_) #[true, true, true, true, true, true, true, false, true, false, false, true, true, false, false, false, false, false] rfl rfl (by kernel_rfl) (fun _ _ _ h => h) (Or.inl ⟨by rfl, ?_⟩) ?_ ?_
              rotate_left
              · intro w'
                go_simp
                with_reducible rfl
              rotate_left
              · simp only [Act.put, List.setIfInBounds_toArray, List.set_cons_zero, List.set_cons_succ, i64_w, i32_w]
                rfl
              refine pure_ (i := 13) (N := some 39) (v := ?_) (a' := ?_) #[true, true, true, true, true, true, true, false, true, false, false, true, true, true, false, false, false, false] rfl rfl (by kernel_rfl) (fun _ _ _ h => h) (Or.inl ⟨by rfl, ?_⟩) ?_ ?_
              rotate_left
              · intro w'
                go_simp
                with_reducible rfl
              rotate_left
              · simp only [Act.put, List.setIfInBounds_toArray, List.set_cons_zero, List.set_cons_succ, i64_w, i32_w]
                rfl
              refine pure_ (i := 14) (N := some 40) (v := ?_) (a' := ?_) #[true, true, true, true, true, true, true, false, true, false, false, true, true, true, true, false, false, false] rfl rfl (by kernel_rfl) (fun _ _ _ h => h) (Or.inl ⟨by rfl, ?_⟩) ?_ ?_
              rotate_left
              · intro w'
                go_simp
                with_reducible rfl
              rotate_left
              · simp only [Act.put, List.setIfInBounds_toArray, List.set_cons_zero, List.set_cons_succ, i64_w, i32_w]
                rfl
              refine take_ (i := 7) (N := some 33) (v := ?_) (a' := ?_) #[true, true, true, true, true, true, true, true, true, false, false, true, true, true, true, false, false, false] rfl rfl (by kernel_rfl) (fun _ _ _ h => h) (Or.inl ⟨by rfl, ?_⟩) hHeld ?_ ?_
              rotate_left
              · rintro w' ⟨s0, s1, s2, s3, s4, s5⟩
                go_simp
                with_reducible rfl
              rotate_left
              · simp only [Act.put, List.setIfInBounds_toArray, List.set_cons_zero, List.set_cons_succ, i64_w, i32_w]
                rfl
              refine pure_ (i := 9) (N := some 35) (v := ?_) (a' := ?_) #[true, true, true, true, true, true, true, true, true, true, false, true, true, true, true, false, false, false] rfl rfl (by kernel_rfl) (fun _ _ _ h => h) (Or.inl ⟨by rfl, ?_⟩) ?_ ?_
              rotate_left
              · intro w'
                go_simp
                with_reducible rfl
              rotate_left
              · simp only [Act.put, List.setIfInBounds_toArray, List.set_cons_zero, List.set_cons_succ, i64_w, i32_w]
                rfl
              refine take_ (i := 10) (N := some 36) (v := ?_) (a' := ?_) #[true, true, true, true, true, true, true, true, true, true, true, true, true, true, true, false, false, false] rfl rfl (by kernel_rfl) (fun _ _ _ h => h) (Or.inl ⟨by rfl, ?_⟩) hHeld ?_ ?_
              rotate_left
              · rintro w' ⟨s0, s1, s2, s3, s4, s5⟩
                go_simp
                with_reducible rfl
              rotate_left
              · simp only [Act.put, List.setIfInBounds_toArray, List.set_cons_zero, List.set_cons_succ, i64_w, i32_w]
                rfl
              refine take_ (i := 15) (N := some 41) (v := ?_) (a' := ?_) #[true, true, true, true, true, true, true, true, true, true, true, true, true, true, true, true, false, false] rfl rfl (by kernel_rfl) (fun _ _ _ h => h) (Or.inl ⟨by rfl, ?_⟩) hHeld ?_ ?_
              rotate_left
              · rintro w' ⟨s0, s1, s2, s3, s4, s5⟩
                go_simp
                with_reducible rfl
              rotate_left
              · simp only [Act.put, List.setIfInBounds_toArray, List.set_cons_zero, List.set_cons_succ, i64_w, i32_w]
                rfl
              refine pure_ (i := 16) (N := some 42) (v := ?_) (a' := ?_) #[true, true, true, true, true, true, true, true, true, true, true, true, true, true, true, true, true, false] rfl rfl (by kernel_rfl) (fun _ _ _ h => h) (Or.inl ⟨by rfl, ?_⟩) ?_ ?_
              rotate_left
              · intro w'
                go_simp
                with_reducible rfl
              rotate_left
              · simp only [Act.put, List.setIfInBounds_toArray, List.set_cons_zero, List.set_cons_succ, i64_w, i32_w]
                rfl
              refine pure_ (i := 17) (N := some 43) (v := ?_) (a' := ?_) #[true, true, true, true, true, true, true, true, true, true, true, true, true, true, true, true, true, true] rfl rfl (by kernel_rfl) (fun _ _ _ h => h) (Or.inl ⟨by rfl, ?_⟩) ?_ ?_
              rotate_left
              · intro w'
                go_simp
                with_reducible rfl
              rotate_left
              · simp only [Act.put, List.setIfInBounds_toArray, List.set_cons_zero, List.set_cons_succ, i64_w, i32_w]
                rfl
              refine done_ (by kernel_rfl) ?_
              cases hb : Op.bytesLess x.toList n.toList with
              | true =>
                have HC := Aside0.mk (HLT.out.1 hb)
                go_wp2
                go_roundw
                case measure => simp [RowKit.intOf]; omega
                case rel => exact ⟨k + 1, by go_num, hk, ⟨fun j hj hjk => by
                  rcases Nat.lt_or_ge j k with h | h
                  · exact HK.out j hj h
                  · obtain rfl : j = k := by omega
                    rw [HXX.out]; exact HC.out⟩, ⟨below_drew1 hb1K.out⟩⟩
              | false =>
                have HC := Aside0.mk (HLT.out.2 hb)
                go_wp2
                go_meet
                case rel => exact ⟨k, rfl, hkn, HK, ⟨fun _ => by rw [HXX.out]; exact HC.out⟩, ⟨below_drew1 hb1K.out⟩⟩
            · have hlk : ((k : Int) < (Ns.length : Int)) = False := eq_false (by omega)
              have hlk1 : (k < Ns.length) = False := eq_false hk
              go_upto_region 10 with (fail)
              refine start_ (n := 18) (S := fun w' => w'.cell? ⟨w.heap.size + 1, 0, none⟩ = some (.int .i64 8) ∧ w'.cell? ⟨w.heap.size + 1, 1, none⟩ = some (.int .i64 0) ∧ w'.cell? ⟨w.heap.size + 1, 2, none⟩ = some (.slice V2 Ns.length d2) ∧ w'.cell? ⟨w.heap.size + 1, 3, none⟩ = some (.slice V3 Ts.length d3) ∧ w'.cell? (ad.add (i * 5)) = some (.string n)) (ds := []) #[false, false, false, false, false, false, false, false, false, false, false, false, false, false, false, false, false, false] (by kernel_rfl) rfl rfl ⟨t0, t1, t2, t3, q0⟩ (fun hHeld => ?_)
              refine pure_ (i := 0) (N := some 26) (v := ?_) (a' := ?_) #[true, false, false, false, false, false, false, false, false, false, false, false, false, false, false, false, false, false] rfl rfl (by kernel_rfl) (fun _ _ _ h => h) (Or.inl ⟨by rfl, ?_⟩) ?_ ?_
              rotate_left
              · intro w'
                go_simp
                with_reducible rfl
              rotate_left
              · simp only [Act.put, List.setIfInBounds_toArray, List.set_cons_zero, List.set_cons_succ, i64_w, i32_w]
                rfl
              refine pure_ (i := 1) (N := some 27) (v := ?_) (a' := ?_) #[true, true, false, false, false, false, false, false, false, false, false, false, false, false, false, false, false, false] rfl rfl (by kernel_rfl) (fun _ _ _ h => h) (Or.inl ⟨by rfl, ?_⟩) ?_ ?_
              rotate_left
              · intro w'
                go_simp
                with_reducible rfl
              rotate_left
              · simp only [Act.put, List.setIfInBounds_toArray, List.set_cons_zero, List.set_cons_succ, i64_w, i32_w]
                rfl
              refine take_ (i := 2) (N := some 28) (v := ?_) (a' := ?_) #[true, true, true, false, false, false, false, false, false, false, false, false, false, false, false, false, false, false] rfl rfl (by kernel_rfl) (fun _ _ _ h => h) (Or.inl ⟨by rfl, ?_⟩) hHeld ?_ ?_
              rotate_left
              · rintro w' ⟨s0, s1, s2, s3, s4⟩
                go_simp
                with_reducible rfl
              rotate_left
              · simp only [Act.put, List.setIfInBounds_toArray, List.set_cons_zero, List.set_cons_succ, i64_w, i32_w]
                rfl
              refine pure_ (i := 3) (N := some 29) (v := ?_) (a' := ?_) #[true, true, true, true, false, false, false, false, false, false, false, false, false, false, false, false, false, false] rfl rfl (by kernel_rfl) (fun _ _ _ h => h) (Or.inl ⟨by rfl, ?_⟩) ?_ ?_
              rotate_left
              · intro w'
                go_simp
                with_reducible rfl
              rotate_left
              · simp only [Act.put, List.setIfInBounds_toArray, List.set_cons_zero, List.set_cons_succ, i64_w, i32_w]
                rfl
              refine pure_ (i := 4) (N := some 30) (v := ?_) (a' := ?_) #[true, true, true, true, true, false, false, false, false, false, false, false, false, false, false, false, false, false] rfl rfl (by kernel_rfl) (fun _ _ _ h => h) (Or.inl ⟨by rfl, ?_⟩) ?_ ?_
              rotate_left
              · intro w'
                go_simp
                with_reducible rfl
              rotate_left
              · simp only [Act.put, List.setIfInBounds_toArray, List.set_cons_zero, List.set_cons_succ, i64_w, i32_w]
                rfl
              refine pure_ (i := 5) (N := some 31) (v := ?_) (a' := ?_) #[true, true, true, true, true, true, false, false, false, false, false, false, false, false, false, false, false, false] rfl rfl (by kernel_rfl) (fun _ _ _ h => h) (Or.inl ⟨by rfl, ?_⟩) ?_ ?_
              rotate_left
              · intro w'
                go_simp
                with_reducible rfl
              rotate_left
              · simp only [Act.put, List.setIfInBounds_toArray, List.set_cons_zero, List.set_cons_succ, i64_w, i32_w]
                rfl
              refine pure_ (i := 6) (N := some 32) (v := undef) (a' := ?_) #[true, true, true, true, true, true, true, false, false, false, false, false, false, false, false, false, false, false] rfl rfl (by kernel_rfl) (fun _ _ _ h => h) (Or.inr ⟨by rfl, rfl⟩) ?_ ?_
              rotate_left
              · simp only [Act.put, List.setIfInBounds_toArray, List.set_cons_zero, List.set_cons_succ, i64_w, i32_w]
                rfl
              refine pure_ (i := 7) (N := some 33) (v := undef) (a' := ?_) #[true, true, true, true, true, true, true, true, false, false, false, false, false, false, false, false, false, false] rfl rfl (by kernel_rfl) (fun _ _ _ h => h) (Or.inr ⟨by rfl, rfl⟩) ?_ ?_
              rotate_left
              · simp only [Act.put, List.setIfInBounds_toArray, List.set_cons_zero, List.set_cons_succ, i64_w, i32_w]
                rfl
              refine pure_ (i := 8) (N := some 34) (v := undef) (a' := ?_) #[true, true, true, true, true, true, true, true, true, false, false, false, false, false, false, false, false, false] rfl rfl (by kernel_rfl) (fun _ _ _ h => h) (Or.inr ⟨by rfl, rfl⟩) ?_ ?_
              rotate_left
              · simp only [Act.put, List.setIfInBounds_toArray, List.set_cons_zero, List.set_cons_succ, i64_w, i32_w]
                rfl
              refine pure_ (i := 9) (N := some 35) (v := undef) (a' := ?_) #[true, true, true, true, true, true, true, true, true, true, false, false, false, false, false, false, false, false] rfl rfl (by kernel_rfl) (fun _ _ _ h => h) (Or.inr ⟨by rfl, rfl⟩) ?_ ?_
              rotate_left
              · simp only [Act.put, List.setIfInBounds_toArray, List.set_cons_zero, List.set_cons_succ, i64_w, i32_w]
                rfl
              refine pure_ (i := 10) (N := some 36) (v := undef) (a' := ?_) #[true, true, true, true, true, true, true, true, true, true, true, false, false, false, false, false, false, false] rfl rfl (by kernel_rfl) (fun _ _ _ h => h) (Or.inr ⟨by rfl, rfl⟩) ?_ ?_
              rotate_left
              · simp only [Act.put, List.setIfInBounds_toArray, List.set_cons_zero, List.set_cons_succ, i64_w, i32_w]
                rfl
              refine pure_ (i := 11) (N := some 37) (v := undef) (a' := ?_) #[true, true, true, true, true, true, true, true, true, true, true, true, false, false, false, false, false, false] rfl rfl (by kernel_rfl) (fun _ _ _ h => h) (Or.inr ⟨by rfl, rfl⟩) ?_ ?_
              rotate_left
              · simp only [Act.put, List.setIfInBounds_toArray, List.set_cons_zero, List.set_cons_succ, i64_w, i32_w]
                rfl
              refine pure_ (i := 12) (N := some 38) (v := undef) (a' := ?_) #[true, true, true, true, true, true, true, true, true, true, true, true, true, false, false, false, false, false] rfl rfl (by kernel_rfl) (fun _ _ _ h => h) (Or.inr ⟨by rfl, rfl⟩) ?_ ?_
              rotate_left
              · simp only [Act.put, List.setIfInBounds_toArray, List.set_cons_zero, List.set_cons_succ, i64_w, i32_w]
                rfl
              refine pure_ (i := 13) (N := some 39) (v := undef) (a' := ?_) #[true, true, true, true, true, true, true, true, true, true, true, true, true, true, false, false, false, false] rfl rfl (by kernel_rfl) (fun _ _ _ h => h) (Or.inr ⟨by rfl, rfl⟩) ?_ ?_
              rotate_left
              · simp only [Act.put, List.setIfInBounds_toArray, List.set_cons_zero, List.set_cons_succ, i64_w, i32_w]
                rfl
              refine pure_ (i := 14) (N := some 40) (v := undef) (a' := ?_) #[true, true, true, true, true, true, true, true, true, true, true, true, true, true, true, false, false, false] rfl rfl (by kernel_rfl) (fun _ _ _ h => h) (Or.inr ⟨by rfl, rfl⟩) ?_ ?_
              rotate_left
              · simp only [Act.put, List.setIfInBounds_toArray, List.set_cons_zero, List.set_cons_succ, i64_w, i32_w]
                rfl
              refine pure_ (i := 15) (N := some 41) (v := undef) (a' := ?_) #[true, true, true, true, true, true, true, true, true, true, true, true, true, true, true, true, false, false] rfl rfl (by kernel_rfl) (fun _ _ _ h => h) (Or.inr ⟨by rfl, rfl⟩) ?_ ?_
              rotate_left
              · simp only [Act.put, List.setIfInBounds_toArray, List.set_cons_zero, List.set_cons_succ, i64_w, i32_w]
                rfl
              refine pure_ (i := 16) (N := some 42) (v := undef) (a' := ?_) #[true, true, true, true, true, true, true, true, true, true, true, true, true, true, true, true, true, false] rfl rfl (by kernel_rfl) (fun _ _ _ h => h) (Or.inr ⟨by rfl, rfl⟩) ?_ ?_
              rotate_left
              · simp only [Act.put, List.setIfInBounds_toArray, List.set_cons_zero, List.set_cons_succ, i64_w, i32_w]
                rfl
              refine pure_ (i := 17) (N := some 43) (v := ?_) (a' := ?_) #[true, true, true, true, true, true, true, true, true, true, true, true, true, true, true, true, true, true] rfl rfl (by kernel_rfl) (fun _ _ _ h => h) (Or.inl ⟨by rfl, ?_⟩) ?_ ?_
              rotate_left
              · intro w'
                go_simp
                with_reducible rfl
              rotate_left
              · simp only [Act.put, List.setIfInBounds_toArray, List.set_cons_zero, List.set_cons_succ, i64_w, i32_w]
                rfl
              refine done_ (by kernel_rfl) ?_
              go_wp2
              go_meet
              case rel => exact ⟨k, rfl, hkn, HK, ⟨fun h => absurd h hk⟩, ⟨below_drew1 hb1K.out⟩⟩
        obtain ⟨k, rfl, hkn, HK, HKN, HB1⟩ := hcut
        have hgk : ((0 : Int) ≤ (k : Int)) = True := by simp
        have hkb : k ≤ 500000000000 := by omega
        have hb1 := HB1.out
        clear HB1
        replace q0 := pw_cell_below hb1 q0
        replace q1 := pw_cell_below hb1 q1
        replace q2 := pw_cell_below hb1 q2
        replace q3 := pw_cell_below hb1 q3
        replace q4 := pw_cell_below hb1 q4
        replace t0 := pw_cell_below hb1 t0
        replace t1 := pw_cell_below hb1 t1
        replace t2 := pw_cell_below hb1 t2
        replace t3 := pw_cell_below hb1 t3
        have nHB := Aside0.mk (below_step HB.out hb1)
        have nB2 := Aside0.mk (blk_below B2.out hb1)
        have nB4 := Aside0.mk (blk_below B4.out hb1)
        have nR2 := Aside0.mk (Kd.R_below R2.out hb1)
        have nR3 := Aside0.mk (Kd.R_below R3.out hb1)
        clear hb1 HB B2 B4 R2 R3
        have HB := nHB
        have B2 := nB2
        have B4 := nB4
        have R2 := nR2
        have R3 := nR3
        clear nHB nB2 nB4 nR2 nR3
        generalize wc = W1 at *
        go_upto_region 12 with (fail)
        go_cut [63] from 46 to 63 (fun v63 wc => ∃ b : Bool, v63 = .bool b ∧ Aside0 (b = true → ∃ h : k < Ns.length, Ns[k] = n) ∧ Aside0 (b = false → ∀ h : k < Ns.length, Ns[k] ≠ n) ∧ Aside0 (Below W1.heap.size W1 wc))
        case first =>
          by_cases hk : k < Ns.length
          · have hlk : ((k : Int) < (Ns.length : Int)) = True := eq_true (by omega)
            have hlk1 : (k < Ns.length) = True := eq_true hk
            obtain ⟨ap, c, e, hcc, hgg⟩ := Kd.R_reads R2.out
            injection e with e1 e2 e3
            subst e1
            subst e3
            obtain ⟨an, e, hx⟩ := at_s hgg hk
            subst e
            clear hgg hcc e2
            generalize hxk : Ns[k] = x at *
            have HXX := Aside0.mk hxk
            clear hxk
            by_cases hxn : x = n
            · have HXN := Aside0.mk hxn
              clear hxn
              refine start_ (n := 18) (S := fun w' => w'.cell? ⟨w.heap.size + 1, 0, none⟩ = some (.int .i64 8) ∧ w'.cell? ⟨w.heap.size + 1, 1, none⟩ = some (.int .i64 0) ∧ w'.cell? ⟨w.heap.size + 1, 2, none⟩ = some (.slice (some an) Ns.length d2) ∧ w'.cell? ⟨w.heap.size + 1, 3, none⟩ = some (.slice V3 Ts.length d3) ∧ w'.cell? (ad.add (i * 5)) = some (.string n) ∧ w'.cell? (an.add k) = some (.string x)) (ds := []) #[false, false, false, false, false, false, false, false, false, false, false, false, false, false, false, false, false, false] (by kernel_rfl) rfl rfl ⟨t0, t1, t2, t3, q0, hx⟩ (fun hHeld => ?_)
              refine pure_ (i := 0) (N := some 46) (v := ?_) (a' := ?_) #[true, false, false, false, false, false, false, false, false, false, false, false, false, false, false, false, false, false] rfl rfl (by kernel_rfl) (fun _ _ _ h => h) (Or.inl ⟨by rfl, ?_⟩) ?_ ?_
              rotate_left
              · intro w'
                go_simp
                with_reducible rfl
              rotate_left
              · simp only [Act.put, List.setIfInBounds_toArray, List.set_cons_zero, List.set_cons_succ, i64_w, i32_w]
                rfl
              refine pure_ (i := 1) (N := some 47) (v := ?_) (a' := ?_) #[true, true, false, false, false, false, false, false, false, false, false, false, false, false, false, false, false, false] rfl rfl (by kernel_rfl) (fun _ _ _ h => h) (Or.inl ⟨by rfl, ?_⟩) ?_ ?_
              rotate_left
              · intro w'
                go_simp
                with_reducible rfl
              rotate_left
              · simp only [Act.put, List.setIfInBounds_toArray, List.set_cons_zero, List.set_cons_succ, i64_w, i32_w]
                rfl
              refine take_ (i := 2) (N := some 48) (v := ?_) (a' := ?_) #[true, true, true, false, false, false, false, false, false, false, false, false, false, false, false, false, false, false] rfl rfl (by kernel_rfl) (fun _ _ _ h => h) (Or.inl ⟨by rfl, ?_⟩) hHeld ?_ ?_
              rotate_left
              · rintro w' ⟨s0, s1, s2, s3, s4, s5⟩
                go_simp
                with_reducible rfl
              rotate_left
              · simp only [Act.put, List.setIfInBounds_toArray, List.set_cons_zero, List.set_cons_succ, i64_w, i32_w]
                rfl
              refine pure_ (i := 3) (N := some 49) (v := ?_) (a' := ?_) #[true, true, true, true, false, false, false, false, false, false, false, false, false, false, false, false, false, false] rfl rfl (by kernel_rfl) (fun _ _ _ h => h) (Or.inl ⟨by rfl, ?_⟩) ?_ ?_
              rotate_left
              · intro w'
                go_simp
                with_reducible rfl
              rotate_left
              · simp only [Act.put, List.setIfInBounds_toArray, List.set_cons_zero, List.set_cons_succ, i64_w, i32_w]
                rfl
              refine pure_ (i := 4) (N := some 50) (v := ?_) (a' := ?_) #[true, true, true, true, true, false, false, false, false, false, false, false, false, false, false, false, false, false] rfl rfl (by kernel_rfl) (fun _ _ _ h => h) (Or.inl ⟨by rfl, ?_⟩) ?_ ?_
              rotate_left
              · intro w'
                go_simp
                with_reducible rfl
              rotate_left
              · simp only [Act.put, List.setIfInBounds_toArray, List.set_cons_zero, List.set_cons_succ, i64_w, i32_w]
                rfl
              refine pure_ (i := 5) (N := some 51) (v := ?_) (a' := ?_) #[true, true, true, true, true, true, false, false, false, false, false, false, false, false, false, false, false, false] rfl rfl (by kernel_rfl) (fun _ _ _ h => h) (Or.inl ⟨by rfl, ?_⟩) ?_ ?_
              rotate_left
              · intro w'
                go_simp
                with_reducible rfl
              rotate_left
              · simp only [Act.put, List.setIfInBounds_toArray, List.set_cons_zero, List.set_cons_succ, i64_w, i32_w]
                rfl
              refine pure_ (i := 6) (N := some 52) (v := ?_) (a' := ?_) #[true, true, true, true, true, true, true, false, false, false, false, false, false, false, false, false, false, false] rfl rfl (by kernel_rfl) (fun _ _ _ h => h) (Or.inl ⟨by rfl, ?_⟩) ?_ ?_
              rotate_left
              · intro w'
                go_simp
                with_reducible rfl
              rotate_left
              · simp only [Act.put, List.setIfInBounds_toArray, List.set_cons_zero, List.set_cons_succ, i64_w, i32_w]
                rfl
              refine pure_ (i := 8) (N := some 54) (v := ?_) (a' := ?_) #[true, true, true, true, true, true, true, false, true, false, false, false, false, false, false, false, false, false] rfl rfl (by kernel_rfl) (fun _ _ _ h => h) (Or.inl ⟨by rfl, ?_⟩) ?_ ?_
              rotate_left
              · intro w'
                go_simp
                with_reducible rfl
              rotate_left
              · simp only [Act.put, List.setIfInBounds_toArray, List.set_cons_zero, List.set_cons_succ, i64_w, i32_w]
                rfl
              refine pure_ (i := 11) (N := some 57) (v := ?_) (a' := ?_) #[true, true, true, true, true, true, true, false, true, false, false, true, false, false, false, false, false, false] rfl rfl (by kernel_rfl) (fun _ _ _ h => h) (Or.inl ⟨by rfl, ?_⟩) ?_ ?_
              rotate_left
              · intro w'
                go_simp
                with_reducible rfl
              rotate_left
              · simp only [Act.put, List.setIfInBounds_toArray, List.set_cons_zero, List.set_cons_succ, i64_w, i32_w]
                rfl
              refine pure_ (i := 12) (N := some 58) (v := ?_) (a' := ?_) #[true, true, true, true, true, true, true, false, true, false, false, true, true, false, false, false, false, false] rfl rfl (by kernel_rfl) (fun _ _ _ h => h) (Or.inl ⟨by rfl, ?_⟩) ?_ ?_
              rotate_left
              · intro w'
                go_simp
                with_reducible rfl
              rotate_left
              · simp only [Act.put, List.setIfInBounds_toArray, List.set_cons_zero, List.set_cons_succ, i64_w, i32_w]
                rfl
              refine pure_ (i := 13) (N := some 59) (v := ?_) (a' := ?_) #[true, true, true, true, true, true, true, false, true, false, false, true, true, true, false, false, false, false] rfl rfl (by kernel_rfl) (fun _ _ _ h => h) (Or.inl ⟨by rfl, ?_⟩) ?_ ?_
              rotate_left
              · intro w'
                go_simp
                with_reducible rfl
              rotate_left
              · simp only [Act.put, List.setIfInBounds_toArray, List.set_cons_zero, List.set_cons_succ, i64_w, i32_w]
                rfl
              refine pure_ (i := 14) (N := some 60) (v := ?_) (a' := ?_) #[true, true, true, true, true, true, true, false, true, false, false, true, true, true, true, false, false, false] rfl rfl (by kernel_rfl) (fun _ _ _ h => h) (Or.inl ⟨by rfl, ?_⟩) ?_ ?_
              rotate_left
              · intro w'
                go_simp
                with_reducible rfl
              rotate_left
              · simp only [Act.put, List.setIfInBounds_toArray, List.set_cons_zero, List.set_cons_succ, i64_w, i32_w]
                rfl
              refine take_ (i := 7) (N := some 53) (v := ?_) (a' := ?_) #[true, true, true, true, true, true, true, true, true, false, false, true, true, true, true, false, false, false] rfl rfl (by kernel_rfl) (fun _ _ _ h => h) (Or.inl ⟨by rfl, ?_⟩) hHeld ?_ ?_
              rotate_left
              · rintro w' ⟨s0, s1, s2, s3, s4, s5⟩
                go_simp
                with_reducible rfl
              rotate_left
              · simp only [Act.put, List.setIfInBounds_toArray, List.set_cons_zero, List.set_cons_succ, i64_w, i32_w]
                rfl
              refine pure_ (i := 9) (N := some 55) (v := ?_) (a' := ?_) #[true, true, true, true, true, true, true, true, true, true, false, true, true, true, true, false, false, false] rfl rfl (by kernel_rfl) (fun _ _ _ h => h) (Or.inl ⟨by rfl, ?_⟩) ?_ ?_
              rotate_left
              · intro w'
                go_simp
                with_reducible rfl
              rotate_left
              · simp only [Act.put, List.setIfInBounds_toArray, List.set_cons_zero, List.set_cons_succ, i64_w, i32_w]
                rfl
              refine take_ (i := 10) (N := some 56) (v := ?_) (a' := ?_) #[true, true, true, true, true, true, true, true, true, true, true, true, true, true, true, false, false, false] rfl rfl (by kernel_rfl) (fun _ _ _ h => h) (Or.inl ⟨by rfl, ?_⟩) hHeld ?_ ?_
              rotate_left
              · rintro w' ⟨s0, s1, s2, s3, s4, s5⟩
                go_simp
                with_reducible rfl
              rotate_left
              · simp only [Act.put, List.setIfInBounds_toArray, List.set_cons_zero, List.set_cons_succ, i64_w, i32_w]
                rfl
              refine take_ (i := 15) (N := some 61) (v := ?_) (a' := ?_) #[true, true, true, true, true, true, true, true, true, true, true, true, true, true, true, true, false, false] rfl rfl (by kernel_rfl) (fun _ _ _ h => h) (Or.inl ⟨by rfl, ?_⟩) hHeld ?_ ?_
              rotate_left
              · rintro w' ⟨s0, s1, s2, s3, s4, s5⟩
                go_simp
                with_reducible rfl
              rotate_left
              · simp only [Act.put, List.setIfInBounds_toArray, List.set_cons_zero, List.set_cons_succ, i64_w, i32_w]
                rfl
              refine pure_ (i := 16) (N := some 62) (v := ?_) (a' := ?_) #[true, true, true, true, true, true, true, true, true, true, true, true, true, true, true, true, true, false] rfl rfl (by kernel_rfl) (fun _ _ _ h => h) (Or.inl ⟨by rfl, ?_⟩) ?_ ?_
              rotate_left
              · intro w'
                go_simp
                with_reducible rfl
              rotate_left
              · simp only [Act.put, List.setIfInBounds_toArray, List.set_cons_zero, List.set_cons_succ, i64_w, i32_w]
                rfl
              refine pure_ (i := 17) (N := some 63) (v := ?_) (a' := ?_) #[true, true, true, true, true, true, true, true, true, true, true, true, true, true, true, true, true, true] rfl rfl (by kernel_rfl) (fun _ _ _ h => h) (Or.inl ⟨by rfl, ?_⟩) ?_ ?_
              rotate_left
              · intro w'
                go_simp
                with_reducible rfl
              rotate_left
              · simp only [Act.put, List.setIfInBounds_toArray, List.set_cons_zero, List.set_cons_succ, i64_w, i32_w]
                rfl
              refine done_ (by kernel_rfl) ?_
              go_wp2
              go_meet
              case rel => exact ⟨true, by have h := congrArg ByteArray.toList HXN.out; simp [h], ⟨fun _ => ⟨hk, by rw [HXX.out]; exact HXN.out⟩⟩, ⟨fun h => by cases h⟩, ⟨below_drew1 (Below.refl _ _)⟩⟩
            · have HXN := Aside0.mk hxn
              clear hxn
              refine start_ (n := 18) (S := fun w' => w'.cell? ⟨w.heap.size + 1, 0, none⟩ = some (.int .i64 8) ∧ w'.cell? ⟨w.heap.size + 1, 1, none⟩ = some (.int .i64 0) ∧ w'.cell? ⟨w.heap.size + 1, 2, none⟩ = some (.slice (some an) Ns.length d2) ∧ w'.cell? ⟨w.heap.size + 1, 3, none⟩ = some (.slice V3 Ts.length d3) ∧ w'.cell? (ad.add (i * 5)) = some (.string n) ∧ w'.cell? (an.add k) = some (.string x)) (ds := []) #[false, false, false, false, false, false, false, false, false, false, false, false, false, false, false, false, false, false] (by kernel_rfl) rfl rfl ⟨t0, t1, t2, t3, q0, hx⟩ (fun hHeld => ?_)
              refine pure_ (i := 0) (N := some 46) (v := ?_) (a' := ?_) #[true, false, false, false, false, false, false, false, false, false, false, false, false, false, false, false, false, false] rfl rfl (by kernel_rfl) (fun _ _ _ h => h) (Or.inl ⟨by rfl, ?_⟩) ?_ ?_
              rotate_left
              · intro w'
                go_simp
                with_reducible rfl
              rotate_left
              · simp only [Act.put, List.setIfInBounds_toArray, List.set_cons_zero, List.set_cons_succ, i64_w, i32_w]
                rfl
              refine pure_ (i := 1) (N := some 47) (v := ?_) (a' := ?_) #[true, true, false, false, false, false, false, false, false, false, false, false, false, false, false, false, false, false] rfl rfl (by kernel_rfl) (fun _ _ _ h => h) (Or.inl ⟨by rfl, ?_⟩) ?_ ?_
              rotate_left
              · intro w'
                go_simp
                with_reducible rfl
              rotate_left
              · simp only [Act.put, List.setIfInBounds_toArray, List.set_cons_zero, List.set_cons_succ, i64_w, i32_w]
                rfl
              refine take_ (i := 2) (N := some 48) (v := ?_) (a' := ?_) #[true, true, true, false, false, false, false, false, false, false, false, false, false, false, false, false, false, false] rfl rfl (by kernel_rfl) (fun _ _ _ h => h) (Or.inl ⟨by rfl, ?_⟩) hHeld ?_ ?_
              rotate_left
              · rintro w' ⟨s0, s1, s2, s3, s4, s5⟩
                go_simp
                with_reducible rfl
              rotate_left
              · simp only [Act.put, List.setIfInBounds_toArray, List.set_cons_zero, List.set_cons_succ, i64_w, i32_w]
                rfl
              refine pure_ (i := 3) (N := some 49) (v := ?_) (a' := ?_) #[true, true, true, true, false, false, false, false, false, false, false, false, false, false, false, false, false, false] rfl rfl (by kernel_rfl) (fun _ _ _ h => h) (Or.inl ⟨by rfl, ?_⟩) ?_ ?_
              rotate_left
              · intro w'
                go_simp
                with_reducible rfl
              rotate_left
              · simp only [Act.put, List.setIfInBounds_toArray, List.set_cons_zero, List.set_cons_succ, i64_w, i32_w]
                rfl
              refine pure_ (i := 4) (N := some 50) (v := ?_) (a' := ?_) #[true, true, true, true, true, false, false, false, false, false, false, false, false, false, false, false, false, false] rfl rfl (by kernel_rfl) (fun _ _ _ h => h) (Or.inl ⟨by rfl, ?_⟩) ?_ ?_
              rotate_left
              · intro w'
                go_simp
                with_reducible rfl
              rotate_left
              · simp only [Act.put, List.setIfInBounds_toArray, List.set_cons_zero, List.set_cons_succ, i64_w, i32_w]
                rfl
              refine pure_ (i := 5) (N := some 51) (v := ?_) (a' := ?_) #[true, true, true, true, true, true, false, false, false, false, false, false, false, false, false, false, false, false] rfl rfl (by kernel_rfl) (fun _ _ _ h => h) (Or.inl ⟨by rfl, ?_⟩) ?_ ?_
              rotate_left
              · intro w'
                go_simp
                with_reducible rfl
              rotate_left
              · simp only [Act.put, List.setIfInBounds_toArray, List.set_cons_zero, List.set_cons_succ, i64_w, i32_w]
                rfl
              refine pure_ (i := 6) (N := some 52) (v := ?_) (a' := ?_) #[true, true, true, true, true, true, true, false, false, false, false, false, false, false, false, false, false, false] rfl rfl (by kernel_rfl) (fun _ _ _ h => h) (Or.inl ⟨by rfl, ?_⟩) ?_ ?_
              rotate_left
              · intro w'
                go_simp
                with_reducible rfl
              rotate_left
              · simp only [Act.put, List.setIfInBounds_toArray, List.set_cons_zero, List.set_cons_succ, i64_w, i32_w]
                rfl
              refine pure_ (i := 8) (N := some 54) (v := ?_) (a' := ?_) #[true, true, true, true, true, true, true, false, true, false, false, false, false, false, false, false, false, false] rfl rfl (by kernel_rfl) (fun _ _ _ h => h) (Or.inl ⟨by rfl, ?_⟩) ?_ ?_
              rotate_left
              · intro w'
                go_simp
                with_reducible rfl
              rotate_left
              · simp only [Act.put, List.setIfInBounds_toArray, List.set_cons_zero, List.set_cons_succ, i64_w, i32_w]
                rfl
              refine pure_ (i := 11) (N := some 57) (v := ?_) (a' := ?_) #[true, true, true, true, true, true, true, false, true, false, false, true, false, false, false, false, false, false] rfl rfl (by kernel_rfl) (fun _ _ _ h => h) (Or.inl ⟨by rfl, ?_⟩) ?_ ?_
              rotate_left
              · intro w'
                go_simp
                with_reducible rfl
              rotate_left
              · simp only [Act.put, List.setIfInBounds_toArray, List.set_cons_zero, List.set_cons_succ, i64_w, i32_w]
                rfl
              refine pure_ (i := 12) (N := some 58) (v := ?_) (a' := ?_) #[true, true, true, true, true, true, true, false, true, false, false, true, true, false, false, false, false, false] rfl rfl (by kernel_rfl) (fun _ _ _ h => h) (Or.inl ⟨by rfl, ?_⟩) ?_ ?_
              rotate_left
              · intro w'
                go_simp
                with_reducible rfl
              rotate_left
              · simp only [Act.put, List.setIfInBounds_toArray, List.set_cons_zero, List.set_cons_succ, i64_w, i32_w]
                rfl
              refine pure_ (i := 13) (N := some 59) (v := ?_) (a' := ?_) #[true, true, true, true, true, true, true, false, true, false, false, true, true, true, false, false, false, false] rfl rfl (by kernel_rfl) (fun _ _ _ h => h) (Or.inl ⟨by rfl, ?_⟩) ?_ ?_
              rotate_left
              · intro w'
                go_simp
                with_reducible rfl
              rotate_left
              · simp only [Act.put, List.setIfInBounds_toArray, List.set_cons_zero, List.set_cons_succ, i64_w, i32_w]
                rfl
              refine pure_ (i := 14) (N := some 60) (v := ?_) (a' := ?_) #[true, true, true, true, true, true, true, false, true, false, false, true, true, true, true, false, false, false] rfl rfl (by kernel_rfl) (fun _ _ _ h => h) (Or.inl ⟨by rfl, ?_⟩) ?_ ?_
              rotate_left
              · intro w'
                go_simp
                with_reducible rfl
              rotate_left
              · simp only [Act.put, List.setIfInBounds_toArray, List.set_cons_zero, List.set_cons_succ, i64_w, i32_w]
                rfl
              refine take_ (i := 7) (N := some 53) (v := ?_) (a' := ?_) #[true, true, true, true, true, true, true, true, true, false, false, true, true, true, true, false, false, false] rfl rfl (by kernel_rfl) (fun _ _ _ h => h) (Or.inl ⟨by rfl, ?_⟩) hHeld ?_ ?_
              rotate_left
              · rintro w' ⟨s0, s1, s2, s3, s4, s5⟩
                go_simp
                with_reducible rfl
              rotate_left
              · simp only [Act.put, List.setIfInBounds_toArray, List.set_cons_zero, List.set_cons_succ, i64_w, i32_w]
                rfl
              refine pure_ (i := 9) (N := some 55) (v := ?_) (a' := ?_) #[true, true, true, true, true, true, true, true, true, true, false, true, true, true, true, false, false, false] rfl rfl (by kernel_rfl) (fun _ _ _ h => h) (Or.inl ⟨by rfl, ?_⟩) ?_ ?_
              rotate_left
              · intro w'
                go_simp
                with_reducible rfl
              rotate_left
              · simp only [Act.put, List.setIfInBounds_toArray, List.set_cons_zero, List.set_cons_succ, i64_w, i32_w]
                rfl
              refine take_ (i := 10) (N := some 56) (v := ?_) (a' := ?_) #[true, true, true, true, true, true, true, true, true, true, true, true, true, true, true, false, false, false] rfl rfl (by kernel_rfl) (fun _ _ _ h => h) (Or.inl ⟨by rfl, ?_⟩) hHeld ?_ ?_
              rotate_left
              · rintro w' ⟨s0, s1, s2, s3, s4, s5⟩
                go_simp
                with_reducible rfl
              rotate_left
              · simp only [Act.put, List.setIfInBounds_toArray, List.set_cons_zero, List.set_cons_succ, i64_w, i32_w]
                rfl
              refine take_ (i := 15) (N := some 61) (v := ?_) (a' := ?_) #[true, true, true, true, true, true, true, true, true, true, true, true, true, true, true, true, false, false] rfl rfl (by kernel_rfl) (fun _ _ _ h => h) (Or.inl ⟨by rfl, ?_⟩) hHeld ?_ ?_
              rotate_left
              · rintro w' ⟨s0, s1, s2, s3, s4, s5⟩
                go_simp
                with_reducible rfl
              rotate_left
              · simp only [Act.put, List.setIfInBounds_toArray, List.set_cons_zero, List.set_cons_succ, i64_w, i32_w]
                rfl
              refine pure_ (i := 16) (N := some 62) (v := ?_) (a' := ?_) #[true, true, true, true, true, true, true, true, true, true, true, true, true, true, true, true, true, false] rfl rfl (by kernel_rfl) (fun _ _ _ h => h) (Or.inl ⟨by rfl, ?_⟩) ?_ ?_
              rotate_left
              · intro w'
                go_simp
                with_reducible rfl
              rotate_left
              · simp only [Act.put, List.setIfInBounds_toArray, List.set_cons_zero, List.set_cons_succ, i64_w, i32_w]
                rfl
              refine pure_ (i := 17) (N := some 63) (v := ?_) (a' := ?_) #[true, true, true, true, true, true, true, true, true, true, true, true, true, true, true, true, true, true] rfl rfl (by kernel_rfl) (fun _ _ _ h => h) (Or.inl ⟨by rfl, ?_⟩) ?_ ?_
              rotate_left
              · intro w'
                go_simp
                with_reducible rfl
              rotate_left
              · simp only [Act.put, List.setIfInBounds_toArray, List.set_cons_zero, List.set_cons_succ, i64_w, i32_w]
                rfl
              refine done_ (by kernel_rfl) ?_
              go_wp2
              go_meet
              case rel => exact ⟨false, by have h : ¬ x.toList = n.toList := fun h => HXN.out (toList_inj h); simp [h], ⟨fun h => by cases h⟩, ⟨fun _ _ => by rw [HXX.out]; exact HXN.out⟩, ⟨below_drew1 (Below.refl _ _)⟩⟩
          · have hlk : ((k : Int) < (Ns.length : Int)) = False := eq_false (by omega)
            have hlk1 : (k < Ns.length) = False := eq_false hk
            refine start_ (n := 18) (S := fun w' => w'.cell? ⟨w.heap.size + 1, 0, none⟩ = some (.int .i64 8) ∧ w'.cell? ⟨w.heap.size + 1, 1, none⟩ = some (.int .i64 0) ∧ w'.cell? ⟨w.heap.size + 1, 2, none⟩ = some (.slice V2 Ns.length d2) ∧ w'.cell? ⟨w.heap.size + 1, 3, none⟩ = some (.slice V3 Ts.length d3) ∧ w'.cell? (ad.add (i * 5)) = some (.string n)) (ds := []) #[false, false, false, false, false, false, false, false, false, false, false, false, false, false, false, false, false, false] (by kernel_rfl) rfl rfl ⟨t0, t1, t2, t3, q0⟩ (fun hHeld => ?_)
            refine pure_ (i := 0) (N := some 46) (v := ?_) (a' := ?_) #[true, false, false, false, false, false, false, false, false, false, false, false, false, false, false, false, false, false] rfl rfl (by kernel_rfl) (fun _ _ _ h => h) (Or.inl ⟨by rfl, ?_⟩) ?_ ?_
            rotate_left
            · intro w'
              go_simp
              with_reducible rfl
            rotate_left
            · simp only [Act.put, List.setIfInBounds_toArray, List.set_cons_zero, List.set_cons_succ, i64_w, i32_w]
              rfl
            refine pure_ (i := 1) (N := some 47) (v := ?_) (a' := ?_) #[true, true, false, false, false, false, false, false, false, false, false, false, false, false, false, false, false, false] rfl rfl (by kernel_rfl) (fun _ _ _ h => h) (Or.inl ⟨by rfl, ?_⟩) ?_ ?_
            rotate_left
            · intro w'
              go_simp
              with_reducible rfl
            rotate_left
            · simp only [Act.put, List.setIfInBounds_toArray, List.set_cons_zero, List.set_cons_succ, i64_w, i32_w]
              rfl
            refine take_ (i := 2) (N := some 48) (v := ?_) (a' := ?_) #[true, true, true, false, false, false, false, false, false, false, false, false, false, false, false, false, false, false] rfl rfl (by kernel_rfl) (fun _ _ _ h => h) (Or.inl ⟨by rfl, ?_⟩) hHeld ?_ ?_
            rotate_left
            · rintro w' ⟨s0, s1, s2, s3, s4⟩
              go_simp
              with_reducible rfl
            rotate_left
            · simp only [Act.put, List.setIfInBounds_toArray, List.set_cons_zero, List.set_cons_succ, i64_w, i32_w]
              rfl
            refine pure_ (i := 3) (N := some 49) (v := ?_) (a' := ?_) #[true, true, true, true, false, false, false, false, false, false, false, false, false, false, false, false, false, false] rfl rfl (by kernel_rfl) (fun _ _ _ h => h) (Or.inl ⟨by rfl, ?_⟩) ?_ ?_
            rotate_left
            · intro w'
              go_simp
              with_reducible rfl
            rotate_left
            · simp only [Act.put, List.setIfInBounds_toArray, List.set_cons_zero, List.set_cons_succ, i64_w, i32_w]
              rfl
            refine pure_ (i := 4) (N := some 50) (v := ?_) (a' := ?_) #[true, true, true, true, true, false, false, false, false, false, false, false, false, false, false, false, false, false] rfl rfl (by kernel_rfl) (fun _ _ _ h => h) (Or.inl ⟨by rfl, ?_⟩) ?_ ?_
            rotate_left
            · intro w'
              go_simp
              with_reducible rfl
            rotate_left
            · simp only [Act.put, List.setIfInBounds_toArray, List.set_cons_zero, List.set_cons_succ, i64_w, i32_w]
              rfl
            refine pure_ (i := 5) (N := some 51) (v := ?_) (a' := ?_) #[true, true, true, true, true, true, false, false, false, false, false, false, false, false, false, false, false, false] rfl rfl (by kernel_rfl) (fun _ _ _ h => h) (Or.inl ⟨by rfl, ?_⟩) ?_ ?_
            rotate_left
            · intro w'
              go_simp
              with_reducible rfl
            rotate_left
            · simp only [Act.put, List.setIfInBounds_toArray, List.set_cons_zero, List.set_cons_succ, i64_w, i32_w]
              rfl
            refine pure_ (i := 6) (N := some 52) (v := undef) (a' := ?_) #[true, true, true, true, true, true, true, false, false, false, false, false, false, false, false, false, false, false] rfl rfl (by kernel_rfl) (fun _ _ _ h => h) (Or.inr ⟨by rfl, rfl⟩) ?_ ?_
            rotate_left
            · simp only [Act.put, List.setIfInBounds_toArray, List.set_cons_zero, List.set_cons_succ, i64_w, i32_w]
              rfl
            refine pure_ (i := 7) (N := some 53) (v := undef) (a' := ?_) #[true, true, true, true, true, true, true, true, false, false, false, false, false, false, false, false, false, false] rfl rfl (by kernel_rfl) (fun _ _ _ h => h) (Or.inr ⟨by rfl, rfl⟩) ?_ ?_
            rotate_left
            · simp only [Act.put, List.setIfInBounds_toArray, List.set_cons_zero, List.set_cons_succ, i64_w, i32_w]
              rfl
            refine pure_ (i := 8) (N := some 54) (v := undef) (a' := ?_) #[true, true, true, true, true, true, true, true, true, false, false, false, false, false, false, false, false, false] rfl rfl (by kernel_rfl) (fun _ _ _ h => h) (Or.inr ⟨by rfl, rfl⟩) ?_ ?_
            rotate_left
            · simp only [Act.put, List.setIfInBounds_toArray, List.set_cons_zero, List.set_cons_succ, i64_w, i32_w]
              rfl
            refine pure_ (i := 9) (N := some 55) (v := undef) (a' := ?_) #[true, true, true, true, true, true, true, true, true, true, false, false, false, false, false, false, false, false] rfl rfl (by kernel_rfl) (fun _ _ _ h => h) (Or.inr ⟨by rfl, rfl⟩) ?_ ?_
            rotate_left
            · simp only [Act.put, List.setIfInBounds_toArray, List.set_cons_zero, List.set_cons_succ, i64_w, i32_w]
              rfl
            refine pure_ (i := 10) (N := some 56) (v := undef) (a' := ?_) #[true, true, true, true, true, true, true, true, true, true, true, false, false, false, false, false, false, false] rfl rfl (by kernel_rfl) (fun _ _ _ h => h) (Or.inr ⟨by rfl, rfl⟩) ?_ ?_
            rotate_left
            · simp only [Act.put, List.setIfInBounds_toArray, List.set_cons_zero, List.set_cons_succ, i64_w, i32_w]
              rfl
            refine pure_ (i := 11) (N := some 57) (v := undef) (a' := ?_) #[true, true, true, true, true, true, true, true, true, true, true, true, false, false, false, false, false, false] rfl rfl (by kernel_rfl) (fun _ _ _ h => h) (Or.inr ⟨by rfl, rfl⟩) ?_ ?_
            rotate_left
            · simp only [Act.put, List.setIfInBounds_toArray, List.set_cons_zero, List.set_cons_succ, i64_w, i32_w]
              rfl
            refine pure_ (i := 12) (N := some 58) (v := undef) (a' := ?_) #[true, true, true, true, true, true, true, true, true, true, true, true, true, false, false, false, false, false] rfl rfl (by kernel_rfl) (fun _ _ _ h => h) (Or.inr ⟨by rfl, rfl⟩) ?_ ?_
            rotate_left
            · simp only [Act.put, List.setIfInBounds_toArray, List.set_cons_zero, List.set_cons_succ, i64_w, i32_w]
              rfl
            refine pure_ (i := 13) (N := some 59) (v := undef) (a' := ?_) #[true, true, true, true, true, true, true, true, true, true, true, true, true, true, false, false, false, false] rfl rfl (by kernel_rfl) (fun _ _ _ h => h) (Or.inr ⟨by rfl, rfl⟩) ?_ ?_
            rotate_left
            · simp only [Act.put, List.setIfInBounds_toArray, List.set_cons_zero, List.set_cons_succ, i64_w, i32_w]
              rfl
            refine pure_ (i := 14) (N := some 60) (v := undef) (a' := ?_) #[true, true, true, true, true, true, true, true, true, true, true, true, true, true, true, false, false, false] rfl rfl (by kernel_rfl) (fun _ _ _ h => h) (Or.inr ⟨by rfl, rfl⟩) ?_ ?_
            rotate_left
            · simp only [Act.put, List.setIfInBounds_toArray, List.set_cons_zero, List.set_cons_succ, i64_w, i32_w]
              rfl
            refine pure_ (i := 15) (N := some 61) (v := undef) (a' := ?_) #[true, true, true, true, true, true, true, true, true, true, true, true, true, true, true, true, false, false] rfl rfl (by kernel_rfl) (fun _ _ _ h => h) (Or.inr ⟨by rfl, rfl⟩) ?_ ?_
            rotate_left
            · simp only [Act.put, List.setIfInBounds_toArray, List.set_cons_zero, List.set_cons_succ, i64_w, i32_w]
              rfl
            refine pure_ (i := 16) (N := some 62) (v := undef) (a' := ?_) #[true, true, true, true, true, true, true, true, true, true, true, true, true, true, true, true, true, false] rfl rfl (by kernel_rfl) (fun _ _ _ h => h) (Or.inr ⟨by rfl, rfl⟩) ?_ ?_
            rotate_left
            · simp only [Act.put, List.setIfInBounds_toArray, List.set_cons_zero, List.set_cons_succ, i64_w, i32_w]
              rfl
            refine pure_ (i := 17) (N := some 63) (v := ?_) (a' := ?_) #[true, true, true, true, true, true, true, true, true, true, true, true, true, true, true, true, true, true] rfl rfl (by kernel_rfl) (fun _ _ _ h => h) (Or.inl ⟨by rfl, ?_⟩) ?_ ?_
            rotate_left
            · intro w'
              go_simp
              with_reducible rfl
            rotate_left
            · simp only [Act.put, List.setIfInBounds_toArray, List.set_cons_zero, List.set_cons_succ, i64_w, i32_w]
              rfl
            refine done_ (by kernel_rfl) ?_
            go_wp2
            go_meet
            case rel => exact ⟨false, rfl, ⟨fun h => by cases h⟩, ⟨fun _ h => absurd h hk⟩, ⟨below_drew1 (Below.refl _ _)⟩⟩
        obtain ⟨b, rfl, HBT, HBF, HB1⟩ := hcut
        have hb1 := HB1.out
        clear HB1
        replace q0 := pw_cell_below hb1 q0
        replace q1 := pw_cell_below hb1 q1
        replace q2 := pw_cell_below hb1 q2
        replace q3 := pw_cell_below hb1 q3
        replace q4 := pw_cell_below hb1 q4
        replace t0 := pw_cell_below hb1 t0
        replace t1 := pw_cell_below hb1 t1
        replace t2 := pw_cell_below hb1 t2
        replace t3 := pw_cell_below hb1 t3
        have nHB := Aside0.mk (below_step HB.out hb1)
        have nB2 := Aside0.mk (blk_below B2.out hb1)
        have nB4 := Aside0.mk (blk_below B4.out hb1)
        have nR2 := Aside0.mk (Kd.R_below R2.out hb1)
        have nR3 := Aside0.mk (Kd.R_below R3.out hb1)
        clear hb1 HB B2 B4 R2 R3
        have HB := nHB
        have B2 := nB2
        have B4 := nB4
        have R2 := nR2
        have R3 := nR3
        clear nHB nB2 nB4 nR2 nR3
        cases b with
        | true =>
          have HU : Aside0 (recordT (l0.map slOf) = (zeroT, 1)) := ⟨by obtain ⟨h1, h2⟩ := HBT.out rfl; have h3 := HNS.out; subst h3; exact rec_twice (by simpa using hi) HI.out.1 (k := k) (by simpa using h1) (by rw [HTI.out]; simpa using h2)⟩
          clear t0 t1 t2 t3
          obtain ⟨⟨z0, z1, z2, z3⟩, y0, y1, y2, y3⟩ := box4 B2.out
          go_wp2
          refine bodyPost_ret (results_ct rfl _ _ w.heap.size 25 #[.int .i64 0, .int .i64 0, .slice none 0 0, .slice none 0 0] (0, 0) _ rfl (put4 B2.out) Tryd.underlying25 rfl (by kernel_rfl)) rfl ?_
          rw [HU.out]
          exact ⟨none, 0, none, 0, rfl, rows_zero _, below_put4 HB.out (Nat.le_refl _)⟩
        | false =>
          have HNE : Aside0 (∀ h : k < Ns.length, Ns[k] ≠ n) := ⟨HBF.out rfl⟩
          clear HBT HBF
          generalize wc = W2 at *
          go_upto_region 16 with (fail)
          have hkx : k ≤ Ns.length := by have := HNT.out; omega
          have hrr := reads_of R2.out
          obtain ⟨ii, hi_, _, hsz_, _⟩ := info_parts info9
          have hcut := cut_to (P := Tryd.prog) 22 9 .i64 Tryd.underlying22 hi_ V2 Ns.length d2 (k : Int) (by omega) (by omega) hrr.1
          have hfrom := cut_from (P := Tryd.prog) 22 9 .i64 Tryd.underlying22 hi_ 1 hsz_ V2 Ns.length d2 (k : Int) (by omega) (by omega)
          rw [Int.toNat_natCast] at hcut hfrom
          have hds : (Ns.drop k).length = Ns.length - k := by rw [List.length_drop]
          have hts : (Ns.take k).length = k := by rw [List.length_take]; omega
          have HD : Aside0 (ReadsRow (Kd.string.K W2) 1 W2 (if d2 = k then V2 else V2.map (·.add (k * 1))) (Ns.length - k) (Ns.drop k)) := ⟨by have := Kd.C_drop (k := Kd.string) (m := k) hrr.2 (by omega) hrr.1; rw [hds] at this; exact this⟩
          have HTK : Aside0 (ReadsRow (Kd.string.K W2) 1 W2 V2 k (Ns.take k)) := ⟨by have := Kd.C_take (k := Kd.string) (m := k) hrr.2 (by omega); rw [hts] at this; exact this⟩
          generalize (if d2 = k then V2 else V2.map (·.add (k * 1))) = AD at *
          have HLT : Aside0 ((Ns.take k).length = k) := ⟨hts⟩
          have HLD : Aside0 ((Ns.drop k).length = Ns.length - k) := ⟨hds⟩
          obtain ⟨P, hP⟩ : ∃ P, P = Ns.take k := ⟨_, rfl⟩
          obtain ⟨D, hD⟩ : ∃ D, D = Ns.drop k := ⟨_, rfl⟩
          rw [← hP] at HTK HLT
          rw [← hD] at HD HLD
          have HP := Aside0.mk hP
          have HDD := Aside0.mk hD
          clear hds hts hP hD hrr
          have hle1 : ((k : Int) ≤ (Ns.length : Int)) = True := eq_true (by omega)
          have hle2 : decide ((k : Int) ≤ (Ns.length : Int)) = true := decide_eq_true (by omega)
          refine start_ (n := 19) (S := fun w' => w'.cell? ⟨w.heap.size + 1, 0, none⟩ = some (.int .i64 8) ∧ w'.cell? ⟨w.heap.size + 1, 1, none⟩ = some (.int .i64 0) ∧ w'.cell? ⟨w.heap.size + 1, 2, none⟩ = some (.slice V2 Ns.length d2) ∧ w'.cell? ⟨w.heap.size + 1, 3, none⟩ = some (.slice V3 Ts.length d3) ∧ w'.cell? (ad.add (i * 5)) = some (.string n)) (ds := []) #[false, false, false, false, false, false, false, false, false, false, false, false, false, false, false, false, false, false, false] (by kernel_rfl) rfl rfl ⟨t0, t1, t2, t3, q0⟩ (fun hHeld => ?_)
          refine pure_ (i := 0) (N := some 65) (v := ?_) (a' := ?_) #[true, false, false, false, false, false, false, false, false, false, false, false, false, false, false, false, false, false, false] rfl rfl (by kernel_rfl) (fun _ _ _ h => h) (Or.inl ⟨by rfl, ?_⟩) ?_ ?_
          rotate_left
          · intro w'
            go_simp
            with_reducible rfl
          rotate_left
          · simp only [Act.put, List.setIfInBounds_toArray, List.set_cons_zero, List.set_cons_succ, i64_w, i32_w]
            rfl
          refine pure_ (i := 1) (N := some 66) (v := ?_) (a' := ?_) #[true, true, false, false, false, false, false, false, false, false, false, false, false, false, false, false, false, false, false] rfl rfl (by kernel_rfl) (fun _ _ _ h => h) (Or.inl ⟨by rfl, ?_⟩) ?_ ?_
          rotate_left
          · intro w'
            go_simp
            with_reducible rfl
          rotate_left
          · simp only [Act.put, List.setIfInBounds_toArray, List.set_cons_zero, List.set_cons_succ, i64_w, i32_w]
            rfl
          refine take_ (i := 2) (N := some 67) (v := ?_) (a' := ?_) #[true, true, true, false, false, false, false, false, false, false, false, false, false, false, false, false, false, false, false] rfl rfl (by kernel_rfl) (fun _ _ _ h => h) (Or.inl ⟨by rfl, ?_⟩) hHeld ?_ ?_
          rotate_left
          · rintro w' ⟨s0, s1, s2, s3, s4⟩
            go_simp
            with_reducible rfl
          rotate_left
          · simp only [Act.put, List.setIfInBounds_toArray, List.set_cons_zero, List.set_cons_succ, i64_w, i32_w]
            rfl
          refine pure_ (i := 3) (N := some 68) (v := ?_) (a' := ?_) #[true, true, true, true, false, false, false, false, false, false, false, false, false, false, false, false, false, false, false] rfl rfl (by kernel_rfl) (fun _ _ _ h => h) (Or.inl ⟨by rfl, ?_⟩) ?_ ?_
          rotate_left
          · intro w'
            go_simp
            with_reducible rfl
          rotate_left
          · simp only [Act.put, List.setIfInBounds_toArray, List.set_cons_zero, List.set_cons_succ, i64_w, i32_w]
            rfl
          refine pure_ (i := 4) (N := some 69) (v := ?_) (a' := ?_) #[true, true, true, true, true, false, false, false, false, false, false, false, false, false, false, false, false, false, false] rfl rfl (by kernel_rfl) (fun _ _ _ h => h) (Or.inl ⟨by rfl, ?_⟩) ?_ ?_
          rotate_left
          · intro w'
            go_simp
            with_reducible rfl
          rotate_left
          · simp only [Act.put, List.setIfInBounds_toArray, List.set_cons_zero, List.set_cons_succ, i64_w, i32_w]
            rfl
          refine pure_ (i := 6) (N := some 71) (v := ?_) (a' := ?_) #[true, true, true, true, true, false, true, false, false, false, false, false, false, false, false, false, false, false, false] rfl rfl (by kernel_rfl) (fun _ _ _ h => h) (Or.inl ⟨by rfl, ?_⟩) ?_ ?_
          rotate_left
          · intro w'
            go_simp
            with_reducible rfl
          rotate_left
          · simp only [Act.put, List.setIfInBounds_toArray, List.set_cons_zero, List.set_cons_succ, i64_w, i32_w]
            rfl
          refine pure_ (i := 7) (N := some 72) (v := ?_) (a' := ?_) #[true, true, true, true, true, false, true, true, false, false, false, false, false, false, false, false, false, false, false] rfl rfl (by kernel_rfl) (fun _ _ _ h => h) (Or.inl ⟨by rfl, ?_⟩) ?_ ?_
          rotate_left
          · intro w'
            go_simp
            with_reducible rfl
          rotate_left
          · simp only [Act.put, List.setIfInBounds_toArray, List.set_cons_zero, List.set_cons_succ, i64_w, i32_w]
            rfl
          refine pure_ (i := 8) (N := some 73) (v := ?_) (a' := ?_) #[true, true, true, true, true, false, true, true, true, false, false, false, false, false, false, false, false, false, false] rfl rfl (by kernel_rfl) (fun _ _ _ h => h) (Or.inl ⟨by rfl, ?_⟩) ?_ ?_
          rotate_left
          · intro w'
            go_simp
            with_reducible rfl
          rotate_left
          · simp only [Act.put, List.setIfInBounds_toArray, List.set_cons_zero, List.set_cons_succ, i64_w, i32_w]
            rfl
          refine pure_ (i := 9) (N := some 74) (v := ?_) (a' := ?_) #[true, true, true, true, true, false, true, true, true, true, false, false, false, false, false, false, false, false, false] rfl rfl (by kernel_rfl) (fun _ _ _ h => h) (Or.inl ⟨by rfl, ?_⟩) ?_ ?_
          rotate_left
          · intro w'
            go_simp
            with_reducible rfl
          rotate_left
          · simp only [Act.put, List.setIfInBounds_toArray, List.set_cons_zero, List.set_cons_succ, i64_w, i32_w]
            rfl
          refine take_ (i := 10) (N := some 75) (v := ?_) (a' := ?_) #[true, true, true, true, true, false, true, true, true, true, true, false, false, false, false, false, false, false, false] rfl rfl (by kernel_rfl) (fun _ _ _ h => h) (Or.inl ⟨by rfl, ?_⟩) hHeld ?_ ?_
          rotate_left
          · rintro w' ⟨s0, s1, s2, s3, s4⟩
            go_simp
            with_reducible rfl
          rotate_left
          · simp only [Act.put, List.setIfInBounds_toArray, List.set_cons_zero, List.set_cons_succ, i64_w, i32_w]
            rfl
          refine pure_ (i := 13) (N := some 78) (v := ?_) (a' := ?_) #[true, true, true, true, true, false, true, true, true, true, true, false, false, true, false, false, false, false, false] rfl rfl (by kernel_rfl) (fun _ _ _ h => h) (Or.inl ⟨by rfl, ?_⟩) ?_ ?_
          rotate_left
          · intro w'
            go_simp
            with_reducible rfl
          rotate_left
          · simp only [Act.put, List.setIfInBounds_toArray, List.set_cons_zero, List.set_cons_succ, i64_w, i32_w]
            rfl
          refine take_ (i := 14) (N := some 79) (v := ?_) (a' := ?_) #[true, true, true, true, true, false, true, true, true, true, true, false, false, true, true, false, false, false, false] rfl rfl (by kernel_rfl) (fun _ _ _ h => h) (Or.inl ⟨by rfl, ?_⟩) hHeld ?_ ?_
          rotate_left
          · rintro w' ⟨s0, s1, s2, s3, s4⟩
            go_simp
            with_reducible rfl
          rotate_left
          · simp only [Act.put, List.setIfInBounds_toArray, List.set_cons_zero, List.set_cons_succ, i64_w, i32_w]
            rfl
          refine pure_ (i := 15) (N := some 80) (v := ?_) (a' := ?_) #[true, true, true, true, true, false, true, true, true, true, true, false, false, true, true, true, false, false, false] rfl rfl (by kernel_rfl) (fun _ _ _ h => h) (Or.inl ⟨by rfl, ?_⟩) ?_ ?_
          rotate_left
          · intro w'
            go_simp
            with_reducible rfl
          rotate_left
          · simp only [Act.put, List.setIfInBounds_toArray, List.set_cons_zero, List.set_cons_succ, i64_w, i32_w]
            rfl
          refine pure_ (i := 16) (N := some 81) (v := ?_) (a' := ?_) #[true, true, true, true, true, false, true, true, true, true, true, false, false, true, true, true, true, false, false] rfl rfl (by kernel_rfl) (fun _ _ _ h => h) (Or.inl ⟨by rfl, ?_⟩) ?_ ?_
          rotate_left
          · intro w'
            go_simp
            with_reducible rfl
          rotate_left
          · simp only [Act.put, List.setIfInBounds_toArray, List.set_cons_zero, List.set_cons_succ, i64_w, i32_w]
            rfl
          refine join_ (σ := Value × Nat) 3 #[true, true, true, true, true, true, true, true, true, true, true, true, false, true, true, true, true, false, false] (fun s => [(76, .slice (some ⟨s.2, 0, none⟩) 1 1), (70, s.1)]) (fun s w' => Kd.string.R 9 w' W2.heap.size (fun _ => True) s.1 P ∧ w'.heap[s.2]? = some (.cells #[.string n] 9 (0, 0)) ∧ Below W2.heap.size W2 w') (fun s w' hF => ?_) (fun hJ => ?_)
          rotate_left
          · refine two_ (i := 5) (j := 11) (Ni := some 70) (Nj := some 76) #[true, true, true, true, true, true, true, true, true, true, true, false, false, true, true, true, true, false, false] #[true, true, true, true, true, false, true, true, true, true, true, true, false, true, true, true, true, false, false] rfl rfl rfl rfl (by kernel_rfl) (by decide) (by decide) (fun K hK => ?_) (fun K hK => ?_)
            · refine Kd.R_append_rows_step Kd.string (w0 := W2) W2.heap.size (by rfl) (.tmp 65) (.tmp 69) 22 9 (.string ⟨#[]⟩) 16 rfl Tryd.underlying22 info9 rfl (Nat.zero_lt_succ 0) (by decide) (.slice none 0 0) [] P V2 k d2 (fun _ => True) (fun _ => False) rfl rfl (Kd.R_nil _ _ _ _ _) (ReadsRow.imp_ HTK.out (below_drew1 (Below.refl W2.heap.size W2)) (fun _ _ h => h)) (fun _ _ h => h) (fun _ h => h.elim) (fun _ _ => trivial) (below_drew1 (Below.refl W2.heap.size W2)) ((below_drew1 (Below.refl W2.heap.size W2))).size (by simp only [List.length_nil]; omega) ?_
              intro v5 w5 ho5 hb5 hg5 _
              rw [List.nil_append] at ho5
              refine hK.out _ _ ⟨pw_cell_below hb5 t0, pw_cell_below hb5 t1, pw_cell_below hb5 t2, pw_cell_below hb5 t3, pw_cell_below hb5 q0⟩ (fun hHeld => ?_)
              clear hK K
              refine norm_ (a' := ?_) ?_ ?_
              rotate_left
              · show Act.put _ (some 70) _ = _
                simp only [Act.put, List.setIfInBounds_toArray, List.set_cons_zero, List.set_cons_succ, i64_w, i32_w]
                rfl
              refine one_ (i := 11) (N := some 76) #[true, true, true, true, true, true, true, true, true, true, true, true, false, true, true, true, true, false, false] rfl rfl (by kernel_rfl) (by decide) (fun K hK => ?_)
              refine value_ (w1 := ?_) (v := ?_) (by rfl) rfl ?_ ?_
              rotate_left 2
              · go_simp
                constructor
                · rfl
                · rfl
              refine hK.out _ _ ⟨pw_cell_below (below_alloc hb5 (.cells #[.string n] 9)) t0, pw_cell_below (below_alloc hb5 (.cells #[.string n] 9)) t1, pw_cell_below (below_alloc hb5 (.cells #[.string n] 9)) t2, pw_cell_below (below_alloc hb5 (.cells #[.string n] 9)) t3, pw_cell_below (below_alloc hb5 (.cells #[.string n] 9)) q0⟩ (fun hHeld => ?_)
              clear hK K
              refine norm_ (a' := ?_) ?_ ?_
              rotate_left
              · show Act.put _ (some 76) _ = _
                simp only [Act.put, List.setIfInBounds_toArray, List.set_cons_zero, List.set_cons_succ, i64_w, i32_w]
                rfl
              refine hJ (v5, w5.heap.size) _ ⟨Kd.R_alloc ho5 _, heap_alloc_new w5 _, below_alloc hb5 _⟩
            · refine value_ (w1 := ?_) (v := ?_) (by rfl) rfl ?_ ?_
              rotate_left 2
              · go_simp
                constructor
                · rfl
                · rfl
              refine hK.out _ _ ⟨pw_cell_below (below_alloc (below_drew1 (Below.refl W2.heap.size W2)) (.cells #[.string n] 9)) t0, pw_cell_below (below_alloc (below_drew1 (Below.refl W2.heap.size W2)) (.cells #[.string n] 9)) t1, pw_cell_below (below_alloc (below_drew1 (Below.refl W2.heap.size W2)) (.cells #[.string n] 9)) t2, pw_cell_below (below_alloc (below_drew1 (Below.refl W2.heap.size W2)) (.cells #[.string n] 9)) t3, pw_cell_below (below_alloc (below_drew1 (Below.refl W2.heap.size W2)) (.cells #[.string n] 9)) q0⟩ (fun hHeld => ?_)
              clear hK K
              refine norm_ (a' := ?_) ?_ ?_
              rotate_left
              · show Act.put _ (some 76) _ = _
                simp only [Act.put, List.setIfInBounds_toArray, List.set_cons_zero, List.set_cons_succ, i64_w, i32_w]
                rfl
              refine one_ (i := 5) (N := some 70) #[true, true, true, true, true, true, true, true, true, true, true, true, false, true, true, true, true, false, false] rfl rfl (by kernel_rfl) (by decide) (fun K hK => ?_)
              refine Kd.R_append_rows_step Kd.string (w0 := W2) W2.heap.size (by rfl) (.tmp 65) (.tmp 69) 22 9 (.string ⟨#[]⟩) 16 rfl Tryd.underlying22 info9 rfl (Nat.zero_lt_succ 0) (by decide) (.slice none 0 0) [] P V2 k d2 (fun _ => True) (fun _ => False) rfl rfl (Kd.R_nil _ _ _ _ _) (ReadsRow.imp_ HTK.out (below_alloc (below_drew1 (Below.refl W2.heap.size W2)) (.cells #[.string n] 9)) (fun _ _ h => h)) (fun _ _ h => h) (fun _ h => h.elim) (fun _ _ => trivial) (below_alloc (below_drew1 (Below.refl W2.heap.size W2)) (.cells #[.string n] 9)) ((below_alloc (below_drew1 (Below.refl W2.heap.size W2)) (.cells #[.string n] 9))).size (by simp only [List.length_nil]; omega) ?_
              intro v5 w5 ho5 hb5 hg5 _
              rw [List.nil_append] at ho5
              refine hK.out _ _ ⟨pw_cell_below hb5 t0, pw_cell_below hb5 t1, pw_cell_below hb5 t2, pw_cell_below hb5 t3, pw_cell_below hb5 q0⟩ (fun hHeld => ?_)
              clear hK K
              refine norm_ (a' := ?_) ?_ ?_
              rotate_left
              · show Act.put _ (some 70) _ = _
                simp only [Act.put, List.setIfInBounds_toArray, List.set_cons_zero, List.set_cons_succ, i64_w, i32_w]
                rfl
              refine hJ (v5, W2.heap.size) _ ⟨ho5, blk_grown (heap_alloc_new W2.drew _) hg5 (fun h => by cases h), hb5⟩
          obtain ⟨v70, g76⟩ := s
          obtain ⟨hR70, hB76, hb5⟩ := hF
          dsimp only at hR70 hB76
          obtain ⟨A70, c70, e70⟩ := Kd.R_slice hR70
          subst e70
          have hHeld : w'.cell? ⟨w.heap.size + 1, 0, none⟩ = some (.int .i64 8) ∧ w'.cell? ⟨w.heap.size + 1, 1, none⟩ = some (.int .i64 0) ∧ w'.cell? ⟨w.heap.size + 1, 2, none⟩ = some (.slice V2 Ns.length d2) ∧ w'.cell? ⟨w.heap.size + 1, 3, none⟩ = some (.slice V3 Ts.length d3) ∧ w'.cell? (ad.add (i * 5)) = some (.string n) := ⟨pw_cell_below hb5 t0, pw_cell_below hb5 t1, pw_cell_below hb5 t2, pw_cell_below hb5 t3, pw_cell_below hb5 q0⟩
          refine norm_ (a' := ?_) ?_ ?_
          rotate_left
          · simp only [putAll, Act.put, List.setIfInBounds_toArray, List.set_cons_zero, List.set_cons_succ]
            rfl
          refine one_ (i := 12) (N := some 77) #[true, true, true, true, true, true, true, true, true, true, true, true, true, true, true, true, true, false, false] rfl rfl (by kernel_rfl) (by decide) (fun K hK => ?_)
          refine Kd.R_append_rows_step Kd.string (w0 := W2) W2.heap.size (by rfl) (.tmp 70) (.tmp 76) 22 9 (.string ⟨#[]⟩) 16 rfl Tryd.underlying22 info9 rfl (Nat.zero_lt_succ 0) (by decide) (.slice A70 P.length c70) P [n] (some ⟨g76, 0, none⟩) 1 1 (fun _ => True) (fun _ => False) rfl rfl hR70 (string_one hB76) (fun _ _ h => h) (fun _ h => h.elim) (fun _ _ => trivial) hb5 (hb5).size (by have := HLT.out; omega) ?_
          intro v6 w6 ho6 hb6 hg6 _
          obtain ⟨Q, hQ⟩ : ∃ Q, Q = P ++ [n] := ⟨_, rfl⟩
          rw [← hQ] at ho6
          have HQL : Aside0 (Q.length = k + 1) := ⟨by rw [hQ, List.length_append, HLT.out]; rfl⟩
          have HQ := Aside0.mk hQ
          clear hQ
          obtain ⟨A77, c77, e77⟩ := Kd.R_slice ho6
          subst e77
          clear hR70 hB76 hg6
          refine hK.out _ _ ⟨pw_cell_below hb6 t0, pw_cell_below hb6 t1, pw_cell_below hb6 t2, pw_cell_below hb6 t3, pw_cell_below hb6 q0⟩ (fun hHeld => ?_)
          clear hK K
          refine norm_ (a' := ?_) ?_ ?_
          rotate_left
          · show Act.put _ (some 77) _ = _
            simp only [Act.put, List.setIfInBounds_toArray, List.set_cons_zero, List.set_cons_succ, i64_w, i32_w]
            rfl
          refine one_ (i := 17) (N := some 82) #[true, true, true, true, true, true, true, true, true, true, true, true, true, true, true, true, true, true, false] rfl rfl (by kernel_rfl) (by decide) (fun K hK => ?_)
          refine Kd.R_append_rows_step Kd.string (w0 := W2) W2.heap.size (by rfl) (.tmp 77) (.tmp 81) 22 9 (.string ⟨#[]⟩) 16 rfl Tryd.underlying22 info9 rfl (Nat.zero_lt_succ 0) (by decide) (.slice A77 Q.length c77) Q D AD (Ns.length - k) (d2 - k) (fun _ => True) (fun _ => False) rfl rfl ho6 (ReadsRow.imp_ HD.out hb6 (fun _ _ h => h)) (fun _ _ h => h) (fun _ h => h.elim) (fun _ _ => trivial) hb6 (hb6).size (by have := HQL.out; have := HNT.out; omega) ?_
          intro v7 w7 ho7 hb7 hg7 _
          obtain ⟨N2, hN2⟩ : ∃ N2, N2 = Q ++ D := ⟨_, rfl⟩
          rw [← hN2] at ho7
          have HN216 : Aside0 (N2 = Ns.take k ++ [n] ++ Ns.drop k) := ⟨by rw [hN2, HQ.out, HP.out, HDD.out]⟩
          obtain ⟨A82, c82, e82⟩ := Kd.R_slice ho7
          subst e82
          clear hN2 ho6 hg7
          refine hK.out _ _ ⟨pw_cell_below hb7 t0, pw_cell_below hb7 t1, pw_cell_below hb7 t2, pw_cell_below hb7 t3, pw_cell_below hb7 q0⟩ (fun hHeld => ?_)
          clear hK K
          refine norm_ (a' := ?_) ?_ ?_
          rotate_left
          · show Act.put _ (some 82) _ = _
            simp only [Act.put, List.setIfInBounds_toArray, List.set_cons_zero, List.set_cons_succ, i64_w, i32_w]
            rfl
          refine pure_ (i := 18) (N := some 9) (v := ?_) (a' := ?_) #[true, true, true, true, true, true, true, true, true, true, true, true, true, true, true, true, true, true, true] rfl rfl (by kernel_rfl) (fun _ _ _ h => h) (Or.inl ⟨by rfl, ?_⟩) ?_ ?_
          rotate_left
          · intro w'
            go_simp
            with_reducible rfl
          rotate_left
          · simp only [Act.put, List.setIfInBounds_toArray, List.set_cons_zero, List.set_cons_succ, i64_w, i32_w]
            rfl
          refine done_ (by kernel_rfl) ?_
          have hbw := hb7
          replace t0 := pw_cell_below hbw t0
          replace t1 := pw_cell_below hbw t1
          replace t2 := pw_cell_below hbw t2
          replace t3 := pw_cell_below hbw t3
          replace q0 := pw_cell_below hbw q0
          replace q1 := pw_cell_below hbw q1
          replace q2 := pw_cell_below hbw q2
          replace q3 := pw_cell_below hbw q3
          replace q4 := pw_cell_below hbw q4
          have nHB := Aside0.mk (below_step HB.out hbw)
          have nB2 := Aside0.mk (blk_below B2.out hbw)
          have nB4 := Aside0.mk (blk_below B4.out hbw)
          have nR3 := Aside0.mk (Kd.R_below R3.out hbw)
          have hw2 : w.heap.size + 2 ≤ W2.heap.size := by have := blk_lt B4.out; omega
          have R9 : Aside0 (Kd.string.R 9 w7 (w.heap.size + 2) (fun _ => True) (.slice A82 N2.length c82) N2) := ⟨Kd.R_lower ho7 hw2⟩
          clear HB B2 B4 R2 R3 hbw hb5 hb6 hb7 ho7 hw2 hHeld HTK HD HLT HLD HP HDD HQ HQL hcut hfrom hle1 hle2
          have HB := nHB
          have B2 := nB2
          have B4 := nB4
          have R3 := nR3
          clear nHB nB2 nB4 nR3
          have HN9 := HN216
          clear HN216
          generalize w7 = W3 at *
          generalize A82 = A9 at *
          generalize c82 = c9 at *
          generalize N2 = N9 at *
          skip
          go_upto_region 17 with (fail)
          have hkx : k ≤ Ts.length := by have := HNT.out; omega
          have hrr := reads_of R3.out
          obtain ⟨ii, hi_, _, hsz_, _⟩ := info_parts info25
          have hcut := cut_to (P := Tryd.prog) 23 25 .i64 Tryd.underlying23 hi_ V3 Ts.length d3 (k : Int) (by omega) (by omega) hrr.1
          have hfrom := cut_from (P := Tryd.prog) 23 25 .i64 Tryd.underlying23 hi_ 4 hsz_ V3 Ts.length d3 (k : Int) (by omega) (by omega)
          rw [Int.toNat_natCast] at hcut hfrom
          have hds : (Ts.drop k).length = Ts.length - k := by rw [List.length_drop]
          have hts : (Ts.take k).length = k := by rw [List.length_take]; omega
          have HD : Aside0 (ReadsRow ((kW w).K W3) 4 W3 (if d3 = k then V3 else V3.map (·.add (k * 4))) (Ts.length - k) (Ts.drop k)) := ⟨by have := Kd.C_drop (k := (kW w)) (m := k) hrr.2 (by omega) hrr.1; rw [hds] at this; exact this⟩
          have HTK : Aside0 (ReadsRow ((kW w).K W3) 4 W3 V3 k (Ts.take k)) := ⟨by have := Kd.C_take (k := (kW w)) (m := k) hrr.2 (by omega); rw [hts] at this; exact this⟩
          generalize (if d3 = k then V3 else V3.map (·.add (k * 4))) = AD at *
          have HLT : Aside0 ((Ts.take k).length = k) := ⟨hts⟩
          have HLD : Aside0 ((Ts.drop k).length = Ts.length - k) := ⟨hds⟩
          obtain ⟨P, hP⟩ : ∃ P, P = Ts.take k := ⟨_, rfl⟩
          obtain ⟨D, hD⟩ : ∃ D, D = Ts.drop k := ⟨_, rfl⟩
          rw [← hP] at HTK HLT
          rw [← hD] at HD HLD
          have HP := Aside0.mk hP
          have HDD := Aside0.mk hD
          clear hds hts hP hD hrr
          have hle1 : ((k : Int) ≤ (Ts.length : Int)) = True := eq_true (by omega)
          have hle2 : decide ((k : Int) ≤ (Ts.length : Int)) = true := decide_eq_true (by omega)
          refine start_ (n := 19) (S := fun w' => w'.cell? ⟨w.heap.size + 1, 0, none⟩ = some (.int .i64 8) ∧ w'.cell? ⟨w.heap.size + 1, 1, none⟩ = some (.int .i64 0) ∧ w'.cell? ⟨w.heap.size + 1, 2, none⟩ = some (.slice V2 Ns.length d2) ∧ w'.cell? ⟨w.heap.size + 1, 3, none⟩ = some (.slice V3 Ts.length d3) ∧ w'.cell? ⟨(ad.add (i * 5)).block, (ad.add (i * 5)).off + 1, none⟩ = some (.int .i64 t.f0) ∧ w'.cell? ⟨(ad.add (i * 5)).block, (ad.add (i * 5)).off + 1 + 1, none⟩ = some (.int .i64 t.f1) ∧ w'.cell? ⟨(ad.add (i * 5)).block, (ad.add (i * 5)).off + 1 + 2, none⟩ = some (.slice A2 t.f2.length c2) ∧ w'.cell? ⟨(ad.add (i * 5)).block, (ad.add (i * 5)).off + 1 + 3, none⟩ = some (.slice A3 t.f3.length c3)) (ds := []) #[false, false, false, false, false, false, false, false, false, false, false, false, false, false, false, false, false, false, false] (by kernel_rfl) rfl rfl ⟨t0, t1, t2, t3, q1, q2, q3, q4⟩ (fun hHeld => ?_)
          refine pure_ (i := 0) (N := some 83) (v := ?_) (a' := ?_) #[true, false, false, false, false, false, false, false, false, false, false, false, false, false, false, false, false, false, false] rfl rfl (by kernel_rfl) (fun _ _ _ h => h) (Or.inl ⟨by rfl, ?_⟩) ?_ ?_
          rotate_left
          · intro w'
            go_simp
            with_reducible rfl
          rotate_left
          · simp only [Act.put, List.setIfInBounds_toArray, List.set_cons_zero, List.set_cons_succ, i64_w, i32_w]
            rfl
          refine pure_ (i := 1) (N := some 84) (v := ?_) (a' := ?_) #[true, true, false, false, false, false, false, false, false, false, false, false, false, false, false, false, false, false, false] rfl rfl (by kernel_rfl) (fun _ _ _ h => h) (Or.inl ⟨by rfl, ?_⟩) ?_ ?_
          rotate_left
          · intro w'
            go_simp
            with_reducible rfl
          rotate_left
          · simp only [Act.put, List.setIfInBounds_toArray, List.set_cons_zero, List.set_cons_succ, i64_w, i32_w]
            rfl
          refine take_ (i := 2) (N := some 85) (v := ?_) (a' := ?_) #[true, true, true, false, false, false, false, false, false, false, false, false, false, false, false, false, false, false, false] rfl rfl (by kernel_rfl) (fun _ _ _ h => h) (Or.inl ⟨by rfl, ?_⟩) hHeld ?_ ?_
          rotate_left
          · rintro w' ⟨s0, s1, s2, s3, s4, s5, s6, s7⟩
            go_simp
            with_reducible rfl
          rotate_left
          · simp only [Act.put, List.setIfInBounds_toArray, List.set_cons_zero, List.set_cons_succ, i64_w, i32_w]
            rfl
          refine pure_ (i := 3) (N := some 86) (v := ?_) (a' := ?_) #[true, true, true, true, false, false, false, false, false, false, false, false, false, false, false, false, false, false, false] rfl rfl (by kernel_rfl) (fun _ _ _ h => h) (Or.inl ⟨by rfl, ?_⟩) ?_ ?_
          rotate_left
          · intro w'
            go_simp
            with_reducible rfl
          rotate_left
          · simp only [Act.put, List.setIfInBounds_toArray, List.set_cons_zero, List.set_cons_succ, i64_w, i32_w]
            rfl
          refine pure_ (i := 4) (N := some 87) (v := ?_) (a' := ?_) #[true, true, true, true, true, false, false, false, false, false, false, false, false, false, false, false, false, false, false] rfl rfl (by kernel_rfl) (fun _ _ _ h => h) (Or.inl ⟨by rfl, ?_⟩) ?_ ?_
          rotate_left
          · intro w'
            go_simp
            with_reducible rfl
          rotate_left
          · simp only [Act.put, List.setIfInBounds_toArray, List.set_cons_zero, List.set_cons_succ, i64_w, i32_w]
            rfl
          refine pure_ (i := 6) (N := some 89) (v := ?_) (a' := ?_) #[true, true, true, true, true, false, true, false, false, false, false, false, false, false, false, false, false, false, false] rfl rfl (by kernel_rfl) (fun _ _ _ h => h) (Or.inl ⟨by rfl, ?_⟩) ?_ ?_
          rotate_left
          · intro w'
            go_simp
            with_reducible rfl
          rotate_left
          · simp only [Act.put, List.setIfInBounds_toArray, List.set_cons_zero, List.set_cons_succ, i64_w, i32_w]
            rfl
          refine pure_ (i := 7) (N := some 90) (v := ?_) (a' := ?_) #[true, true, true, true, true, false, true, true, false, false, false, false, false, false, false, false, false, false, false] rfl rfl (by kernel_rfl) (fun _ _ _ h => h) (Or.inl ⟨by rfl, ?_⟩) ?_ ?_
          rotate_left
          · intro w'
            go_simp
            with_reducible rfl
          rotate_left
          · simp only [Act.put, List.setIfInBounds_toArray, List.set_cons_zero, List.set_cons_succ, i64_w, i32_w]
            rfl
          refine pure_ (i := 8) (N := some 91) (v := ?_) (a' := ?_) #[true, true, true, true, true, false, true, true, true, false, false, false, false, false, false, false, false, false, false] rfl rfl (by kernel_rfl) (fun _ _ _ h => h) (Or.inl ⟨by rfl, ?_⟩) ?_ ?_
          rotate_left
          · intro w'
            go_simp
            with_reducible rfl
          rotate_left
          · simp only [Act.put, List.setIfInBounds_toArray, List.set_cons_zero, List.set_cons_succ, i64_w, i32_w]
            rfl
          refine pure_ (i := 9) (N := some 92) (v := ?_) (a' := ?_) #[true, true, true, true, true, false, true, true, true, true, false, false, false, false, false, false, false, false, false] rfl rfl (by kernel_rfl) (fun _ _ _ h => h) (Or.inl ⟨by rfl, ?_⟩) ?_ ?_
          rotate_left
          · intro w'
            go_simp
            with_reducible rfl
          rotate_left
          · simp only [Act.put, List.setIfInBounds_toArray, List.set_cons_zero, List.set_cons_succ, i64_w, i32_w]
            rfl
          refine take_ (i := 10) (N := some 93) (v := ?_) (a' := ?_) #[true, true, true, true, true, false, true, true, true, true, true, false, false, false, false, false, false, false, false] rfl rfl (by kernel_rfl) (fun _ _ _ h => h) (Or.inl ⟨by rfl, ?_⟩) hHeld ?_ ?_
          rotate_left
          · rintro w' ⟨s0, s1, s2, s3, s4, s5, s6, s7⟩
            go_simp
            with_reducible rfl
          rotate_left
          · simp only [Act.put, List.setIfInBounds_toArray, List.set_cons_zero, List.set_cons_succ, i64_w, i32_w]
            rfl
          refine pure_ (i := 13) (N := some 96) (v := ?_) (a' := ?_) #[true, true, true, true, true, false, true, true, true, true, true, false, false, true, false, false, false, false, false] rfl rfl (by kernel_rfl) (fun _ _ _ h => h) (Or.inl ⟨by rfl, ?_⟩) ?_ ?_
          rotate_left
          · intro w'
            go_simp
            with_reducible rfl
          rotate_left
          · simp only [Act.put, List.setIfInBounds_toArray, List.set_cons_zero, List.set_cons_succ, i64_w, i32_w]
            rfl
          refine take_ (i := 14) (N := some 97) (v := ?_) (a' := ?_) #[true, true, true, true, true, false, true, true, true, true, true, false, false, true, true, false, false, false, false] rfl rfl (by kernel_rfl) (fun _ _ _ h => h) (Or.inl ⟨by rfl, ?_⟩) hHeld ?_ ?_
          rotate_left
          · rintro w' ⟨s0, s1, s2, s3, s4, s5, s6, s7⟩
            go_simp
            with_reducible rfl
          rotate_left
          · simp only [Act.put, List.setIfInBounds_toArray, List.set_cons_zero, List.set_cons_succ, i64_w, i32_w]
            rfl
          refine pure_ (i := 15) (N := some 98) (v := ?_) (a' := ?_) #[true, true, true, true, true, false, true, true, true, true, true, false, false, true, true, true, false, false, false] rfl rfl (by kernel_rfl) (fun _ _ _ h => h) (Or.inl ⟨by rfl, ?_⟩) ?_ ?_
          rotate_left
          · intro w'
            go_simp
            with_reducible rfl
          rotate_left
          · simp only [Act.put, List.setIfInBounds_toArray, List.set_cons_zero, List.set_cons_succ, i64_w, i32_w]
            rfl
          refine pure_ (i := 16) (N := some 99) (v := ?_) (a' := ?_) #[true, true, true, true, true, false, true, true, true, true, true, false, false, true, true, true, true, false, false] rfl rfl (by kernel_rfl) (fun _ _ _ h => h) (Or.inl ⟨by rfl, ?_⟩) ?_ ?_
          rotate_left
          · intro w'
            go_simp
            with_reducible rfl
          rotate_left
          · simp only [Act.put, List.setIfInBounds_toArray, List.set_cons_zero, List.set_cons_succ, i64_w, i32_w]
            rfl
          refine join_ (σ := Value × Nat) 3 #[true, true, true, true, true, true, true, true, true, true, true, true, false, true, true, true, true, false, false] (fun s => [(94, .slice (some ⟨s.2, 0, none⟩) 1 1), (88, s.1)]) (fun s w' => (kW w).R 25 w' W3.heap.size (fun _ => True) s.1 P ∧ w'.heap[s.2]? = some (.cells #[.int .i64 t.f0, .int .i64 t.f1, .slice A2 t.f2.length c2, .slice A3 t.f3.length c3] 25 (0, 0)) ∧ Below W3.heap.size W3 w') (fun s w' hF => ?_) (fun hJ => ?_)
          rotate_left
          · refine two_ (i := 5) (j := 11) (Ni := some 88) (Nj := some 94) #[true, true, true, true, true, true, true, true, true, true, true, false, false, true, true, true, true, false, false] #[true, true, true, true, true, false, true, true, true, true, true, true, false, true, true, true, true, false, false] rfl rfl rfl rfl (by kernel_rfl) (by decide) (by decide) (fun K hK => ?_) (fun K hK => ?_)
            · refine Kd.R_append_rows_step (kW w) (w0 := W3) W3.heap.size (by rfl) (.tmp 83) (.tmp 87) 23 25 (.agg #[.int .i64 0, .int .i64 0, .slice none 0 0, .slice none 0 0]) 64 rfl Tryd.underlying23 info25 rfl (Nat.zero_lt_succ 3) (by decide) (.slice none 0 0) [] P V3 k d3 (fun _ => True) (fun _ => False) rfl rfl (Kd.R_nil _ _ _ _ _) (ReadsRow.imp_ HTK.out (below_drew1 (Below.refl W3.heap.size W3)) (fun _ _ h => h)) (fun _ _ h => h) (fun _ h => h.elim) (fun _ _ => trivial) (below_drew1 (Below.refl W3.heap.size W3)) ((below_drew1 (Below.refl W3.heap.size W3))).size (by simp only [List.length_nil]; omega) ?_
              intro v5 w5 ho5 hb5 hg5 _
              rw [List.nil_append] at ho5
              refine hK.out _ _ ⟨pw_cell_below hb5 t0, pw_cell_below hb5 t1, pw_cell_below hb5 t2, pw_cell_below hb5 t3, pw_cell_below hb5 q1, pw_cell_below hb5 q2, pw_cell_below hb5 q3, pw_cell_below hb5 q4⟩ (fun hHeld => ?_)
              clear hK K
              refine norm_ (a' := ?_) ?_ ?_
              rotate_left
              · show Act.put _ (some 88) _ = _
                simp only [Act.put, List.setIfInBounds_toArray, List.set_cons_zero, List.set_cons_succ, i64_w, i32_w]
                rfl
              refine one_ (i := 11) (N := some 94) #[true, true, true, true, true, true, true, true, true, true, true, true, false, true, true, true, true, false, false] rfl rfl (by kernel_rfl) (by decide) (fun K hK => ?_)
              refine value_ (w1 := ?_) (v := ?_) (by rfl) rfl ?_ ?_
              rotate_left 2
              · go_simp
                constructor
                · rfl
                · rfl
              refine hK.out _ _ ⟨pw_cell_below (below_alloc hb5 (.cells #[.int .i64 t.f0, .int .i64 t.f1, .slice A2 t.f2.length c2, .slice A3 t.f3.length c3] 25)) t0, pw_cell_below (below_alloc hb5 (.cells #[.int .i64 t.f0, .int .i64 t.f1, .slice A2 t.f2.length c2, .slice A3 t.f3.length c3] 25)) t1, pw_cell_below (below_alloc hb5 (.cells #[.int .i64 t.f0, .int .i64 t.f1, .slice A2 t.f2.length c2, .slice A3 t.f3.length c3] 25)) t2, pw_cell_below (below_alloc hb5 (.cells #[.int .i64 t.f0, .int .i64 t.f1, .slice A2 t.f2.length c2, .slice A3 t.f3.length c3] 25)) t3, pw_cell_below (below_alloc hb5 (.cells #[.int .i64 t.f0, .int .i64 t.f1, .slice A2 t.f2.length c2, .slice A3 t.f3.length c3] 25)) q1, pw_cell_below (below_alloc hb5 (.cells #[.int .i64 t.f0, .int .i64 t.f1, .slice A2 t.f2.length c2, .slice A3 t.f3.length c3] 25)) q2, pw_cell_below (below_alloc hb5 (.cells #[.int .i64 t.f0, .int .i64 t.f1, .slice A2 t.f2.length c2, .slice A3 t.f3.length c3] 25)) q3, pw_cell_below (below_alloc hb5 (.cells #[.int .i64 t.f0, .int .i64 t.f1, .slice A2 t.f2.length c2, .slice A3 t.f3.length c3] 25)) q4⟩ (fun hHeld => ?_)
              clear hK K
              refine norm_ (a' := ?_) ?_ ?_
              rotate_left
              · show Act.put _ (some 94) _ = _
                simp only [Act.put, List.setIfInBounds_toArray, List.set_cons_zero, List.set_cons_succ, i64_w, i32_w]
                rfl
              refine hJ (v5, w5.heap.size) _ ⟨Kd.R_alloc ho5 _, heap_alloc_new w5 _, below_alloc hb5 _⟩
            · refine value_ (w1 := ?_) (v := ?_) (by rfl) rfl ?_ ?_
              rotate_left 2
              · go_simp
                constructor
                · rfl
                · rfl
              refine hK.out _ _ ⟨pw_cell_below (below_alloc (below_drew1 (Below.refl W3.heap.size W3)) (.cells #[.int .i64 t.f0, .int .i64 t.f1, .slice A2 t.f2.length c2, .slice A3 t.f3.length c3] 25)) t0, pw_cell_below (below_alloc (below_drew1 (Below.refl W3.heap.size W3)) (.cells #[.int .i64 t.f0, .int .i64 t.f1, .slice A2 t.f2.length c2, .slice A3 t.f3.length c3] 25)) t1, pw_cell_below (below_alloc (below_drew1 (Below.refl W3.heap.size W3)) (.cells #[.int .i64 t.f0, .int .i64 t.f1, .slice A2 t.f2.length c2, .slice A3 t.f3.length c3] 25)) t2, pw_cell_below (below_alloc (below_drew1 (Below.refl W3.heap.size W3)) (.cells #[.int .i64 t.f0, .int .i64 t.f1, .slice A2 t.f2.length c2, .slice A3 t.f3.length c3] 25)) t3, pw_cell_below (below_alloc (below_drew1 (Below.refl W3.heap.size W3)) (.cells #[.int .i64 t.f0, .int .i64 t.f1, .slice A2 t.f2.length c2, .slice A3 t.f3.length c3] 25)) q1, pw_cell_below (below_alloc (below_drew1 (Below.refl W3.heap.size W3)) (.cells #[.int .i64 t.f0, .int .i64 t.f1, .slice A2 t.f2.length c2, .slice A3 t.f3.length c3] 25)) q2, pw_cell_below (below_alloc (below_drew1 (Below.refl W3.heap.size W3)) (.cells #[.int .i64 t.f0, .int .i64 t.f1, .slice A2 t.f2.length c2, .slice A3 t.f3.length c3] 25)) q3, pw_cell_below (below_alloc (below_drew1 (Below.refl W3.heap.size W3)) (.cells #[.int .i64 t.f0, .int .i64 t.f1, .slice A2 t.f2.length c2, .slice A3 t.f3.length c3] 25)) q4⟩ (fun hHeld => ?_)
              clear hK K
              refine norm_ (a' := ?_) ?_ ?_
              rotate_left
              · show Act.put _ (some 94) _ = _
                simp only [Act.put, List.setIfInBounds_toArray, List.set_cons_zero, List.set_cons_succ, i64_w, i32_w]
                rfl
              refine one_ (i := 5) (N := some 88) #[true, true, true, true, true, true, true, true, true, true, true, true, false, true, true, true, true, false, false] rfl rfl (by kernel_rfl) (by decide) (fun K hK => ?_)
              refine Kd.R_append_rows_step (kW w) (w0 := W3) W3.heap.size (by rfl) (.tmp 83) (.tmp 87) 23 25 (.agg #[.int .i64 0, .int .i64 0, .slice none 0 0, .slice none 0 0]) 64 rfl Tryd.underlying23 info25 rfl (Nat.zero_lt_succ 3) (by decide) (.slice none 0 0) [] P V3 k d3 (fun _ => True) (fun _ => False) rfl rfl (Kd.R_nil _ _ _ _ _) (ReadsRow.imp_ HTK.out (below_alloc (below_drew1 (Below.refl W3.heap.size W3)) (.cells #[.int .i64 t.f0, .int .i64 t.f1, .slice A2 t.f2.length c2, .slice A3 t.f3.length c3] 25)) (fun _ _ h => h)) (fun _ _ h => h) (fun _ h => h.elim) (fun _ _ => trivial) (below_alloc (below_drew1 (Below.refl W3.heap.size W3)) (.cells #[.int .i64 t.f0, .int .i64 t.f1, .slice A2 t.f2.length c2, .slice A3 t.f3.length c3] 25)) ((below_alloc (below_drew1 (Below.refl W3.heap.size W3)) (.cells #[.int .i64 t.f0, .int .i64 t.f1, .slice A2 t.f2.length c2, .slice A3 t.f3.length c3] 25))).size (by simp only [List.length_nil]; omega) ?_
              intro v5 w5 ho5 hb5 hg5 _
              rw [List.nil_append] at ho5
              refine hK.out _ _ ⟨pw_cell_below hb5 t0, pw_cell_below hb5 t1, pw_cell_below hb5 t2, pw_cell_below hb5 t3, pw_cell_below hb5 q1, pw_cell_below hb5 q2, pw_cell_below hb5 q3, pw_cell_below hb5 q4⟩ (fun hHeld => ?_)
              clear hK K
              refine norm_ (a' := ?_) ?_ ?_
              rotate_left
              · show Act.put _ (some 88) _ = _
                simp only [Act.put, List.setIfInBounds_toArray, List.set_cons_zero, List.set_cons_succ, i64_w, i32_w]
                rfl
              refine hJ (v5, W3.heap.size) _ ⟨ho5, blk_grown (heap_alloc_new W3.drew _) hg5 (fun h => by cases h), hb5⟩
          obtain ⟨v70, g76⟩ := s
          obtain ⟨hR70, hB76, hb5⟩ := hF
          dsimp only at hR70 hB76
          obtain ⟨A70, c70, e70⟩ := Kd.R_slice hR70
          subst e70
          have hHeld : w'.cell? ⟨w.heap.size + 1, 0, none⟩ = some (.int .i64 8) ∧ w'.cell? ⟨w.heap.size + 1, 1, none⟩ = some (.int .i64 0) ∧ w'.cell? ⟨w.heap.size + 1, 2, none⟩ = some (.slice V2 Ns.length d2) ∧ w'.cell? ⟨w.heap.size + 1, 3, none⟩ = some (.slice V3 Ts.length d3) ∧ w'.cell? ⟨(ad.add (i * 5)).block, (ad.add (i * 5)).off + 1, none⟩ = some (.int .i64 t.f0) ∧ w'.cell? ⟨(ad.add (i * 5)).block, (ad.add (i * 5)).off + 1 + 1, none⟩ = some (.int .i64 t.f1) ∧ w'.cell? ⟨(ad.add (i * 5)).block, (ad.add (i * 5)).off + 1 + 2, none⟩ = some (.slice A2 t.f2.length c2) ∧ w'.cell? ⟨(ad.add (i * 5)).block, (ad.add (i * 5)).off + 1 + 3, none⟩ = some (.slice A3 t.f3.length c3) := ⟨pw_cell_below hb5 t0, pw_cell_below hb5 t1, pw_cell_below hb5 t2, pw_cell_below hb5 t3, pw_cell_below hb5 q1, pw_cell_below hb5 q2, pw_cell_below hb5 q3, pw_cell_below hb5 q4⟩
          refine norm_ (a' := ?_) ?_ ?_
          rotate_left
          · simp only [putAll, Act.put, List.setIfInBounds_toArray, List.set_cons_zero, List.set_cons_succ]
            rfl
          refine one_ (i := 12) (N := some 95) #[true, true, true, true, true, true, true, true, true, true, true, true, true, true, true, true, true, false, false] rfl rfl (by kernel_rfl) (by decide) (fun K hK => ?_)
          refine Kd.R_append_rows_step (kW w) (w0 := W3) W3.heap.size (by rfl) (.tmp 88) (.tmp 94) 23 25 (.agg #[.int .i64 0, .int .i64 0, .slice none 0 0, .slice none 0 0]) 64 rfl Tryd.underlying23 info25 rfl (Nat.zero_lt_succ 3) (by decide) (.slice A70 P.length c70) P [t] (some ⟨g76, 0, none⟩) 1 1 (fun _ => True) (fun _ => False) rfl rfl hR70 (kW_one ROWS.out hB76) (fun _ _ h => h) (fun _ h => h.elim) (fun _ _ => trivial) hb5 (hb5).size (by have := HLT.out; omega) ?_
          intro v6 w6 ho6 hb6 hg6 _
          obtain ⟨Q, hQ⟩ : ∃ Q, Q = P ++ [t] := ⟨_, rfl⟩
          rw [← hQ] at ho6
          have HQL : Aside0 (Q.length = k + 1) := ⟨by rw [hQ, List.length_append, HLT.out]; rfl⟩
          have HQ := Aside0.mk hQ
          clear hQ
          obtain ⟨A77, c77, e77⟩ := Kd.R_slice ho6
          subst e77
          clear hR70 hB76 hg6
          refine hK.out _ _ ⟨pw_cell_below hb6 t0, pw_cell_below hb6 t1, pw_cell_below hb6 t2, pw_cell_below hb6 t3, pw_cell_below hb6 q1, pw_cell_below hb6 q2, pw_cell_below hb6 q3, pw_cell_below hb6 q4⟩ (fun hHeld => ?_)
          clear hK K
          refine norm_ (a' := ?_) ?_ ?_
          rotate_left
          · show Act.put _ (some 95) _ = _
            simp only [Act.put, List.setIfInBounds_toArray, List.set_cons_zero, List.set_cons_succ, i64_w, i32_w]
            rfl
          refine one_ (i := 17) (N := some 100) #[true, true, true, true, true, true, true, true, true, true, true, true, true, true, true, true, true, true, false] rfl rfl (by kernel_rfl) (by decide) (fun K hK => ?_)
          refine Kd.R_append_rows_step (kW w) (w0 := W3) W3.heap.size (by rfl) (.tmp 95) (.tmp 99) 23 25 (.agg #[.int .i64 0, .int .i64 0, .slice none 0 0, .slice none 0 0]) 64 rfl Tryd.underlying23 info25 rfl (Nat.zero_lt_succ 3) (by decide) (.slice A77 Q.length c77) Q D AD (Ts.length - k) (d3 - k) (fun _ => True) (fun _ => False) rfl rfl ho6 (ReadsRow.imp_ HD.out hb6 (fun _ _ h => h)) (fun _ _ h => h) (fun _ h => h.elim) (fun _ _ => trivial) hb6 (hb6).size (by have := HQL.out; have := HNT.out; omega) ?_
          intro v7 w7 ho7 hb7 hg7 _
          obtain ⟨N2, hN2⟩ : ∃ N2, N2 = Q ++ D := ⟨_, rfl⟩
          rw [← hN2] at ho7
          have HN217 : Aside0 (N2 = Ts.take k ++ [t] ++ Ts.drop k) := ⟨by rw [hN2, HQ.out, HP.out, HDD.out]⟩
          obtain ⟨A82, c82, e82⟩ := Kd.R_slice ho7
          subst e82
          clear hN2 ho6 hg7
          refine hK.out _ _ ⟨pw_cell_below hb7 t0, pw_cell_below hb7 t1, pw_cell_below hb7 t2, pw_cell_below hb7 t3, pw_cell_below hb7 q1, pw_cell_below hb7 q2, pw_cell_below hb7 q3, pw_cell_below hb7 q4⟩ (fun hHeld => ?_)
          clear hK K
          refine norm_ (a' := ?_) ?_ ?_
          rotate_left
          · show Act.put _ (some 100) _ = _
            simp only [Act.put, List.setIfInBounds_toArray, List.set_cons_zero, List.set_cons_succ, i64_w, i32_w]
            rfl
          refine pure_ (i := 18) (N := some 10) (v := ?_) (a' := ?_) #[true, true, true, true, true, true, true, true, true, true, true, true, true, true, true, true, true, true, true] rfl rfl (by kernel_rfl) (fun _ _ _ h => h) (Or.inl ⟨by rfl, ?_⟩) ?_ ?_
          rotate_left
          · intro w'
            go_simp
            with_reducible rfl
          rotate_left
          · simp only [Act.put, List.setIfInBounds_toArray, List.set_cons_zero, List.set_cons_succ, i64_w, i32_w]
            rfl
          refine done_ (by kernel_rfl) ?_
          have hbw := hb7
          replace t0 := pw_cell_below hbw t0
          replace t1 := pw_cell_below hbw t1
          replace t2 := pw_cell_below hbw t2
          replace t3 := pw_cell_below hbw t3
          replace q0 := pw_cell_below hbw q0
          replace q1 := pw_cell_below hbw q1
          replace q2 := pw_cell_below hbw q2
          replace q3 := pw_cell_below hbw q3
          replace q4 := pw_cell_below hbw q4
          have nHB := Aside0.mk (below_step HB.out hbw)
          have nB2 := Aside0.mk (blk_below B2.out hbw)
          have nB4 := Aside0.mk (blk_below B4.out hbw)
          have nR9 := Aside0.mk (Kd.R_below R9.out hbw)
          have hw2 : w.heap.size + 2 ≤ W3.heap.size := by have := blk_lt B4.out; omega
          have R10 : Aside0 ((kW w).R 25 w7 (w.heap.size + 2) (fun _ => True) (.slice A82 N2.length c82) N2) := ⟨Kd.R_lower ho7 hw2⟩
          clear HB B2 B4 R9 R3 hbw hb5 hb6 hb7 ho7 hw2 hHeld HTK HD HLT HLD HP HDD HQ HQL hcut hfrom hle1 hle2
          have HB := nHB
          have B2 := nB2
          have B4 := nB4
          have R9 := nR9
          clear nHB nB2 nB4 nR9
          have HN10 := HN217
          clear HN217
          generalize w7 = W4 at *
          generalize A82 = A10 at *
          generalize c82 = c10 at *
          generalize N2 = N10 at *
          have f2 := blk_frozen B4.out 2
          have f3 := blk_frozen B4.out 3
          go_upto_region 19 with (fail)
          have nB4 : Aside0 (((W4.setCell ⟨w.heap.size + 1, 2, none⟩ (.slice A9 N9.length c9)).setCell ⟨w.heap.size + 1, 3, none⟩ (.slice A10 N10.length c10)).heap[w.heap.size + 1]? = some (.cells #[.int .i64 8, .int .i64 0, .slice A9 N9.length c9, .slice A10 N10.length c10] 25 (0, 0))) := ⟨blk_put (cs := #[.int .i64 8, .int .i64 0, .slice A9 N9.length c9, .slice V3 Ts.length d3]) (blk_put (cs := #[.int .i64 8, .int .i64 0, .slice V2 Ns.length d2, .slice V3 Ts.length d3]) B4.out 2 _ rfl) 3 _ rfl⟩
          have nB2 : Aside0 (((W4.setCell ⟨w.heap.size + 1, 2, none⟩ (.slice A9 N9.length c9)).setCell ⟨w.heap.size + 1, 3, none⟩ (.slice A10 N10.length c10)).heap[w.heap.size]? = some (.cells #[.int .i64 0, .int .i64 0, .slice none 0 0, .slice none 0 0] 25 (0, 0))) := ⟨by rw [Below.heap_setCell _ _ _ _ (show w.heap.size ≠ w.heap.size + 1 by omega), Below.heap_setCell _ _ _ _ (show w.heap.size ≠ w.heap.size + 1 by omega)]; exact B2.out⟩
          have nHB : Aside0 (Below w.heap.size w ((W4.setCell ⟨w.heap.size + 1, 2, none⟩ (.slice A9 N9.length c9)).setCell ⟨w.heap.size + 1, 3, none⟩ (.slice A10 N10.length c10))) := ⟨(HB.out.setCell (p := ⟨w.heap.size + 1, 2, none⟩) (Nat.le_succ _) _).setCell (p := ⟨w.heap.size + 1, 3, none⟩) (Nat.le_succ _) _⟩
          have nR9 : Aside0 (Kd.string.R 9 ((W4.setCell ⟨w.heap.size + 1, 2, none⟩ (.slice A9 N9.length c9)).setCell ⟨w.heap.size + 1, 3, none⟩ (.slice A10 N10.length c10)) (w.heap.size + 2) (fun _ => True) (.slice A9 N9.length c9) N9) := ⟨keepR (Nat.lt_succ_self _) (keepR (Nat.lt_succ_self _) R9.out)⟩
          have nR10 : Aside0 ((kW w).R 25 ((W4.setCell ⟨w.heap.size + 1, 2, none⟩ (.slice A9 N9.length c9)).setCell ⟨w.heap.size + 1, 3, none⟩ (.slice A10 N10.length c10)) (w.heap.size + 2) (fun _ => True) (.slice A10 N10.length c10) N10) := ⟨keepR (Nat.lt_succ_self _) (keepR (Nat.lt_succ_self _) R10.out)⟩
          have hlk5 : ∀ (c : Addr) (v : Value), c.block < w.heap.size → W4.cell? c = some v → ((W4.setCell ⟨w.heap.size + 1, 2, none⟩ (.slice A9 N9.length c9)).setCell ⟨w.heap.size + 1, 3, none⟩ (.slice A10 N10.length c10)).cell? c = some v := fun c v hc hv => (World.cell?_of_block (by rw [Below.heap_setCell _ _ _ _ (show c.block ≠ w.heap.size + 1 by omega), Below.heap_setCell _ _ _ _ (show c.block ≠ w.heap.size + 1 by omega)])).trans hv
          have hadb : (ad.add (i * 5)).block < w.heap.size := HAD.out
          replace q0 := hlk5 _ _ hadb q0
          replace q1 := hlk5 ⟨(ad.add (i * 5)).block, _, none⟩ _ hadb q1
          replace q2 := hlk5 ⟨(ad.add (i * 5)).block, _, none⟩ _ hadb q2
          replace q3 := hlk5 ⟨(ad.add (i * 5)).block, _, none⟩ _ hadb q3
          replace q4 := hlk5 ⟨(ad.add (i * 5)).block, _, none⟩ _ hadb q4
          clear hlk5 hadb HB B2 B4 R9 R10 t0 t1 t2 t3 f2 f3
          have HB := nHB
          have B2 := nB2
          have B4 := nB4
          have R9 := nR9
          have R10 := nR10
          clear nHB nB2 nB4 nR9 nR10
          generalize ((W4.setCell ⟨w.heap.size + 1, 2, none⟩ (.slice A9 N9.length c9)).setCell ⟨w.heap.size + 1, 3, none⟩ (.slice A10 N10.length c10)) = W5 at *
          have HNX : Aside0 (RecOk (l0.map slOf) (i + 1) (insS s (n, t)) ∧ N9 = (insS s (n, t)).map (·.1) ∧ N10 = (insS s (n, t)).map (·.2)) := ⟨by
            have h1 := HNS.out
            have h2 := HTS.out
            subst h1
            subst h2
            have hil : i < (l0.map slOf).length := by simpa using hi
            have hb' : ∀ j (h : j < s.length), j < k → cmpB s[j].1 n < 0 := fun j h hjk => by have := HK.out j (by simpa using h) hjk; simpa using this
            have hg' : ∀ h : k < s.length, ¬ cmpB s[k].1 n < 0 := fun h => by have := HKN.out (by simpa using h); simpa using this
            have hn' : ∀ h : k < s.length, s[k].1 ≠ n := fun h => by have := HNE.out (by simpa using h); simpa using this
            have hks : k ≤ s.length := by simpa using hkn
            have hi1 := insS_at s (n, t) k hks hb' hg'
            refine ⟨?_, ?_, ?_⟩
            · have := rec_next hil HI.out.1 (by rw [HTI.out]; exact HMT.out) (by rw [HTI.out]; exact rec_new HI.out.1.rises (t := (n, t)) hb' hg' hn')
              rw [HTI.out] at this; exact this
            · rw [HN9.out, hi1]; simp [List.map_take, List.map_drop]
            · rw [HN10.out, hi1]; simp [List.map_take, List.map_drop]⟩
          have HSZ : Aside0 (sizeTs (((l0.map slOf).take (i + 1)).map (·.2)) = sizeTs (((l0.map slOf).take i).map (·.2)) + sizeT t) := ⟨by have := rec_size (l := l0.map slOf) (by simpa using hi); rw [HTI.out] at this; exact this⟩
          have HSO : Aside0 (SumOk (sizeTs (((l0.map slOf).take i).map (·.2))) z) := ⟨HI.out.2.1⟩
          have hst : Aside0 (sizeT t ≤ 500000000000) := ⟨Nat.le_trans (size_le_w t) HWi.out⟩
          clear HI HNS HTS HK HKN HNE HN9 HN10 HTI HMT hnl HNT hkn hgk hkb
          by_cases hz : z ≤ 300
          · have hz1 : ((z : Int) ≤ 300) = True := eq_true (by omega)
            have hd : decide (300 < z) = false := decide_eq_false (by omega)
            have hd2 : (300 < z) = False := eq_false (by omega)
            rw [hd]
            obtain ⟨K1, hK1⟩ := rsize_ev t (by have := HWi.out; omega)
            have ES := Aside0.mk (hK1 K1 (Nat.le_refl _))
            have hr2 := ROWS.out.below HB.out
            clear hK1
            go_wp2_with (go_at_call 16; refine holdT_ ?_)
            unfold HeldT
            refine (gussetref14_Size.calls K1 _ _ _ _ _ _ _ _ _ _ hr2.2.1 hr2.1 hr2.2.2.2 hr2.2.2.1 ES.out).mono ?_
            rintro e w8 ⟨rfl, hb⟩
            clear hr2 ES
            have sR9 := Aside0.mk (Kd.R_below R9.out hb)
            have sR10 := Aside0.mk (Kd.R_below R10.out hb)
            have sHB := Aside0.mk (below_step HB.out hb)
            have sB2 := Aside0.mk (blk_below B2.out hb)
            have sB4 := Aside0.mk (blk_below B4.out hb)
            clear hb R9 R10 HB B2 B4
            have HSX := Aside0.mk (sumOk_add (x := sizeT t) HSO.out hz)
            generalize sizeT t = sx at *
            obtain ⟨z1, hz1'⟩ : ∃ z1, z1 = z + sx := ⟨_, rfl⟩
            rw [← hz1'] at HSX
            have HZW : Aside0 (wrap64 ((z : Int) + (sx : Int)) = (z1 : Int)) := ⟨by rw [wrap_id _ (by have := hst.out; omega)]; omega⟩
            have hz1b : z1 ≤ 600000000000 := by have := hst.out; omega
            clear hz1'
            go_upto_region 21 with (fail)
            rw [HZW.out]
            clear HZW
            by_cases h3 : 300 < z1
            · have g1 : (300 < z1) = True := eq_true h3
              have g2 : ((300 : Int) < (z1 : Int)) = True := eq_true (by omega)
              have g3 : decide (300 < z1) = true := decide_eq_true h3
              go_wp2
              go_roundw
              case measure => simp [RowKit.intOf]; omega
              case rel => exact ⟨i + 1, z1, insS s (n, t), N9, N10, A9, c9, A10, c10, by go_num, hi, rfl, by rw [g3], ⟨HNX.out.1, by rw [HSZ.out]; exact HSX.out, HNX.out.2.1, HNX.out.2.2⟩, hz1b, sHB, sB2, sB4, sR9, sR10⟩
            · have g1 : (300 < z1) = False := eq_false h3
              have g2 : ((300 : Int) < (z1 : Int)) = False := eq_false (by omega)
              have g3 : decide (300 < z1) = false := decide_eq_false h3
              go_wp2
              go_roundw
              case measure => simp [RowKit.intOf]; omega
              case rel => exact ⟨i + 1, z1, insS s (n, t), N9, N10, A9, c9, A10, c10, by go_num, hi, rfl, by rw [g3], ⟨HNX.out.1, by rw [HSZ.out]; exact HSX.out, HNX.out.2.1, HNX.out.2.2⟩, hz1b, sHB, sB2, sB4, sR9, sR10⟩
          · have hz1 : ((z : Int) ≤ 300) = False := eq_false (by omega)
            have hd : decide (300 < z) = true := decide_eq_true (by omega)
            have hd2 : (300 < z) = True := eq_true (by omega)
            rw [hd]
            go_wp2
            go_roundw
            case measure => simp [RowKit.intOf]; omega
            case rel => exact ⟨i + 1, z, insS s (n, t), N9, N10, A9, c9, A10, c10, by go_num, hi, rfl, by rw [hd], ⟨HNX.out.1, by rw [HSZ.out]; exact sumOk_stay HSO.out (by omega), HNX.out.2.1, HNX.out.2.2⟩, hz6, HB, B2, B4, R9, R10⟩
    · obtain rfl : i = l0.length := by omega
      have hlt : ((l0.length : Int) < (l0.length : Int)) = False := by simp
      have HEND : Aside0 (recordT (l0.map slOf) = if 300 < z then (zeroT, 3) else (.mk 8 0 Ns Ts, 0)) := ⟨by
        have h1 := HI.out.1
        have h2 := HI.out.2.1
        rw [show l0.length = (l0.map slOf).length by simp] at h1 h2
        rw [List.take_length] at h2
        rw [rec_end h1 h2, HI.out.2.2.1, HI.out.2.2.2]⟩
      clear HI
      obtain ⟨⟨z0, z1, z2, z3⟩, y0, y1, y2, y3⟩ := box4 B2.out
      by_cases hz : 300 < z
      · have hd : decide (300 < z) = true := decide_eq_true hz
        have HU : Aside0 (recordT (l0.map slOf) = (zeroT, 3)) := ⟨by rw [HEND.out, if_pos hz]⟩
        rw [hd]
        go_wp2
        refine bodyPost_ret (results_ct rfl _ _ w.heap.size 25 #[.int .i64 0, .int .i64 0, .slice none 0 0, .slice none 0 0] (0, 0) _ rfl (put4 B2.out) Tryd.underlying25 rfl (by kernel_rfl)) rfl ?_
        rw [HU.out]
        exact ⟨none, 0, none, 0, rfl, rows_zero _, below_put4 HB.out (Nat.le_refl _)⟩
      · have hd : decide (300 < z) = false := decide_eq_false hz
        have HU : Aside0 (recordT (l0.map slOf) = ((⟨8, 0, Ns, Ts⟩ : Ty), 0)) := ⟨by rw [HEND.out, if_neg hz]⟩
        rw [hd]
        go_wp2
        refine bodyPost_ret (results_ct rfl _ _ w.heap.size 25 #[.int .i64 8, .int .i64 0, .slice V2 Ns.length d2, .slice V3 Ts.length d3] (0, 0) _ rfl (put4 B2.out) Tryd.underlying25 rfl (by kernel_rfl)) rfl ?_
        rw [HU.out]
        have k2 := reads_of (keepR (o := 3) (u := .slice V3 Ts.length d3) (show w.heap.size < w.heap.size + 2 by omega) (keepR (o := 2) (u := .slice V2 Ns.length d2) (show w.heap.size < w.heap.size + 2 by omega) (keepR (o := 1) (u := .int .i64 0) (show w.heap.size < w.heap.size + 2 by omega) (keepR (o := 0) (u := .int .i64 8) (show w.heap.size < w.heap.size + 2 by omega) R2.out))))
        have k3 := reads_of (keepR (o := 3) (u := .slice V3 Ts.length d3) (show w.heap.size < w.heap.size + 2 by omega) (keepR (o := 2) (u := .slice V2 Ns.length d2) (show w.heap.size < w.heap.size + 2 by omega) (keepR (o := 1) (u := .int .i64 0) (show w.heap.size < w.heap.size + 2 by omega) (keepR (o := 0) (u := .int .i64 8) (show w.heap.size < w.heap.size + 2 by omega) R3.out))))
        exact ⟨V2, d2, V3, d3, rfl, ⟨k2.1, k2.2, k3.1, kW_to k3.2 (below_put4 HB.out (Nat.le_refl _))⟩, below_put4 HB.out (Nat.le_refl _)⟩
end Go.Proofs.YtjcajpkgamolkaaDoor.Ty
