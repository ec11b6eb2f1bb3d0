/- HW, as this claim needs it. -/
import Derived.Test.YtjcajpkgamolkaaDoorHHq
import Derived.Test.YtjcajpkgamolkaaDoorHBq
import Derived.Test.YtjcajpkgamolkaaDoorHIq
namespace Go.Proofs.YtjcajpkgamolkaaDoor.Ty
open Go.RowKit Go.Proofs.YtjcajpkgamolkaaDoor.PTyp
set_option linter.unusedVariables false
set_option linter.unusedSimpArgs false
def inst (i : Nat) : Ty := ⟨11, i, [], []⟩
def insts (n : Nat) : List Ty := (List.range n).map inst
theorem insts_next (n : Nat) : insts (n + 1) = insts n ++ [inst n] := by unfold insts; rw [List.range_succ, List.map_append]; rfl
theorem insts_len (n : Nat) : (insts n).length = n := by simp [insts]
theorem inst_cmp (i j : Nat) : cmpT (inst i) (inst j) = cmpI (i : Int) (j : Int) := by
  have e : cmpT (inst i) (inst j) = orI (cmpI 11 11) (orI (cmpI (i : Int) (j : Int)) (orI (cmpI 0 0) (orI (cmpBs [] []) (orI (cmpI 0 0) (cmpTs [] []))))) := by
    unfold inst; rw [cmpT]; rfl
  rw [e]
  have z : orI (cmpI 0 0) (orI (cmpBs [] []) (orI (cmpI 0 0) (cmpTs [] []))) = 0 := by decide +kernel
  rw [z]
  have z1 : cmpI 11 11 = 0 := rfl
  rw [z1]
  unfold orI
  by_cases h : cmpI (i : Int) (j : Int) = 0 <;> simp [h]
theorem insts_rise (n : Nat) : Rises (insts n) := by
  unfold Rises insts
  rw [List.pairwise_map]
  refine (List.pairwise_lt_range (n := n)).imp fun {a b} h => ?_
  rw [inst_cmp]
  unfold cmpI
  rw [if_pos (by omega)]; decide
theorem inst_may (i : Nat) : mayT (inst i) = true := by
  unfold inst
  rw [mayT_mk, mayTs_nil, Bool.and_true]
  show (if (1 : Int) ≤ 11 ∧ (11 : Int) ≤ 6 then ([] : List ByteArray).length == 0 && ([] : List Ty).length == 0 && (i : Int) == 0
    else if (11 : Int) = 7 then ([] : List ByteArray).length == 0 && ([] : List Ty).length == 1 && (i : Int) == 0
    else if (11 : Int) = 8 then risesB [] && ([] : List Ty).length == ([] : List ByteArray).length && (i : Int) == 0
    else if (11 : Int) = 9 then ([] : List ByteArray).length == 0 && decide (1 ≤ ([] : List Ty).length) && (i : Int) == 0
    else if (11 : Int) = 10 then partsOk [] && ([] : List ByteArray).length == 0 && decide (2 ≤ ([] : List Ty).length) && (i : Int) == 0
    else if 11 ≤ (11 : Int) ∧ (11 : Int) ≤ 13 then ([] : List ByteArray).length == 0 && ([] : List Ty).length == 0 && decide (0 ≤ (i : Int))
    else false) = true
  simp
theorem inst_size (i : Nat) : sizeT (inst i) = 1 := by unfold inst; rw [sizeT_mk, sizeTs_nil]
theorem insts_mem {n : Nat} {t : Ty} (h : t ∈ insts n) : ∃ i, t = inst i := by
  obtain ⟨i, _, rfl⟩ := List.mem_map.1 h
  exact ⟨i, rfl⟩
theorem insts_size : ∀ n, sizeTs (insts n) = n
  | 0 => by simp [insts, sizeTs_nil]
  | n + 1 => by rw [insts_next, sizeTs_append, insts_size n, sizeTs_cons, sizeTs_nil, inst_size]
theorem insts_parts : ∀ n, (insts n).flatMap partsOf = insts n
  | 0 => rfl
  | n + 1 => by rw [insts_next, List.flatMap_append, insts_parts n]; rfl
theorem union_insts {n : Nat} (hn : 0 < n) : unionT (insts n) = if n = 1 then (inst 0, 0) else if 300 < 1 + n then (zeroT, 3) else (⟨10, 0, [], insts n⟩, 0) := by
  have hm : mayTs (insts n) = true := (mayTs_iff _).2 fun t ht => by obtain ⟨i, rfl⟩ := insts_mem ht; exact inst_may i
  have ha : (insts n).any (fun t => t.k == 1) = false := by
    rw [List.any_eq_false]
    intro t ht
    obtain ⟨i, rfl⟩ := insts_mem ht
    simp [inst, Ty.k]
  have hg : (insts n).any (fun t => decide (300 < sizeT t)) = false := by
    rw [List.any_eq_false]
    intro t ht
    obtain ⟨i, rfl⟩ := insts_mem ht
    rw [inst_size]; simp
  have hno : normT ((insts n).flatMap partsOf) = insts n := by rw [insts_parts]; exact (normT_eq (insts_rise n) (fun t => Iff.rfl)).symm
  unfold unionT
  rw [if_neg (by rw [insts_len]; omega), if_neg (by rw [hm]; simp), ha, hg, hno, if_neg (by simp), Bool.false_or]
  unfold joinT
  rw [insts_len]
  by_cases h1 : n = 1
  · subst h1
    rw [if_pos rfl, if_pos rfl]
    have e : (insts 1).headD zeroT = inst 0 := rfl
    rw [e, inst_size]
    rfl
  · rw [if_neg h1, if_neg h1, sizeT_mk, insts_size]
    by_cases h2 : 300 < 1 + n
    · rw [decide_eq_true h2, if_pos rfl, if_pos h2]
    · rw [decide_eq_false h2, if_neg (by simp), if_neg h2]
def nm (i : Nat) : ByteArray := ⟨#[UInt8.ofNat (97 + i / 26), UInt8.ofNat (97 + i % 26)]⟩
def slotA (i : Nat) : S45 := ⟨nm i, ⟨1, 0, [], []⟩⟩
def slotsA (n : Nat) : List S45 := (List.range n).map slotA
theorem slotsA_next (n : Nat) : slotsA (n + 1) = slotsA n ++ [slotA n] := by unfold slotsA; rw [List.range_succ, List.map_append]; rfl
theorem slotsA_len (n : Nat) : (slotsA n).length = n := by simp [slotsA]
theorem u8_lt {a b : Nat} (ha : a < 256) (hb : b < 256) : UInt8.ofNat a < UInt8.ofNat b ↔ a < b := by
  rw [UInt8.lt_iff_toNat_lt, UInt8.toNat_ofNat', UInt8.toNat_ofNat', Nat.mod_eq_of_lt (by omega), Nat.mod_eq_of_lt (by omega)]
theorem nm_lt {i j : Nat} (h : i < j) (hj : j < 676) : cmpB (nm i) (nm j) < 0 := by
  rw [cmpB_lt, Lib.toList_data, Lib.toList_data]
  show [UInt8.ofNat (97 + i / 26), UInt8.ofNat (97 + i % 26)] < [UInt8.ofNat (97 + j / 26), UInt8.ofNat (97 + j % 26)]
  rcases Nat.lt_or_ge (i / 26) (j / 26) with h1 | h1
  · exact List.cons_lt_cons_iff.2 (Or.inl ((u8_lt (by omega) (by omega)).2 (by omega)))
  · have e : i / 26 = j / 26 := by omega
    rw [e]
    exact List.cons_lt_cons_iff.2 (Or.inr ⟨rfl, List.cons_lt_cons_iff.2 (Or.inl ((u8_lt (by omega) (by omega)).2 (by omega)))⟩)
theorem any_may : mayT (⟨1, 0, [], []⟩ : Ty) = true := by decide +kernel
theorem slots_names (n : Nat) : ((slotsA n).map slOf).map (·.1) = (List.range n).map nm := by unfold slotsA; rw [List.map_map, List.map_map]; rfl
theorem slots_types (n : Nat) : ((slotsA n).map slOf).map (·.2) = (List.range n).map fun _ => (⟨1, 0, [], []⟩ : Ty) := by unfold slotsA; rw [List.map_map, List.map_map]; rfl
theorem anys_size : ∀ n, sizeTs ((List.range n).map fun _ => (⟨1, 0, [], []⟩ : Ty)) = n
  | 0 => by simp [sizeTs_nil]
  | n + 1 => by
    rw [List.range_succ, List.map_append, sizeTs_append, anys_size n]
    show n + sizeTs [(⟨1, 0, [], []⟩ : Ty)] = _
    rw [sizeTs_cons, sizeTs_nil, sizeT_mk, sizeTs_nil]
theorem record_slots {n : Nat} (hn : n ≤ 400) : recordT ((slotsA n).map slOf) = if 300 < 1 + n then (zeroT, 3) else (⟨8, 0, (List.range n).map nm, (List.range n).map fun _ => (⟨1, 0, [], []⟩ : Ty)⟩, 0) := by
  have hlt : ((slotsA n).map slOf).Pairwise (fun a b => cmpB a.1 b.1 < 0) := by
    unfold slotsA
    rw [List.pairwise_map, List.pairwise_map, List.pairwise_iff_getElem]
    intro i j hi hj hij
    simp only [List.length_range] at hi hj
    simp only [List.getElem_range]
    exact nm_lt hij (by omega)
  rw [record_is (List.Perm.refl _) (hlt.imp fun {a b} h h' => by have := (cmpB_sk a.1 b.1).1; omega), slots_types, slots_names, anys_size]
  · intro x hx
    have : x.2 ∈ ((slotsA n).map slOf).map (·.2) := List.mem_map.2 ⟨x, hx, rfl⟩
    rw [slots_types] at this
    obtain ⟨_, _, e⟩ := List.mem_map.1 this
    rw [← e]; exact any_may
  · intro i h e
    have := List.pairwise_iff_getElem.1 hlt i (i + 1) (by omega) h (by omega)
    rw [e, cmpB_self] at this
    omega
theorem insts_w : ∀ n, wTs (insts n) = n
  | 0 => by simp [insts, wTs_nil]
  | n + 1 => by
    rw [insts_next, wTs_append, insts_w n, wTs_cons, wTs_nil]
    have : wT (inst n) = 1 := by unfold inst; rw [wT_mk, wTs_nil]; rfl
    rw [this]
theorem slots_w : ∀ n, wTs ((slotsA n).map (·.f1)) = n
  | 0 => by simp [slotsA, wTs_nil]
  | n + 1 => by
    rw [slotsA_next, List.map_append, wTs_append, slots_w n]
    show n + wTs [(⟨1, 0, [], []⟩ : Ty)] = _
    rw [wTs_cons, wTs_nil, wT_mk, wTs_nil]; rfl
end Go.Proofs.YtjcajpkgamolkaaDoor.Ty
namespace Go.Proofs.YtjcajpkgamolkaaDoor.Ty
open Go.RowKit Go.Proofs.YtjcajpkgamolkaaDoor.PTyp Go.Proofs.YtjcajpkgamolkaaDoorW.PrintWords Go.Proofs.YtjcajpkgamolkaaDoorW.PrintLast Go.Proofs.YtjcajpkgamolkaaDoorW.PrintMore
attribute [local go_sem] max2_int min2_int max_two min_two max_three min_three max_four min_four
set_option linter.unusedVariables false
set_option linter.unusedSimpArgs false
theorem conv2 {W : World} {g i : Nat} (hi : i < 400) (hb : W.heap[g]? = some (.cells #[.int .u8 (97 + (i : Int) / 26), .int .u8 (97 + (i : Int) % 26)] 5 (0, 0))) : (convert 51 9 (.slice (some ⟨g, 0, none⟩) 2 2)).run Tryd.prog W = .ok (.string (nm i)) W := by
  have hc := run_convert_bytes_arg (P := Tryd.prog) (w := W) 51 5 Tryd.underlying51 Tryd.underlying5 g 0 2 2 [97 + (i : Int) / 26, 97 + (i : Int) % 26] rfl (fun j hj => by
    have : j = 0 ∨ j = 1 := by omega
    rcases this with rfl | rfl
    · exact (blk_cell hb 0).trans rfl
    · exact (blk_cell hb 1).trans rfl) 9 Tryd.underlying9
  rw [hc]
  have e1 : (97 + (i : Int) / 26).toNat = 97 + i / 26 := by omega
  have e2 : (97 + (i : Int) % 26).toNat = 97 + i % 26 := by omega
  simp only [strOfNums, List.map_cons, List.map_nil, e1, e2]
  rfl
theorem union_shape {l : List Ty} {K N : Int} {ns : List ByteArray} {L : List Ty} {E : Int} (hu : unionT l = (⟨K, N, ns, L⟩, E)) {W : World} {A : Option Addr} {c : Nat} (hr : Kd.C k25 W A l.length l) (hc : l.length ≤ c) (hw : wTs l ≤ 1000000000000) :
    Calls Tryd.prog 24 #[.slice A l.length c] W fun e w' => ∃ A2 c2 A3 c3, e = .returned (.tuple #[.agg #[.int .i64 K, .int .i64 N, .slice A2 ns.length c2, .slice A3 L.length c3], .int .i64 E]) ∧ Below W.heap.size W w' := by
  refine (union_calls A c l W hr hc hw).mono ?_
  rw [hu]
  rintro e w' ⟨v2, v3, rfl, h2, h3, hB⟩
  obtain ⟨A2, c2, e2, l2, g2⟩ := Kd.R_reads h2
  obtain ⟨A3, c3, e3, l3, g3⟩ := Kd.R_reads h3
  subst e2
  subst e3
  exact ⟨A2, c2, A3, c3, rfl, hB⟩
theorem record_shape {l : List S45} {K N : Int} {ns : List ByteArray} {L : List Ty} {E : Int} (hu : recordT (l.map slOf) = (⟨K, N, ns, L⟩, E)) {W : World} {A : Option Addr} {c : Nat} (hr : Kd.C k45 W A l.length l) (hc : l.length ≤ c) (hw : wTs (l.map (·.f1)) ≤ 500000000000) :
    Calls Tryd.prog 28 #[.slice A l.length c] W fun e w' => ∃ A2 c2 A3 c3, e = .returned (.tuple #[.agg #[.int .i64 K, .int .i64 N, .slice A2 ns.length c2, .slice A3 L.length c3], .int .i64 E]) ∧ Below W.heap.size W w' := by
  refine (record_calls A c l W hr hc hw).mono ?_
  rw [hu]
  rintro e w' ⟨v2, v3, rfl, h2, h3, hB⟩
  obtain ⟨A2, c2, e2, l2, g2⟩ := Kd.R_reads h2
  obtain ⟨A3, c3, e3, l3, g3⟩ := Kd.R_reads h3
  subst e2
  subst e3
  exact ⟨A2, c2, A3, c3, rfl, hB⟩
set_option maxHeartbeats 2000000 in
set_option maxRecDepth 100000 in
theorem large_calls (a0 : Int) (w : World) [GW w] : Calls Tryd.prog 10 #[.int .i64 a0] w fun e w' => e = .returned (.bool true) ∧ Below w.heap.size w w' := by
  have hu25 := Tryd.underlying25
  have hu45 := Tryd.underlying45
  obtain ⟨x, hx⟩ : ∃ x : Int, (if 400 < a0 then 400 else a0) = x := ⟨_, rfl⟩
  obtain ⟨n, hn⟩ : ∃ n : Nat, (if 1 < x then x else 1) = (n : Int) := ⟨(if 1 < x then x else 1).toNat, by split <;> omega⟩
  have hn1 : 1 ≤ n := by split at hn <;> omega
  have hn4 : n ≤ 400 := by split at hn <;> split at hx <;> omega
  have HX := Aside0.mk hx
  have HNn := Aside0.mk hn
  go_enter Tryd.func10, Tryd.ntmps10
  go_wp2
  clear hx hn
  go_loopw [3, 4, 5] (fun v3 v4 v5 W => ∃ (i : Nat) (u3 u4 : Value), v5 = .int .i64 i ∧ i ≤ n ∧ v3 = u3 ∧ v4 = u4 ∧ Aside0 (Below w.heap.size w W) ∧ Aside0 (Kd.R k25 25 W w.heap.size (fun _ => True) u3 (insts i)) ∧ Aside0 (Kd.R k45 45 W w.heap.size (fun k => some k ≠ u3.ownBlock) u4 (slotsA i))) (fun _ _ v5 _ => n + 1 - (RowKit.intOf v5).toNat)
  case atStart => exact ⟨0, .slice none 0 0, .slice none 0 0, rfl, Nat.zero_le _, rfl, rfl, ⟨Below.refl _ _⟩, ⟨Kd.R_nil _ _ _ _ _⟩, ⟨Kd.R_nil _ _ _ _ _⟩⟩
  case round =>
    obtain ⟨i, u3, u4, rfl, hin, rfl, rfl, HB, R3, R4⟩ := hrel
    by_cases hi : i < n
    · have hlt : ((i : Int) < (n : Int)) = True := by simp [hi]
      have hi4 : i < 400 := by omega
      obtain ⟨A3, c3, e3⟩ := Kd.R_slice R3.out
      subst e3
      have HL3 : Aside0 ((insts i).length = i) := ⟨insts_len i⟩
      have HL4 : Aside0 ((slotsA i).length = i) := ⟨slotsA_len i⟩
      have HN3 := Aside0.mk (insts_next i)
      have HN4 := Aside0.mk (slotsA_next i)
      generalize insts i = P at *
      generalize slotsA i = Q at *
      go_upto_region 7 with (fail)
      go_step
      repeat ((fail_if_success (with_reducible refine gate_dst (N := 22) rfl ?_)); first | go_values | go_skip | go_guarded | go_step | go_upon | go_simp)
      (with_reducible refine gate_dst (N := 22) rfl ?_)
      refine Kd.R_append k25 (w0 := w) w.heap.size rfl (.tmp 18) (.tmp 21) 23 25 (.agg #[.int .i64 0, .int .i64 0, .slice none 0 0, .slice none 0 0]) 64 rfl Tryd.underlying23 info25 rfl (Nat.zero_lt_succ 3) (by decide) (.slice A3 P.length c3) P (inst i) [.int .i64 11, .int .i64 i, .slice none 0 0, .slice none 0 0] (fun _ => True) (fun _ => False) rfl rfl (k25_mkM _ _ _ (inst i) (Kd.R_nil _ _ _ _ _) (Kd.R_nil _ _ _ _ _)) (fun _ h => h.elim) (fun _ _ => trivial) R3.out HB.out HB.out.size (by have := HL3.out; omega) ?_
      intro v1 w1 ho hb1 hg hat
      have n4_ := Aside0.mk (Kd.R_mono (ok' := fun k => some k ≠ v1.ownBlock) (Kd.R_grown (Kd.R_bound R4.out) hg (fun k hk => hk.1)) (fun k hk => by rcases hat with h | ⟨b, h, hb⟩; (· rw [h]; exact hk.1); (· rw [h]; intro e; injection e with e; have := hk.2.2.1; omega)))
      rw [← HN3.out] at ho
      have n3_ := Aside0.mk ho
      have nB_ := Aside0.mk hb1
      clear ho hb1 hg hat R3 R4 HB
      obtain ⟨A1, d1, e1⟩ := Kd.R_slice n3_.out
      subst e1
      obtain ⟨A4, c4, e4⟩ := Kd.R_slice n4_.out
      subst e4
      have hown : ∀ k, (Value.slice A1 (insts (i + 1)).length d1).ownBlock = some k → k < w1.heap.size := fun k hk => by
        have := (Kd.R_bound n3_.out).1 k hk
        exact this.2.2.1
      generalize hPe : insts (i + 1) = P' at *
      have HPe := Aside0.mk hPe
      clear hPe
      have e1 : wrap64 ((i : Int) / 26) = (i : Int) / 26 := wrap_id _ (by omega)
      have e2 : wrap64 (97 + (i : Int) / 26) = 97 + (i : Int) / 26 := wrap_id _ (by omega)
      have e3 : (i : Int).tmod 26 = (i : Int) % 26 := rfl
      have e4 : wrap64 (97 + (i : Int) % 26) = 97 + (i : Int) % 26 := wrap_id _ (by omega)
      have e5 : IntKind.u8.wrap (97 + (i : Int) / 26) = 97 + (i : Int) / 26 := by unfold IntKind.wrap; simp [IntKind.bits, IntKind.signed]; omega
      have e6 : IntKind.u8.wrap (97 + (i : Int) % 26) = 97 + (i : Int) % 26 := by unfold IntKind.wrap; simp [IntKind.bits, IntKind.signed]; omega
      go_upto_region 8 with (fail)
      refine start_ (n := 16) (S := fun w' => True) (ds := []) #[false, false, false, false, false, false, false, false, false, false, false, false, false, false, false, false] (by kernel_rfl) rfl rfl trivial (fun hHeld => ?_)
      refine pure_ (i := 0) (N := some 23) (v := ?_) (a' := ?_) #[true, false, false, false, false, false, false, false, false, false, false, false, false, false, false, false] rfl rfl (by kernel_rfl) (fun _ _ _ h => h) (Or.inl ⟨by rfl, ?_⟩) ?_ ?_
      rotate_left
      · intro w'
        go_simp
        with_reducible rfl
      rotate_left
      · simp only [Act.put, List.setIfInBounds_toArray, List.set_cons_zero, List.set_cons_succ, i64_w, i32_w]
        rfl
      refine pure_ (i := 1) (N := some 24) (v := ?_) (a' := ?_) #[true, true, false, false, false, false, false, false, false, false, false, false, false, false, false, false] rfl rfl (by kernel_rfl) (fun _ _ _ h => h) (Or.inl ⟨by rfl, ?_⟩) ?_ ?_
      rotate_left
      · intro w'
        go_simp
        with_reducible rfl
      rotate_left
      · simp only [Act.put, List.setIfInBounds_toArray, List.set_cons_zero, List.set_cons_succ, i64_w, i32_w]
        rfl
      refine pure_ (i := 2) (N := some 25) (v := ?_) (a' := ?_) #[true, true, true, false, false, false, false, false, false, false, false, false, false, false, false, false] rfl rfl (by kernel_rfl) (fun _ _ _ h => h) (Or.inl ⟨by rfl, ?_⟩) ?_ ?_
      rotate_left
      · intro w'
        go_simp
        with_reducible rfl
      rotate_left
      · simp only [Act.put, List.setIfInBounds_toArray, List.set_cons_zero, List.set_cons_succ, i64_w, i32_w]
        rfl
      refine pure_ (i := 3) (N := some 26) (v := ?_) (a' := ?_) #[true, true, true, true, false, false, false, false, false, false, false, false, false, false, false, false] rfl rfl (by kernel_rfl) (fun _ _ _ h => h) (Or.inl ⟨by rfl, ?_⟩) ?_ ?_
      rotate_left
      · intro w'
        go_simp
        with_reducible rfl
      rotate_left
      · simp only [Act.put, List.setIfInBounds_toArray, List.set_cons_zero, List.set_cons_succ, i64_w, i32_w]
        rfl
      refine pure_ (i := 4) (N := some 27) (v := ?_) (a' := ?_) #[true, true, true, true, true, false, false, false, false, false, false, false, false, false, false, false] rfl rfl (by kernel_rfl) (fun _ _ _ h => h) (Or.inl ⟨by rfl, ?_⟩) ?_ ?_
      rotate_left
      · intro w'
        go_simp
        with_reducible rfl
      rotate_left
      · simp only [Act.put, List.setIfInBounds_toArray, List.set_cons_zero, List.set_cons_succ, i64_w, i32_w]
        rfl
      refine pure_ (i := 5) (N := some 28) (v := ?_) (a' := ?_) #[true, true, true, true, true, true, false, false, false, false, false, false, false, false, false, false] rfl rfl (by kernel_rfl) (fun _ _ _ h => h) (Or.inl ⟨by rfl, ?_⟩) ?_ ?_
      rotate_left
      · intro w'
        go_simp
        with_reducible rfl
      rotate_left
      · simp only [Act.put, List.setIfInBounds_toArray, List.set_cons_zero, List.set_cons_succ, i64_w, i32_w]
        rfl
      refine pure_ (i := 6) (N := some 29) (v := ?_) (a' := ?_) #[true, true, true, true, true, true, true, false, false, false, false, false, false, false, false, false] rfl rfl (by kernel_rfl) (fun _ _ _ h => h) (Or.inl ⟨by rfl, ?_⟩) ?_ ?_
      rotate_left
      · intro w'
        go_simp
        with_reducible rfl
      rotate_left
      · simp only [Act.put, List.setIfInBounds_toArray, List.set_cons_zero, List.set_cons_succ, i64_w, i32_w]
        rfl
      refine pure_ (i := 7) (N := some 30) (v := ?_) (a' := ?_) #[true, true, true, true, true, true, true, true, false, false, false, false, false, false, false, false] rfl rfl (by kernel_rfl) (fun _ _ _ h => h) (Or.inl ⟨by rfl, ?_⟩) ?_ ?_
      rotate_left
      · intro w'
        go_simp
        with_reducible rfl
      rotate_left
      · simp only [Act.put, List.setIfInBounds_toArray, List.set_cons_zero, List.set_cons_succ, i64_w, i32_w]
        rfl
      refine pure_ (i := 8) (N := some 31) (v := ?_) (a' := ?_) #[true, true, true, true, true, true, true, true, true, false, false, false, false, false, false, false] rfl rfl (by kernel_rfl) (fun _ _ _ h => h) (Or.inl ⟨by rfl, ?_⟩) ?_ ?_
      rotate_left
      · intro w'
        go_simp
        with_reducible rfl
      rotate_left
      · simp only [Act.put, List.setIfInBounds_toArray, List.set_cons_zero, List.set_cons_succ, i64_w, i32_w]
        rfl
      refine join_ (σ := Nat) 4 #[true, true, true, true, true, true, true, true, true, true, true, true, false, false, false, false] (fun g => [(32, .slice (some ⟨g, 0, none⟩) 2 2), (33, .string (nm i)), (34, .agg #[.int .i64 1, .int .i64 0, .slice none 0 0, .slice none 0 0])]) (fun g w' => Below w1.heap.size w1 w') (fun g w' hF => ?_) (fun hJ => ?_)
      rotate_left
      · refine two_ (i := 9) (j := 11) (Ni := some 32) (Nj := some 34) #[true, true, true, true, true, true, true, true, true, true, false, false, false, false, false, false] #[true, true, true, true, true, true, true, true, true, false, false, true, false, false, false, false] rfl rfl rfl rfl (by kernel_rfl) (by decide) (by decide) (fun K hK => ?_) (fun K hK => ?_)
        · refine value_ (w1 := ?_) (v := ?_) (by rfl) rfl ?_ ?_
          rotate_left 2
          · go_simp
            constructor
            · rfl
            · rfl
          refine hK.out _ _ trivial (fun hHeld => ?_)
          clear hK K
          refine norm_ (a' := ?_) ?_ ?_
          rotate_left
          · show Act.put _ (some 32) _ = _
            simp only [Act.put, List.setIfInBounds_toArray, List.set_cons_zero, List.set_cons_succ, i64_w, i32_w]
            rfl
          refine two_ (i := 10) (j := 11) (Ni := some 33) (Nj := some 34) #[true, true, true, true, true, true, true, true, true, true, true, false, false, false, false, false] #[true, true, true, true, true, true, true, true, true, true, false, true, false, false, false, false] rfl rfl rfl rfl (by kernel_rfl) (by decide) (by decide) (fun K hK => ?_) (fun K hK => ?_)
          · refine value_ (w1 := ?_) (v := .string (nm i)) (by rfl) rfl ?_ ?_
            rotate_left
            · go_simp
              rw [conv2 hi4 (blk_drew (heap_alloc_new w1 _))]
              rfl
            refine hK.out _ _ trivial (fun hHeld => ?_)
            clear hK K
            refine norm_ (a' := ?_) ?_ ?_
            rotate_left
            · show Act.put _ (some 33) _ = _
              simp only [Act.put, List.setIfInBounds_toArray, List.set_cons_zero, List.set_cons_succ, i64_w, i32_w]
              rfl
            refine one_ (i := 11) (N := some 34) #[true, true, true, true, true, true, true, true, true, true, true, true, false, false, false, false] rfl rfl (by kernel_rfl) (by decide) (fun K hK => ?_)
            refine call_ 31 #[.int .i64 1] (by rfl) rfl ?_ ?_
            · go_simp
              try rfl
            refine (simple_calls 1 _).mono ?_
            rintro e w2 ⟨rfl, hb⟩
            refine ⟨_, rfl, ?_⟩
            refine hK.out _ _ trivial (fun hHeld => ?_)
            clear hK K
            refine norm_ (a' := ?_) ?_ ?_
            rotate_left
            · show Act.put _ (some 34) _ = _
              simp only [Act.put, List.setIfInBounds_toArray, List.set_cons_zero, List.set_cons_succ, i64_w, i32_w]
              rfl
            refine hJ w1.heap.size _ ?_
            exact below_step (below_drew1 (below_alloc (Below.refl w1.heap.size w1) _)) hb
          · refine call_ 31 #[.int .i64 1] (by rfl) rfl ?_ ?_
            · go_simp
              try rfl
            refine (simple_calls 1 _).mono ?_
            rintro e w2 ⟨rfl, hb⟩
            refine ⟨_, rfl, ?_⟩
            refine hK.out _ _ trivial (fun hHeld => ?_)
            clear hK K
            refine norm_ (a' := ?_) ?_ ?_
            rotate_left
            · show Act.put _ (some 34) _ = _
              simp only [Act.put, List.setIfInBounds_toArray, List.set_cons_zero, List.set_cons_succ, i64_w, i32_w]
              rfl
            refine one_ (i := 10) (N := some 33) #[true, true, true, true, true, true, true, true, true, true, true, true, false, false, false, false] rfl rfl (by kernel_rfl) (by decide) (fun K hK => ?_)
            refine value_ (w1 := ?_) (v := .string (nm i)) (by rfl) rfl ?_ ?_
            rotate_left
            · go_simp
              rw [conv2 hi4 (blk_below (blk_drew (heap_alloc_new w1 _)) hb)]
              rfl
            refine hK.out _ _ trivial (fun hHeld => ?_)
            clear hK K
            refine norm_ (a' := ?_) ?_ ?_
            rotate_left
            · show Act.put _ (some 33) _ = _
              simp only [Act.put, List.setIfInBounds_toArray, List.set_cons_zero, List.set_cons_succ, i64_w, i32_w]
              rfl
            refine hJ w1.heap.size _ ?_
            exact below_step (below_drew1 (below_alloc (Below.refl w1.heap.size w1) _)) hb
        · refine call_ 31 #[.int .i64 1] (by rfl) rfl ?_ ?_
          · go_simp
            try rfl
          refine (simple_calls 1 _).mono ?_
          rintro e w2 ⟨rfl, hb⟩
          refine ⟨_, rfl, ?_⟩
          refine hK.out _ _ trivial (fun hHeld => ?_)
          clear hK K
          refine norm_ (a' := ?_) ?_ ?_
          rotate_left
          · show Act.put _ (some 34) _ = _
            simp only [Act.put, List.setIfInBounds_toArray, List.set_cons_zero, List.set_cons_succ, i64_w, i32_w]
            rfl
          refine one_ (i := 9) (N := some 32) #[true, true, true, true, true, true, true, true, true, true, false, true, false, false, false, false] rfl rfl (by kernel_rfl) (by decide) (fun K hK => ?_)
          refine value_ (w1 := ?_) (v := ?_) (by rfl) rfl ?_ ?_
          rotate_left 2
          · go_simp
            constructor
            · rfl
            · rfl
          refine hK.out _ _ trivial (fun hHeld => ?_)
          clear hK K
          refine norm_ (a' := ?_) ?_ ?_
          rotate_left
          · show Act.put _ (some 32) _ = _
            simp only [Act.put, List.setIfInBounds_toArray, List.set_cons_zero, List.set_cons_succ, i64_w, i32_w]
            rfl
          refine one_ (i := 10) (N := some 33) #[true, true, true, true, true, true, true, true, true, true, true, true, false, false, false, false] rfl rfl (by kernel_rfl) (by decide) (fun K hK => ?_)
          refine value_ (w1 := ?_) (v := .string (nm i)) (by rfl) rfl ?_ ?_
          rotate_left
          · go_simp
            rw [conv2 hi4 (heap_alloc_new w2 _)]
            rfl
          refine hK.out _ _ trivial (fun hHeld => ?_)
          clear hK K
          refine norm_ (a' := ?_) ?_ ?_
          rotate_left
          · show Act.put _ (some 33) _ = _
            simp only [Act.put, List.setIfInBounds_toArray, List.set_cons_zero, List.set_cons_succ, i64_w, i32_w]
            rfl
          refine hJ w2.heap.size _ ?_
          exact below_alloc (below_step (below_drew1 (Below.refl w1.heap.size w1)) hb) _
      refine norm_ (a' := ?_) ?_ ?_
      rotate_left
      · simp only [putAll, Act.put, List.setIfInBounds_toArray, List.set_cons_zero, List.set_cons_succ]
        rfl
      have m3 := Aside0.mk (Kd.R_below n3_.out hF)
      have m4 := Aside0.mk (Kd.R_below n4_.out hF)
      have mB := Aside0.mk (below_step nB_.out hF)
      have hsz := hF.size
      clear n3_ n4_ nB_ hF
      refine pure_ (i := 12) (N := some 35) (v := ?_) (a' := ?_) #[true, true, true, true, true, true, true, true, true, true, true, true, true, false, false, false] rfl rfl (by kernel_rfl) (fun _ _ _ h => h) (Or.inl ⟨by rfl, ?_⟩) ?_ ?_
      rotate_left
      · intro w'
        go_simp
        with_reducible rfl
      rotate_left
      · simp only [Act.put, List.setIfInBounds_toArray, List.set_cons_zero, List.set_cons_succ, i64_w, i32_w]
        rfl
      refine one_ (i := 13) (N := some 36) #[true, true, true, true, true, true, true, true, true, true, true, true, true, true, false, false] rfl rfl (by kernel_rfl) (by decide) (fun K hK => ?_)
      refine value_ (w1 := ?_) (v := ?_) (by rfl) rfl ?_ ?_
      rotate_left 2
      · go_simp
        constructor
        · rfl
        · rfl
      refine hK.out _ _ trivial (fun hHeld => ?_)
      clear hK K
      refine norm_ (a' := ?_) ?_ ?_
      rotate_left
      · show Act.put _ (some 36) _ = _
        simp only [Act.put, List.setIfInBounds_toArray, List.set_cons_zero, List.set_cons_succ, i64_w, i32_w]
        rfl
      refine one_ (i := 14) (N := some 37) #[true, true, true, true, true, true, true, true, true, true, true, true, true, true, true, false] rfl rfl (by kernel_rfl) (by decide) (fun K hK => ?_)
      refine Kd.R_append_step k45 (w0 := w) w.heap.size (by rfl) (.tmp 23) (.tmp 36) 43 45 (.agg #[.string ⟨#[]⟩, .int .i64 0, .int .i64 0, .slice none 0 0, .slice none 0 0]) 80 rfl Tryd.underlying43 info45 rfl (Nat.zero_lt_succ 4) (by decide) (.slice A4 Q.length c4) Q (slotA i) [.string (nm i), .int .i64 1, .int .i64 0, .slice none 0 0, .slice none 0 0] (fun k => some k ≠ (Value.slice A1 P'.length d1).ownBlock) (fun k => False) rfl rfl (k45_mkM _ _ _ (slotA i) (Kd.R_nil _ _ _ _ _) (Kd.R_nil _ _ _ _ _)) (fun _ h => h.elim) (fun k hk e => by have := hown k e.symm; omega) m4.out mB.out mB.out.size (by have := HL4.out; omega) ?_
      intro v4' w4 ho hb4 hg hat
      rw [← HN4.out] at ho
      have p3 := Aside0.mk (Kd.R_over' m3.out (Kd.R_typed m4.out) (by decide) hg)
      have p4 := Aside0.mk ho
      have pB := Aside0.mk hb4
      clear ho hb4 hg hat m3 m4 mB
      refine hK.out _ _ trivial (fun hHeld => ?_)
      clear hK K
      refine norm_ (a' := ?_) ?_ ?_
      rotate_left
      · show Act.put _ (some 37) _ = _
        simp only [Act.put, List.setIfInBounds_toArray, List.set_cons_zero, List.set_cons_succ, i64_w, i32_w]
        rfl
      refine pure_ (i := 15) (N := some 4) (v := ?_) (a' := ?_) #[true, true, true, true, true, true, true, true, true, true, true, true, true, true, true, true] rfl rfl (by kernel_rfl) (fun _ _ _ h => h) (Or.inl ⟨by rfl, ?_⟩) ?_ ?_
      rotate_left
      · intro w'
        go_simp
        with_reducible rfl
      rotate_left
      · simp only [Act.put, List.setIfInBounds_toArray, List.set_cons_zero, List.set_cons_succ, i64_w, i32_w]
        rfl
      refine done_ (by kernel_rfl) ?_
      try go_wp2
      go_roundw
      case measure => simp [RowKit.intOf]; omega
      case rel => exact ⟨i + 1, _, _, by go_num, hi, rfl, rfl, pB, ⟨by rw [HPe.out]; exact p3.out⟩, p4⟩
    · obtain rfl : i = n := by omega
      have hlt : ((i : Int) < (i : Int)) = False := by simp
      obtain ⟨A3, c3, e3, hc3, hC3⟩ := Kd.R_reads R3.out
      subst e3
      obtain ⟨A4, c4, e4, hc4, hC4⟩ := Kd.R_reads R4.out
      subst e4
      have HC3 := Aside0.mk hC3
      have HC4 := Aside0.mk hC4
      clear hC3 hC4 R3 R4
      rw [insts_len, slotsA_len]
      by_cases h1 : i = 1
      · subst h1
        have hu : Aside0 (unionT (insts 1) = (⟨11, 0, [], []⟩, 0)) := ⟨by rw [union_insts (by decide)]; rfl⟩
        have hv : Aside0 (recordT ((slotsA 1).map slOf) = (⟨8, 0, (List.range 1).map nm, (List.range 1).map fun _ => (⟨1, 0, [], []⟩ : Ty)⟩, 0)) := ⟨by rw [record_slots (by decide)]; rfl⟩
        go_wp2_with (go_at_call 24; refine holdT_ ?_)
        unfold HeldT
        have hU := union_shape hu.out HC3.out hc3 (by rw [insts_w]; omega)
        rw [insts_len] at hU
        refine hU.mono ?_
        rintro e w2 ⟨UA, uc, UB, ud, rfl, hb⟩
        clear hU
        have HB2 := Aside0.mk (below_alloc (below_step HB.out hb) (.cells #[.int .i64 11, .int .i64 0, .slice UA 0 uc, .slice UB 0 ud] 25))
        have HC5 := Aside0.mk (Kd.C_below HC4.out (below_alloc hb (.cells #[.int .i64 11, .int .i64 0, .slice UA 0 uc, .slice UB 0 ud] 25)))
        have BU := Aside0.mk (heap_alloc_new w2 (.cells #[.int .i64 11, .int .i64 0, .slice UA 0 uc, .slice UB 0 ud] 25))
        go_wp2_with (go_at_call 28; refine holdT_ ?_)
        unfold HeldT
        have hV := record_shape hv.out HC5.out hc4 (by rw [slots_w]; omega)
        rw [slotsA_len] at hV
        refine hV.mono ?_
        rintro e w3 ⟨RA, rc, RB, rd, rfl, hb2⟩
        clear hV
        have BU3 := Aside0.mk (blk_alloc (blk_below BU.out hb2) (.cells #[.int .i64 8, .int .i64 0, .slice RA 1 rc, .slice RB 1 rd] 25))
        have BR := Aside0.mk (heap_alloc_new w3 (.cells #[.int .i64 8, .int .i64 0, .slice RA 1 rc, .slice RB 1 rd] 25))
        have HB3 := Aside0.mk (below_alloc (below_step HB2.out hb2) (.cells #[.int .i64 8, .int .i64 0, .slice RA 1 rc, .slice RB 1 rd] 25))
        have z1 : (w3.alloc (.cells #[.int .i64 8, .int .i64 0, .slice RA 1 rc, .slice RB 1 rd] 25)).cell? ⟨w2.heap.size, 3, none⟩ = some (.slice UB 0 ud) := (blk_cell BU3.out 3).trans rfl
        have z2 : (w3.alloc (.cells #[.int .i64 8, .int .i64 0, .slice RA 1 rc, .slice RB 1 rd] 25)).cell? ⟨w3.heap.size, 3, none⟩ = some (.slice RB 1 rd) := (blk_cell BR.out 3).trans rfl
        haveI := GW.of HB3.out
        go_wp2_with (go_at_call 20; refine holdT_ ?_)
        unfold HeldT
        refine (sure_calls _).mono ?_
        rintro e w4 ⟨rfl, hb3⟩
        go_wp2
        go_ret
        exact ⟨rfl, below_step HB3.out hb3⟩
      · by_cases h2 : i ≤ 299
        · have g1 : ((i : Int) ≤ 299) = True := by simp; omega
          have g2 : ((i : Int) == 1) = false := by simp; omega
          have hu : Aside0 (unionT (insts i) = (⟨10, 0, [], insts i⟩, 0)) := ⟨by rw [union_insts (by omega), if_neg h1, if_neg (by omega)]⟩
          have hv : Aside0 (recordT ((slotsA i).map slOf) = (⟨8, 0, (List.range i).map nm, (List.range i).map fun _ => (⟨1, 0, [], []⟩ : Ty)⟩, 0)) := ⟨by rw [record_slots (by omega), if_neg (by omega)]⟩
          go_wp2_with (go_at_call 24; refine holdT_ ?_)
          unfold HeldT
          have hU := union_shape hu.out HC3.out hc3 (by rw [insts_w]; omega)
          rw [insts_len] at hU
          refine hU.mono ?_
          rintro e w2 ⟨UA, uc, UB, ud, rfl, hb⟩
          clear hU
          have HB2 := Aside0.mk (below_alloc (below_step HB.out hb) (.cells #[.int .i64 10, .int .i64 0, .slice UA 0 uc, .slice UB i ud] 25))
          have HC5 := Aside0.mk (Kd.C_below HC4.out (below_alloc hb (.cells #[.int .i64 10, .int .i64 0, .slice UA 0 uc, .slice UB i ud] 25)))
          have BU := Aside0.mk (heap_alloc_new w2 (.cells #[.int .i64 10, .int .i64 0, .slice UA 0 uc, .slice UB i ud] 25))
          go_wp2_with (go_at_call 28; refine holdT_ ?_)
          unfold HeldT
          have hV := record_shape hv.out HC5.out hc4 (by rw [slots_w]; omega)
          rw [slotsA_len] at hV
          refine hV.mono ?_
          rintro e w3 ⟨RA, rc, RB, rd, rfl, hb2⟩
          clear hV
          have BU3 := Aside0.mk (blk_alloc (blk_below BU.out hb2) (.cells #[.int .i64 8, .int .i64 0, .slice RA i rc, .slice RB i rd] 25))
          have BR := Aside0.mk (heap_alloc_new w3 (.cells #[.int .i64 8, .int .i64 0, .slice RA i rc, .slice RB i rd] 25))
          have HB3 := Aside0.mk (below_alloc (below_step HB2.out hb2) (.cells #[.int .i64 8, .int .i64 0, .slice RA i rc, .slice RB i rd] 25))
          have z1 : (w3.alloc (.cells #[.int .i64 8, .int .i64 0, .slice RA i rc, .slice RB i rd] 25)).cell? ⟨w2.heap.size, 3, none⟩ = some (.slice UB i ud) := (blk_cell BU3.out 3).trans rfl
          have z2 : (w3.alloc (.cells #[.int .i64 8, .int .i64 0, .slice RA i rc, .slice RB i rd] 25)).cell? ⟨w3.heap.size, 3, none⟩ = some (.slice RB i rd) := (blk_cell BR.out 3).trans rfl
          haveI := GW.of HB3.out
          go_wp2_with (go_at_call 20; refine holdT_ ?_)
          unfold HeldT
          refine (sure_calls _).mono ?_
          rintro e w4 ⟨rfl, hb3⟩
          go_wp2
          go_ret
          exact ⟨rfl, below_step HB3.out hb3⟩
        · have g1 : ((i : Int) ≤ 299) = False := by simp; omega
          have g2 : ((i : Int) == 1) = false := by simp; omega
          have hu : Aside0 (unionT (insts i) = (⟨0, 0, [], []⟩, 3)) := ⟨by rw [union_insts (by omega), if_neg h1, if_pos (by omega)]; rfl⟩
          have hv : Aside0 (recordT ((slotsA i).map slOf) = (⟨0, 0, [], []⟩, 3)) := ⟨by rw [record_slots (by omega), if_pos (by omega)]; rfl⟩
          go_wp2_with (go_at_call 24; refine holdT_ ?_)
          unfold HeldT
          have hU := union_shape hu.out HC3.out hc3 (by rw [insts_w]; omega)
          rw [insts_len] at hU
          refine hU.mono ?_
          rintro e w2 ⟨UA, uc, UB, ud, rfl, hb⟩
          clear hU
          have HB2 := Aside0.mk (below_alloc (below_step HB.out hb) (.cells #[.int .i64 0, .int .i64 0, .slice UA 0 uc, .slice UB 0 ud] 25))
          have HC5 := Aside0.mk (Kd.C_below HC4.out (below_alloc hb (.cells #[.int .i64 0, .int .i64 0, .slice UA 0 uc, .slice UB 0 ud] 25)))
          have BU := Aside0.mk (heap_alloc_new w2 (.cells #[.int .i64 0, .int .i64 0, .slice UA 0 uc, .slice UB 0 ud] 25))
          go_wp2_with (go_at_call 28; refine holdT_ ?_)
          unfold HeldT
          have hV := record_shape hv.out HC5.out hc4 (by rw [slots_w]; omega)
          rw [slotsA_len] at hV
          refine hV.mono ?_
          rintro e w3 ⟨RA, rc, RB, rd, rfl, hb2⟩
          clear hV
          have BU3 := Aside0.mk (blk_alloc (blk_below BU.out hb2) (.cells #[.int .i64 0, .int .i64 0, .slice RA 0 rc, .slice RB 0 rd] 25))
          have BR := Aside0.mk (heap_alloc_new w3 (.cells #[.int .i64 0, .int .i64 0, .slice RA 0 rc, .slice RB 0 rd] 25))
          have HB3 := Aside0.mk (below_alloc (below_step HB2.out hb2) (.cells #[.int .i64 0, .int .i64 0, .slice RA 0 rc, .slice RB 0 rd] 25))
          have z1 : (w3.alloc (.cells #[.int .i64 0, .int .i64 0, .slice RA 0 rc, .slice RB 0 rd] 25)).cell? ⟨w2.heap.size, 3, none⟩ = some (.slice UB 0 ud) := (blk_cell BU3.out 3).trans rfl
          have z2 : (w3.alloc (.cells #[.int .i64 0, .int .i64 0, .slice RA 0 rc, .slice RB 0 rd] 25)).cell? ⟨w3.heap.size, 3, none⟩ = some (.slice RB 0 rd) := (blk_cell BR.out 3).trans rfl
          haveI := GW.of HB3.out
          go_wp2_with (go_at_call 20; refine holdT_ ?_)
          unfold HeldT
          refine (sure_calls _).mono ?_
          rintro e w4 ⟨rfl, hb3⟩
          go_wp2
          go_ret
          exact ⟨rfl, below_step HB3.out hb3⟩
end Go.Proofs.YtjcajpkgamolkaaDoor.Ty
