/- HI, as this claim needs it. -/
import Derived.Test.YtjcajpkgamolkaaDoorHCq
import Derived.Test.YtjcajpkgamolkaaDoorHEq
import Derived.Test.YtjcajpkgamolkaaDoorHHq
namespace Go.Proofs.YtjcajpkgamolkaaDoor.Ty
open Go.RowKit Go.Proofs.YtjcajpkgamolkaaDoor.PTyp Go.Proofs.YtjcajpkgamolkaaDoorW.PrintWords Go.Proofs.YtjcajpkgamolkaaDoorW.PrintLast Go.Proofs.YtjcajpkgamolkaaDoorW.PrintMore
set_option linter.unusedVariables false
set_option linter.unusedSimpArgs false
set_option maxHeartbeats 1000000 in
set_option maxRecDepth 100000 in
theorem simple_calls (k : Int) (w : World) : Calls Tryd.prog 31 #[.int .i64 k] w fun e w' => e = .returned (.agg #[.int .i64 k, .int .i64 0, .slice none 0 0, .slice none 0 0]) ∧ Below w.heap.size w w' := by
  have hu25 := Tryd.underlying25
  have hb := Aside0.mk (below_alloc (Below.refl w.heap.size w) (.cells #[.int .i64 k, .int .i64 0, .slice none 0 0, .slice none 0 0] 25))
  have h0 := Aside0.mk (heap_alloc_new w (.cells #[.int .i64 k, .int .i64 0, .slice none 0 0, .slice none 0 0] 25))
  go_enter Tryd.func31, Tryd.ntmps31
  go_wp2
  refine bodyPost_ret (results_cell_row rfl _ _ w.heap.size 25 #[.int .i64 k, .int .i64 0, .slice none 0 0, .slice none 0 0] (0, 0) _ rfl h0.out Tryd.underlying25 rfl (by kernel_rfl)) rfl ?_
  exact ⟨rfl, hb.out⟩
set_option maxHeartbeats 1000000 in
set_option maxRecDepth 100000 in
theorem show_calls (t : Ty) (hm : mayT t = true) (hg : rngT t = true) (hz : zT t ≤ 8796093022208) (A2 A3 : Option Addr) (c2 c3 : Nat) (w : World) [GW w] (hr : RowsT w t A2 c2 A3 c3) :
    Calls Tryd.prog 17 #[.agg #[.int .i64 t.f0, .int .i64 t.f1, .slice A2 t.f2.length c2, .slice A3 t.f3.length c3]] w fun e w' => e = .returned (.string (showT t)) ∧ Below w.heap.size w w' := by
  have hu25 := Tryd.underlying25
  have H := Aside0.mk (show_ok t hm hg (by omega))
  have HR := Aside0.mk hr
  obtain ⟨K0, hK0⟩ := may_ev t (by have := wT8_le_z t; omega)
  have EM := Aside0.mk (hK0 K0 (Nat.le_refl _))
  rw [hm] at EM
  have hB := Aside0.mk (below_alloc (Below.refl w.heap.size w) (.cells #[.int .i64 t.f0, .int .i64 t.f1, .slice A2 t.f2.length c2, .slice A3 t.f3.length c3] 25))
  have B0 := Aside0.mk (heap_alloc_new w (.cells #[.int .i64 t.f0, .int .i64 t.f1, .slice A2 t.f2.length c2, .slice A3 t.f3.length c3] 25))
  have t0 : (w.alloc (.cells #[.int .i64 t.f0, .int .i64 t.f1, .slice A2 t.f2.length c2, .slice A3 t.f3.length c3] 25)).cell? ⟨w.heap.size, 0, none⟩ = some (.int .i64 t.f0) := (blk_cell B0.out 0).trans rfl
  have t1 : (w.alloc (.cells #[.int .i64 t.f0, .int .i64 t.f1, .slice A2 t.f2.length c2, .slice A3 t.f3.length c3] 25)).cell? ⟨w.heap.size, 1, none⟩ = some (.int .i64 t.f1) := (blk_cell B0.out 1).trans rfl
  have t2 : (w.alloc (.cells #[.int .i64 t.f0, .int .i64 t.f1, .slice A2 t.f2.length c2, .slice A3 t.f3.length c3] 25)).cell? ⟨w.heap.size, 2, none⟩ = some (.slice A2 t.f2.length c2) := (blk_cell B0.out 2).trans rfl
  have t3 : (w.alloc (.cells #[.int .i64 t.f0, .int .i64 t.f1, .slice A2 t.f2.length c2, .slice A3 t.f3.length c3] 25)).cell? ⟨w.heap.size, 3, none⟩ = some (.slice A3 t.f3.length c3) := (blk_cell B0.out 3).trans rfl
  clear hm hg hz hr hK0
  go_enter Tryd.func17, Tryd.ntmps17
  go_wp2_with (go_at_call 36; refine holdT_ ?_)
  unfold HeldT
  have rw_ := HR.out.below hB.out
  refine (types_may.calls K0 _ _ _ _ _ _ _ _ _ _ rw_.2.1 rw_.1 rw_.2.2.2 rw_.2.2.1 EM.out).mono ?_
  rintro e w1 ⟨rfl, hb⟩
  have HB1 := Aside0.mk (below_step hB.out hb)
  have BX := Aside0.mk (blk_below B0.out hb)
  clear t0 t1 t2 t3 hb
  have t0 : w1.cell? ⟨w.heap.size, 0, none⟩ = some (.int .i64 t.f0) := (blk_cell BX.out 0).trans rfl
  have t1 : w1.cell? ⟨w.heap.size, 1, none⟩ = some (.int .i64 t.f1) := (blk_cell BX.out 1).trans rfl
  have t2 : w1.cell? ⟨w.heap.size, 2, none⟩ = some (.slice A2 t.f2.length c2) := (blk_cell BX.out 2).trans rfl
  have t3 : w1.cell? ⟨w.heap.size, 3, none⟩ = some (.slice A3 t.f3.length c3) := (blk_cell BX.out 3).trans rfl
  haveI := GW.of HB1.out
  go_wp2_with (go_at_call 38; refine holdT_ ?_)
  unfold HeldT
  refine (H.out A2 c2 A3 c3 _ (HR.out.below HB1.out)).mono ?_
  rintro e w2 ⟨rfl, hb⟩
  go_wp2
  go_ret
  exact ⟨rfl, below_step HB1.out hb⟩
end Go.Proofs.YtjcajpkgamolkaaDoor.Ty
namespace Go.Proofs.YtjcajpkgamolkaaDoor.Ty
open Go.RowKit Go.Proofs.YtjcajpkgamolkaaDoor.PTyp Go.Proofs.YtjcajpkgamolkaaDoorW.PrintWords Go.Proofs.YtjcajpkgamolkaaDoorW.PrintLast Go.Proofs.YtjcajpkgamolkaaDoorW.PrintMore
set_option linter.unusedVariables false
set_option linter.unusedSimpArgs false
abbrev tN : Ty := ⟨2, 0, [], []⟩
abbrev tS : Ty := ⟨3, 0, [], []⟩
abbrev tU : Ty := ⟨10, 0, [], [tN, tS]⟩
abbrev tR : Ty := ⟨8, 0, [⟨#[97]⟩, ⟨#[98]⟩], [tU, tN]⟩
abbrev tL : Ty := ⟨7, 0, [], [tU]⟩
theorem union_sure : unionT [tS, tN, tS] = (tU, 0) := by kernel_rfl
theorem union_none : unionT [] = (zeroT, 1) := by kernel_rfl
theorem record_sure : recordT [(⟨#[98]⟩, tN), (⟨#[97]⟩, tU)] = (tR, 0) := by kernel_rfl
theorem show_u : showT tU = ⟨#[110, 117, 109, 98, 101, 114, 32, 124, 32, 115, 116, 114, 105, 110, 103]⟩ := by decide +kernel
theorem show_r : showT tR = ⟨#[123, 32, 97, 58, 32, 110, 117, 109, 98, 101, 114, 32, 124, 32, 115, 116, 114, 105, 110, 103, 59, 32, 98, 58, 32, 110, 117, 109, 98, 101, 114, 59, 32, 125]⟩ := by decide +kernel
theorem show_ll : showT tL = ⟨#[40, 110, 117, 109, 98, 101, 114, 32, 124, 32, 115, 116, 114, 105, 110, 103, 41, 91, 93]⟩ := by decide +kernel
theorem may_u : mayT tU = true := by decide +kernel
theorem may_r : mayT tR = true := by decide +kernel
theorem may_ll : mayT tL = true := by decide +kernel
theorem size_r : sizeT tR = 5 := by decide +kernel
theorem cmp_ns : cmpT tN tS = -1 := by decide +kernel
theorem check_r : checkT tR = 0 := by decide +kernel
theorem check_z : checkT zeroT = 1 := by decide +kernel
theorem nilC {α : Type} (d : Kd α) (w : World) : d.C w none ([] : List α).length [] := ⟨rfl, Nat.zero_le _, fun h => absurd h (Nat.lt_irrefl 0)⟩
theorem plain_k (w : World) (k : Int) : k25.K w ⟨k, 0, [], []⟩ [.int .i64 k, .int .i64 0, .slice none 0 0, .slice none 0 0] := k25_mk w ⟨k, 0, [], []⟩ (Nat.le_refl _) (nilC _ _) (Nat.le_refl _) (nilC _ _)
theorem four_at {k : Nat} {a b c d : Value} {cs : List Value} {i : Nat} {u : Value} (h : ([a, b, c, d] : List Value)[i]? = some u) (h0 : cs[k]? = some a := by rfl) (h1 : cs[k + 1]? = some b := by rfl) (h2 : cs[k + 2]? = some c := by rfl) (h3 : cs[k + 3]? = some d := by rfl) : cs[k + i]? = some u := by
  match i, h with
  | 0, h => simpa using h0.trans h
  | 1, h => exact h1.trans h
  | 2, h => exact h2.trans h
  | 3, h => exact h3.trans h
theorem five_at {k : Nat} {a b c d f : Value} {cs : List Value} {i : Nat} {u : Value} (h : ([a, b, c, d, f] : List Value)[i]? = some u) (h0 : cs[k]? = some a := by rfl) (h1 : cs[k + 1]? = some b := by rfl) (h2 : cs[k + 2]? = some c := by rfl) (h3 : cs[k + 3]? = some d := by rfl) (h4 : cs[k + 4]? = some f := by rfl) : cs[k + i]? = some u := by
  match i, h with
  | 0, h => simpa using h0.trans h
  | 1, h => exact h1.trans h
  | 2, h => exact h2.trans h
  | 3, h => exact h3.trans h
  | 4, h => exact h4.trans h
theorem row_of {α : Type} {d : Kd α} {w W : World} {g : Nat} {cs : Array Value} {e : TypeId} (hb : W.heap[g]? = some (.cells cs e (0, 0))) {xs : List α} (hn : xs.length ≤ 100) (h : ∀ j x, xs[j]? = some x → ∃ c : List Value, c.length = d.sz ∧ d.K w x c ∧ ∀ i u, c[i]? = some u → cs[j * d.sz + i]? = some u) : ReadsRow (d.K w) d.sz W (some ⟨g, 0, none⟩) xs.length xs := by
  refine ⟨rfl, by omega, fun _ => ⟨_, rfl, fun j x hj => ?_⟩⟩
  obtain ⟨c, h1, h2, h3⟩ := h j x hj
  refine ⟨c, h1, h2, fun i u hu => ?_⟩
  have h4 := h3 i u hu
  rw [add_plain]
  exact (blk_cell hb _).trans h4
theorem union_s {W : World} {g : Nat} (hb : W.heap[g]? = some (.cells #[.int .i64 3, .int .i64 0, .slice none 0 0, .slice none 0 0, .int .i64 2, .int .i64 0, .slice none 0 0, .slice none 0 0, .int .i64 3, .int .i64 0, .slice none 0 0, .slice none 0 0] 25 (0, 0))) :
    Calls Tryd.prog 24 #[.slice (some ⟨g, 0, none⟩) 3 3] W fun e w' => ∃ A2 c2 A3 c3, e = .returned (.tuple #[.agg #[.int .i64 10, .int .i64 0, .slice A2 0 c2, .slice A3 2 c3], .int .i64 0]) ∧ RowsT w' tU A2 c2 A3 c3 ∧ Below W.heap.size W w' := by
  refine (union_calls (some ⟨g, 0, none⟩) 3 [tS, tN, tS] W (row_of (d := k25) hb (by decide) (fun j x hj => ?_)) (Nat.le_refl _) (by decide +kernel)).mono ?_
  · have h3 : j = 0 ∨ j = 1 ∨ j = 2 := by
      have := (List.getElem?_eq_some_iff.1 hj).1
      simp at this; omega
    rcases h3 with rfl | rfl | rfl
    · obtain rfl : tS = x := by simpa using hj
      exact ⟨_, rfl, plain_k W 3, fun i u hu => by rw [show k25.sz = 4 from rfl]; simpa using (four_at (k := 0) hu)⟩
    · obtain rfl : tN = x := by simpa using hj
      exact ⟨_, rfl, plain_k W 2, fun i u hu => by rw [show k25.sz = 4 from rfl]; simpa using (four_at (k := 4) hu)⟩
    · obtain rfl : tS = x := by simpa using hj
      exact ⟨_, rfl, plain_k W 3, fun i u hu => by rw [show k25.sz = 4 from rfl]; simpa using (four_at (k := 8) hu)⟩
  · rw [union_sure]
    rintro e w' ⟨v2, v3, rfl, h2, h3, hB⟩
    obtain ⟨A2, c2, e2, l2, g2⟩ := Kd.R_reads h2
    obtain ⟨A3, c3, e3, l3, g3⟩ := Kd.R_reads h3
    subst e2
    subst e3
    exact ⟨A2, c2, A3, c3, rfl, ⟨l2, g2, l3, g3⟩, hB⟩
theorem union_n (W : World) : Calls Tryd.prog 24 #[.slice none 0 0] W fun e w' => ∃ A2 c2 A3 c3, e = .returned (.tuple #[.agg #[.int .i64 0, .int .i64 0, .slice A2 0 c2, .slice A3 0 c3], .int .i64 1]) ∧ Below W.heap.size W w' := by
  refine (union_calls none 0 [] W (nilC _ _) (Nat.le_refl _) (by decide +kernel)).mono ?_
  rw [union_none]
  rintro e w' ⟨v2, v3, rfl, h2, h3, hB⟩
  obtain ⟨A2, c2, e2, l2, g2⟩ := Kd.R_reads h2
  obtain ⟨A3, c3, e3, l3, g3⟩ := Kd.R_reads h3
  subst e2
  subst e3
  exact ⟨A2, c2, A3, c3, rfl, hB⟩
theorem record_s {W : World} {g : Nat} {A2 A3 : Option Addr} {c2 c3 : Nat} (hr : RowsT W tU A2 c2 A3 c3) (hb : W.heap[g]? = some (.cells #[.string ⟨#[98]⟩, .int .i64 2, .int .i64 0, .slice none 0 0, .slice none 0 0, .string ⟨#[97]⟩, .int .i64 10, .int .i64 0, .slice A2 0 c2, .slice A3 2 c3] 45 (0, 0))) :
    Calls Tryd.prog 28 #[.slice (some ⟨g, 0, none⟩) 2 2] W fun e w' => ∃ A2 c2 A3 c3, e = .returned (.tuple #[.agg #[.int .i64 8, .int .i64 0, .slice A2 2 c2, .slice A3 2 c3], .int .i64 0]) ∧ RowsT w' tR A2 c2 A3 c3 ∧ Below W.heap.size W w' := by
  refine (record_calls (some ⟨g, 0, none⟩) 2 [⟨⟨#[98]⟩, tN⟩, ⟨⟨#[97]⟩, tU⟩] W (row_of (d := k45) hb (by decide) (fun j x hj => ?_)) (Nat.le_refl _) (by decide +kernel)).mono ?_
  · have h3 : j = 0 ∨ j = 1 := by
      have := (List.getElem?_eq_some_iff.1 hj).1
      simp at this; omega
    rcases h3 with rfl | rfl
    · obtain rfl : (⟨⟨#[98]⟩, tN⟩ : S45) = x := by simpa using hj
      exact ⟨_, rfl, k45_mk W ⟨⟨#[98]⟩, tN⟩ (A3 := none) (c3 := 0) (Nat.le_refl _) (nilC _ _) (A4 := none) (c4 := 0) (Nat.le_refl _) (nilC _ _), fun i u hu => by rw [show k45.sz = 5 from rfl]; simpa using (five_at (k := 0) hu)⟩
    · obtain rfl : (⟨⟨#[97]⟩, tU⟩ : S45) = x := by simpa using hj
      exact ⟨_, rfl, k45_mk W ⟨⟨#[97]⟩, tU⟩ hr.1 hr.2.1 hr.2.2.1 hr.2.2.2, fun i u hu => by rw [show k45.sz = 5 from rfl]; simpa using (five_at (k := 5) hu)⟩
  · rw [show ([⟨⟨#[98]⟩, tN⟩, ⟨⟨#[97]⟩, tU⟩] : List S45).map slOf = [(⟨#[98]⟩, tN), (⟨#[97]⟩, tU)] from rfl, record_sure]
    rintro e w' ⟨v2, v3, rfl, h2, h3, hB⟩
    obtain ⟨A2, c2, e2, l2, g2⟩ := Kd.R_reads h2
    obtain ⟨A3, c3, e3, l3, g3⟩ := Kd.R_reads h3
    subst e2
    subst e3
    exact ⟨A2, c2, A3, c3, rfl, ⟨l2, g2, l3, g3⟩, hB⟩
set_option maxHeartbeats 4000000 in
set_option maxRecDepth 100000 in
theorem sure_calls (w : World) [GW w] : Calls Tryd.prog 20 #[] w fun e w' => e = .returned (.bool true) ∧ Below w.heap.size w w' := by
  have hu25 := Tryd.underlying25
  have hu45 := Tryd.underlying45
  go_enter Tryd.func20, Tryd.ntmps20
  go_wp2_with (go_at_call 31; refine holdT_ ?_)
  unfold HeldT
  refine (simple_calls 2 _).mono ?_
  rintro e w1 ⟨rfl, hb1⟩
  go_wp2_with (go_at_call 31; refine holdT_ ?_)
  unfold HeldT
  refine (simple_calls 3 _).mono ?_
  rintro e w2 ⟨rfl, hb2⟩
  have HB2 := Aside0.mk (below_step hb1 hb2)
  clear hb1 hb2
  go_upto_region 2 with (fail)
  have B1 : Aside0 (((w2.alloc (.cells #[.int .i64 2, .int .i64 0, .slice none 0 0, .slice none 0 0] 25)).alloc (.cells #[.int .i64 3, .int .i64 0, .slice none 0 0, .slice none 0 0] 25)).heap[w2.heap.size]? = some (.cells #[.int .i64 2, .int .i64 0, .slice none 0 0, .slice none 0 0] 25 (0, 0))) := ⟨blk_alloc (heap_alloc_new w2 (.cells #[.int .i64 2, .int .i64 0, .slice none 0 0, .slice none 0 0] 25)) _⟩
  have B2 : Aside0 (((w2.alloc (.cells #[.int .i64 2, .int .i64 0, .slice none 0 0, .slice none 0 0] 25)).alloc (.cells #[.int .i64 3, .int .i64 0, .slice none 0 0, .slice none 0 0] 25)).heap[w2.heap.size + 1]? = some (.cells #[.int .i64 3, .int .i64 0, .slice none 0 0, .slice none 0 0] 25 (0, 0))) := ⟨by simpa using heap_alloc_new (w2.alloc (.cells #[.int .i64 2, .int .i64 0, .slice none 0 0, .slice none 0 0] 25)) (.cells #[.int .i64 3, .int .i64 0, .slice none 0 0, .slice none 0 0] 25)⟩
  have HB3 : Aside0 (Below w.heap.size w ((w2.alloc (.cells #[.int .i64 2, .int .i64 0, .slice none 0 0, .slice none 0 0] 25)).alloc (.cells #[.int .i64 3, .int .i64 0, .slice none 0 0, .slice none 0 0] 25))) := ⟨below_alloc (below_alloc HB2.out _) _⟩
  have hg := HB2.out.size
  generalize ((w2.alloc (.cells #[.int .i64 2, .int .i64 0, .slice none 0 0, .slice none 0 0] 25)).alloc (.cells #[.int .i64 3, .int .i64 0, .slice none 0 0, .slice none 0 0] 25)) = w3 at *
  generalize w2.heap.size = g at *
  clear HB2
  have n0 : w3.cell? ⟨g, 0, none⟩ = some (.int .i64 2) := (blk_cell B1.out 0).trans rfl
  have n1 : w3.cell? ⟨g, 1, none⟩ = some (.int .i64 0) := (blk_cell B1.out 1).trans rfl
  have n2 : w3.cell? ⟨g, 2, none⟩ = some (.slice none 0 0) := (blk_cell B1.out 2).trans rfl
  have n3 : w3.cell? ⟨g, 3, none⟩ = some (.slice none 0 0) := (blk_cell B1.out 3).trans rfl
  have s0 : w3.cell? ⟨g + 1, 0, none⟩ = some (.int .i64 3) := (blk_cell B2.out 0).trans rfl
  have s1 : w3.cell? ⟨g + 1, 1, none⟩ = some (.int .i64 0) := (blk_cell B2.out 1).trans rfl
  have s2 : w3.cell? ⟨g + 1, 2, none⟩ = some (.slice none 0 0) := (blk_cell B2.out 2).trans rfl
  have s3 : w3.cell? ⟨g + 1, 3, none⟩ = some (.slice none 0 0) := (blk_cell B2.out 3).trans rfl
  go_wp2_with (go_at_call 24; refine holdT_ ?_)
  unfold HeldT
  refine (union_s (heap_alloc_new w3 (.cells #[.int .i64 3, .int .i64 0, .slice none 0 0, .slice none 0 0, .int .i64 2, .int .i64 0, .slice none 0 0, .slice none 0 0, .int .i64 3, .int .i64 0, .slice none 0 0, .slice none 0 0] 25))).mono ?_
  rintro e w4 ⟨UA, uc, UB, ud, rfl, hU, hb⟩
  have nHB := Aside0.mk (below_step (below_alloc HB3.out (.cells #[.int .i64 3, .int .i64 0, .slice none 0 0, .slice none 0 0, .int .i64 2, .int .i64 0, .slice none 0 0, .slice none 0 0, .int .i64 3, .int .i64 0, .slice none 0 0, .slice none 0 0] 25)) hb)
  have nB1 := Aside0.mk (blk_below (blk_alloc B1.out (.cells #[.int .i64 3, .int .i64 0, .slice none 0 0, .slice none 0 0, .int .i64 2, .int .i64 0, .slice none 0 0, .slice none 0 0, .int .i64 3, .int .i64 0, .slice none 0 0, .slice none 0 0] 25)) hb)
  have nB2 := Aside0.mk (blk_below (blk_alloc B2.out (.cells #[.int .i64 3, .int .i64 0, .slice none 0 0, .slice none 0 0, .int .i64 2, .int .i64 0, .slice none 0 0, .slice none 0 0, .int .i64 3, .int .i64 0, .slice none 0 0, .slice none 0 0] 25)) hb)
  have RU := Aside0.mk hU
  clear n0 s0 n1 s1 n2 s2 n3 s3 B1 B2 HB3 hb hU
  go_upto_region 3 with (fail)
  have B1 : Aside0 ((w4.alloc (.cells #[.int .i64 10, .int .i64 0, .slice UA 0 uc, .slice UB 2 ud] 25)).heap[g]? = some (.cells #[.int .i64 2, .int .i64 0, .slice none 0 0, .slice none 0 0] 25 (0, 0))) := ⟨blk_alloc nB1.out _⟩
  have B2 : Aside0 ((w4.alloc (.cells #[.int .i64 10, .int .i64 0, .slice UA 0 uc, .slice UB 2 ud] 25)).heap[g + 1]? = some (.cells #[.int .i64 3, .int .i64 0, .slice none 0 0, .slice none 0 0] 25 (0, 0))) := ⟨blk_alloc nB2.out _⟩
  have BU : Aside0 ((w4.alloc (.cells #[.int .i64 10, .int .i64 0, .slice UA 0 uc, .slice UB 2 ud] 25)).heap[w4.heap.size]? = some (.cells #[.int .i64 10, .int .i64 0, .slice UA 0 uc, .slice UB 2 ud] 25 (0, 0))) := ⟨heap_alloc_new w4 (.cells #[.int .i64 10, .int .i64 0, .slice UA 0 uc, .slice UB 2 ud] 25)⟩
  have HB5 : Aside0 (Below w.heap.size w (w4.alloc (.cells #[.int .i64 10, .int .i64 0, .slice UA 0 uc, .slice UB 2 ud] 25))) := ⟨below_alloc nHB.out _⟩
  have RU5 := Aside0.mk (RU.out.below (below_alloc (Below.refl w4.heap.size w4) (.cells #[.int .i64 10, .int .i64 0, .slice UA 0 uc, .slice UB 2 ud] 25)))
  generalize (w4.alloc (.cells #[.int .i64 10, .int .i64 0, .slice UA 0 uc, .slice UB 2 ud] 25)) = w5 at *
  generalize w4.heap.size = gu at *
  clear nB1 nB2 nHB RU
  go_wp2_with (go_at_call 24; refine holdT_ ?_)
  unfold HeldT
  refine (union_n w5).mono ?_
  rintro e w6 ⟨ZA, zc, ZB, zd, rfl, hb⟩
  have nB1 := Aside0.mk (blk_below B1.out hb)
  have nB2 := Aside0.mk (blk_below B2.out hb)
  have nBU := Aside0.mk (blk_below BU.out hb)
  have nHB := Aside0.mk (below_step HB5.out hb)
  have RU6 := Aside0.mk (RU5.out.below hb)
  clear B1 B2 BU HB5 RU5 hb
  go_upto_region 4 with (fail)
  have B1 : Aside0 ((w6.alloc (.cells #[.int .i64 0, .int .i64 0, .slice ZA 0 zc, .slice ZB 0 zd] 25)).heap[g]? = some (.cells #[.int .i64 2, .int .i64 0, .slice none 0 0, .slice none 0 0] 25 (0, 0))) := ⟨blk_alloc nB1.out _⟩
  have B2 : Aside0 ((w6.alloc (.cells #[.int .i64 0, .int .i64 0, .slice ZA 0 zc, .slice ZB 0 zd] 25)).heap[g + 1]? = some (.cells #[.int .i64 3, .int .i64 0, .slice none 0 0, .slice none 0 0] 25 (0, 0))) := ⟨blk_alloc nB2.out _⟩
  have BU : Aside0 ((w6.alloc (.cells #[.int .i64 0, .int .i64 0, .slice ZA 0 zc, .slice ZB 0 zd] 25)).heap[gu]? = some (.cells #[.int .i64 10, .int .i64 0, .slice UA 0 uc, .slice UB 2 ud] 25 (0, 0))) := ⟨blk_alloc nBU.out _⟩
  have HB7 : Aside0 (Below w.heap.size w (w6.alloc (.cells #[.int .i64 0, .int .i64 0, .slice ZA 0 zc, .slice ZB 0 zd] 25))) := ⟨below_alloc nHB.out _⟩
  have RU7 := Aside0.mk (RU6.out.below (below_alloc (Below.refl w6.heap.size w6) (.cells #[.int .i64 0, .int .i64 0, .slice ZA 0 zc, .slice ZB 0 zd] 25)))
  generalize (w6.alloc (.cells #[.int .i64 0, .int .i64 0, .slice ZA 0 zc, .slice ZB 0 zd] 25)) = w7 at *
  generalize w6.heap.size = gz at *
  clear nB1 nB2 nBU nHB RU6
  have n0 : w7.cell? ⟨g, 0, none⟩ = some (.int .i64 2) := (blk_cell B1.out 0).trans rfl
  have n1 : w7.cell? ⟨g, 1, none⟩ = some (.int .i64 0) := (blk_cell B1.out 1).trans rfl
  have n2 : w7.cell? ⟨g, 2, none⟩ = some (.slice none 0 0) := (blk_cell B1.out 2).trans rfl
  have n3 : w7.cell? ⟨g, 3, none⟩ = some (.slice none 0 0) := (blk_cell B1.out 3).trans rfl
  have u0 : w7.cell? ⟨gu, 0, none⟩ = some (.int .i64 10) := (blk_cell BU.out 0).trans rfl
  have u1 : w7.cell? ⟨gu, 1, none⟩ = some (.int .i64 0) := (blk_cell BU.out 1).trans rfl
  have u2 : w7.cell? ⟨gu, 2, none⟩ = some (.slice UA 0 uc) := (blk_cell BU.out 2).trans rfl
  have u3 : w7.cell? ⟨gu, 3, none⟩ = some (.slice UB 2 ud) := (blk_cell BU.out 3).trans rfl
  go_wp2_with (go_at_call 28; refine holdT_ ?_)
  unfold HeldT
  have RU7a := RU7.out.below (below_alloc (Below.refl w7.heap.size w7) (.cells #[.string ⟨#[98]⟩, .int .i64 2, .int .i64 0, .slice none 0 0, .slice none 0 0, .string ⟨#[97]⟩, .int .i64 10, .int .i64 0, .slice UA 0 uc, .slice UB 2 ud] 45))
  refine (record_s RU7a (heap_alloc_new w7 (.cells #[.string ⟨#[98]⟩, .int .i64 2, .int .i64 0, .slice none 0 0, .slice none 0 0, .string ⟨#[97]⟩, .int .i64 10, .int .i64 0, .slice UA 0 uc, .slice UB 2 ud] 45))).mono ?_
  rintro e w8 ⟨RA, rc, RB, rd, rfl, hR, hb⟩
  have nB1 := Aside0.mk (blk_below (blk_alloc B1.out (.cells #[.string ⟨#[98]⟩, .int .i64 2, .int .i64 0, .slice none 0 0, .slice none 0 0, .string ⟨#[97]⟩, .int .i64 10, .int .i64 0, .slice UA 0 uc, .slice UB 2 ud] 45)) hb)
  have nB2 := Aside0.mk (blk_below (blk_alloc B2.out (.cells #[.string ⟨#[98]⟩, .int .i64 2, .int .i64 0, .slice none 0 0, .slice none 0 0, .string ⟨#[97]⟩, .int .i64 10, .int .i64 0, .slice UA 0 uc, .slice UB 2 ud] 45)) hb)
  have nBU := Aside0.mk (blk_below (blk_alloc BU.out (.cells #[.string ⟨#[98]⟩, .int .i64 2, .int .i64 0, .slice none 0 0, .slice none 0 0, .string ⟨#[97]⟩, .int .i64 10, .int .i64 0, .slice UA 0 uc, .slice UB 2 ud] 45)) hb)
  have nHB := Aside0.mk (below_step (below_alloc HB7.out (.cells #[.string ⟨#[98]⟩, .int .i64 2, .int .i64 0, .slice none 0 0, .slice none 0 0, .string ⟨#[97]⟩, .int .i64 10, .int .i64 0, .slice UA 0 uc, .slice UB 2 ud] 45)) hb)
  have RU8 := Aside0.mk (RU7a.below hb)
  have RR8 := Aside0.mk hR
  clear B1 B2 BU HB7 RU7 RU7a hb hR n0 u0 n1 u1 n2 u2 n3 u3
  go_upto_region 5 with (fail)
  have B1 : Aside0 ((w8.alloc (.cells #[.int .i64 8, .int .i64 0, .slice RA 2 rc, .slice RB 2 rd] 25)).heap[g]? = some (.cells #[.int .i64 2, .int .i64 0, .slice none 0 0, .slice none 0 0] 25 (0, 0))) := ⟨blk_alloc nB1.out _⟩
  have B2 : Aside0 ((w8.alloc (.cells #[.int .i64 8, .int .i64 0, .slice RA 2 rc, .slice RB 2 rd] 25)).heap[g + 1]? = some (.cells #[.int .i64 3, .int .i64 0, .slice none 0 0, .slice none 0 0] 25 (0, 0))) := ⟨blk_alloc nB2.out _⟩
  have BU : Aside0 ((w8.alloc (.cells #[.int .i64 8, .int .i64 0, .slice RA 2 rc, .slice RB 2 rd] 25)).heap[gu]? = some (.cells #[.int .i64 10, .int .i64 0, .slice UA 0 uc, .slice UB 2 ud] 25 (0, 0))) := ⟨blk_alloc nBU.out _⟩
  have BR : Aside0 ((w8.alloc (.cells #[.int .i64 8, .int .i64 0, .slice RA 2 rc, .slice RB 2 rd] 25)).heap[w8.heap.size]? = some (.cells #[.int .i64 8, .int .i64 0, .slice RA 2 rc, .slice RB 2 rd] 25 (0, 0))) := ⟨heap_alloc_new w8 (.cells #[.int .i64 8, .int .i64 0, .slice RA 2 rc, .slice RB 2 rd] 25)⟩
  have HB9 : Aside0 (Below w.heap.size w (w8.alloc (.cells #[.int .i64 8, .int .i64 0, .slice RA 2 rc, .slice RB 2 rd] 25))) := ⟨below_alloc nHB.out _⟩
  have RU9 := Aside0.mk (RU8.out.below (below_alloc (Below.refl w8.heap.size w8) (.cells #[.int .i64 8, .int .i64 0, .slice RA 2 rc, .slice RB 2 rd] 25)))
  have RR9 := Aside0.mk (RR8.out.below (below_alloc (Below.refl w8.heap.size w8) (.cells #[.int .i64 8, .int .i64 0, .slice RA 2 rc, .slice RB 2 rd] 25)))
  generalize (w8.alloc (.cells #[.int .i64 8, .int .i64 0, .slice RA 2 rc, .slice RB 2 rd] 25)) = w9 at *
  generalize w8.heap.size = gr at *
  clear nB1 nB2 nBU nHB RU8 RR8
  have u0 : w9.cell? ⟨gu, 0, none⟩ = some (.int .i64 10) := (blk_cell BU.out 0).trans rfl
  have u1 : w9.cell? ⟨gu, 1, none⟩ = some (.int .i64 0) := (blk_cell BU.out 1).trans rfl
  have u2 : w9.cell? ⟨gu, 2, none⟩ = some (.slice UA 0 uc) := (blk_cell BU.out 2).trans rfl
  have u3 : w9.cell? ⟨gu, 3, none⟩ = some (.slice UB 2 ud) := (blk_cell BU.out 3).trans rfl
  haveI := GW.of HB9.out
  go_wp2_with (go_at_call 17; refine holdT_ ?_)
  unfold HeldT
  refine (show_calls tU may_u rfl (by decide +kernel) UA UB uc ud _ RU9.out).mono ?_
  rintro e w10 ⟨rfl, hb⟩
  have nB1 := Aside0.mk (blk_below B1.out hb)
  have nB2 := Aside0.mk (blk_below B2.out hb)
  have nBU := Aside0.mk (blk_below BU.out hb)
  have nBR := Aside0.mk (blk_below BR.out hb)
  have HB10 := Aside0.mk (below_step HB9.out hb)
  have RU10 := Aside0.mk (RU9.out.below hb)
  have RR10 := Aside0.mk (RR9.out.below hb)
  clear B1 B2 BU BR HB9 RU9 RR9 hb u0 u1 u2 u3
  have B1 := nB1
  clear nB1
  have B2 := nB2
  clear nB2
  have BU := nBU
  clear nBU
  have BR := nBR
  clear nBR
  rw [show_u]
  have r0 : w10.cell? ⟨gr, 0, none⟩ = some (.int .i64 8) := (blk_cell BR.out 0).trans rfl
  have r1 : w10.cell? ⟨gr, 1, none⟩ = some (.int .i64 0) := (blk_cell BR.out 1).trans rfl
  have r2 : w10.cell? ⟨gr, 2, none⟩ = some (.slice RA 2 rc) := (blk_cell BR.out 2).trans rfl
  have r3 : w10.cell? ⟨gr, 3, none⟩ = some (.slice RB 2 rd) := (blk_cell BR.out 3).trans rfl
  haveI := GW.of HB10.out
  go_wp2_with (go_at_call 17; refine holdT_ ?_)
  unfold HeldT
  refine (show_calls tR may_r rfl (by decide +kernel) RA RB rc rd _ RR10.out).mono ?_
  rintro e w11 ⟨rfl, hb⟩
  have nB1 := Aside0.mk (blk_below B1.out hb)
  have nB2 := Aside0.mk (blk_below B2.out hb)
  have nBU := Aside0.mk (blk_below BU.out hb)
  have nBR := Aside0.mk (blk_below BR.out hb)
  have HB11 := Aside0.mk (below_step HB10.out hb)
  have RU11 := Aside0.mk (RU10.out.below hb)
  have RR11 := Aside0.mk (RR10.out.below hb)
  clear B1 B2 BU BR HB10 RU10 RR10 hb r0 r1 r2 r3
  have B1 := nB1
  clear nB1
  have B2 := nB2
  clear nB2
  have BU := nBU
  clear nBU
  have BR := nBR
  clear nBR
  rw [show_r]
  obtain ⟨Ks, hKs⟩ := size_ev tR (by decide +kernel)
  have ES := Aside0.mk (hKs Ks (Nat.le_refl _))
  rw [size_r] at ES
  clear hKs
  have r0 : w11.cell? ⟨gr, 0, none⟩ = some (.int .i64 8) := (blk_cell BR.out 0).trans rfl
  have r1 : w11.cell? ⟨gr, 1, none⟩ = some (.int .i64 0) := (blk_cell BR.out 1).trans rfl
  have r2 : w11.cell? ⟨gr, 2, none⟩ = some (.slice RA 2 rc) := (blk_cell BR.out 2).trans rfl
  have r3 : w11.cell? ⟨gr, 3, none⟩ = some (.slice RB 2 rd) := (blk_cell BR.out 3).trans rfl
  haveI := GW.of HB11.out
  go_wp2_with (go_at_call 15; refine holdT_ ?_)
  unfold HeldT
  refine (types_Size.calls Ks _ _ _ _ _ _ _ _ _ _ RR11.out.2.1 RR11.out.1 RR11.out.2.2.2 RR11.out.2.2.1 ES.out).mono ?_
  rintro e w12 ⟨rfl, hb⟩
  have nB1 := Aside0.mk (blk_below B1.out hb)
  have nB2 := Aside0.mk (blk_below B2.out hb)
  have nBU := Aside0.mk (blk_below BU.out hb)
  have nBR := Aside0.mk (blk_below BR.out hb)
  have HB12 := Aside0.mk (below_step HB11.out hb)
  have RU12 := Aside0.mk (RU11.out.below hb)
  have RR12 := Aside0.mk (RR11.out.below hb)
  clear B1 B2 BU BR HB11 RU11 RR11 hb r0 r1 r2 r3
  have B1 := nB1
  clear nB1
  have B2 := nB2
  clear nB2
  have BU := nBU
  clear nBU
  have BR := nBR
  clear nBR
  obtain ⟨Kc, hKc⟩ := cmp_ev tN tS (by decide +kernel) (by decide +kernel)
  have EC := Aside0.mk (hKc Kc (Nat.le_refl _))
  rw [cmp_ns] at EC
  clear hKc
  have n0 : w12.cell? ⟨g, 0, none⟩ = some (.int .i64 2) := (blk_cell B1.out 0).trans rfl
  have n1 : w12.cell? ⟨g, 1, none⟩ = some (.int .i64 0) := (blk_cell B1.out 1).trans rfl
  have n2 : w12.cell? ⟨g, 2, none⟩ = some (.slice none 0 0) := (blk_cell B1.out 2).trans rfl
  have n3 : w12.cell? ⟨g, 3, none⟩ = some (.slice none 0 0) := (blk_cell B1.out 3).trans rfl
  have s0 : w12.cell? ⟨g + 1, 0, none⟩ = some (.int .i64 3) := (blk_cell B2.out 0).trans rfl
  have s1 : w12.cell? ⟨g + 1, 1, none⟩ = some (.int .i64 0) := (blk_cell B2.out 1).trans rfl
  have s2 : w12.cell? ⟨g + 1, 2, none⟩ = some (.slice none 0 0) := (blk_cell B2.out 2).trans rfl
  have s3 : w12.cell? ⟨g + 1, 3, none⟩ = some (.slice none 0 0) := (blk_cell B2.out 3).trans rfl
  haveI := GW.of HB12.out
  go_wp2_with (go_at_call 21; refine holdT_ ?_)
  unfold HeldT
  refine (types_Compare.calls Kc 2 0 none 0 [] none 0 [] 3 0 none 0 [] none 0 [] _ _ (nilC _ _) (Nat.le_refl _) (nilC _ _) (Nat.le_refl _) (nilC _ _) (Nat.le_refl _) (nilC _ _) (Nat.le_refl _) EC.out).mono ?_
  rintro e w13 ⟨rfl, hb⟩
  have nB1 := Aside0.mk (blk_below B1.out hb)
  have nB2 := Aside0.mk (blk_below B2.out hb)
  have nBU := Aside0.mk (blk_below BU.out hb)
  have nBR := Aside0.mk (blk_below BR.out hb)
  have HB13 := Aside0.mk (below_step HB12.out hb)
  have RU13 := Aside0.mk (RU12.out.below hb)
  have RR13 := Aside0.mk (RR12.out.below hb)
  clear B1 B2 BU BR HB12 RU12 RR12 hb n0 n1 n2 n3 s0 s1 s2 s3
  have B1 := nB1
  clear nB1
  have B2 := nB2
  clear nB2
  have BU := nBU
  clear nBU
  have BR := nBR
  clear nBR
  obtain ⟨Kk, hKk⟩ := check_ev tR (by decide +kernel)
  have EK := Aside0.mk (hKk Kk (Nat.le_refl _))
  rw [check_r] at EK
  clear hKk
  have r0 : w13.cell? ⟨gr, 0, none⟩ = some (.int .i64 8) := (blk_cell BR.out 0).trans rfl
  have r1 : w13.cell? ⟨gr, 1, none⟩ = some (.int .i64 0) := (blk_cell BR.out 1).trans rfl
  have r2 : w13.cell? ⟨gr, 2, none⟩ = some (.slice RA 2 rc) := (blk_cell BR.out 2).trans rfl
  have r3 : w13.cell? ⟨gr, 3, none⟩ = some (.slice RB 2 rd) := (blk_cell BR.out 3).trans rfl
  haveI := GW.of HB13.out
  go_wp2_with (go_at_call 13; refine holdT_ ?_)
  unfold HeldT
  refine (types_Check.calls Kk _ _ _ _ _ _ _ _ _ _ RR13.out.2.1 RR13.out.1 RR13.out.2.2.2 RR13.out.2.2.1 EK.out).mono ?_
  rintro e w14 ⟨rfl, hb⟩
  have nB1 := Aside0.mk (blk_below B1.out hb)
  have nB2 := Aside0.mk (blk_below B2.out hb)
  have nBU := Aside0.mk (blk_below BU.out hb)
  have nBR := Aside0.mk (blk_below BR.out hb)
  have HB14 := Aside0.mk (below_step HB13.out hb)
  have RU14 := Aside0.mk (RU13.out.below hb)
  have RR14 := Aside0.mk (RR13.out.below hb)
  clear B1 B2 BU BR HB13 RU13 RR13 hb r0 r1 r2 r3
  have B1 := nB1
  clear nB1
  have B2 := nB2
  clear nB2
  have BU := nBU
  clear nBU
  have BR := nBR
  clear nBR
  obtain ⟨Kz, hKz⟩ := check_ev zeroT (by decide +kernel)
  have EZ := Aside0.mk (hKz Kz (Nat.le_refl _))
  rw [check_z] at EZ
  clear hKz
  haveI := GW.of HB14.out
  go_wp2_with (go_at_call 13; refine holdT_ ?_)
  unfold HeldT
  refine (types_Check.calls Kz 0 0 none 0 [] none 0 [] _ _ (nilC _ _) (Nat.le_refl _) (nilC _ _) (Nat.le_refl _) EZ.out).mono ?_
  rintro e w15 ⟨rfl, hb⟩
  have nB1 := Aside0.mk (blk_below B1.out hb)
  have nB2 := Aside0.mk (blk_below B2.out hb)
  have nBU := Aside0.mk (blk_below BU.out hb)
  have nBR := Aside0.mk (blk_below BR.out hb)
  have HB15 := Aside0.mk (below_step HB14.out hb)
  have RU15 := Aside0.mk (RU14.out.below hb)
  have RR15 := Aside0.mk (RR14.out.below hb)
  clear B1 B2 BU BR HB14 RU14 RR14 hb 
  have B1 := nB1
  clear nB1
  have B2 := nB2
  clear nB2
  have BU := nBU
  clear nBU
  have BR := nBR
  clear nBR
  have HL : Aside0 (RowsT (w15.alloc (.cells #[.int .i64 10, .int .i64 0, .slice UA 0 uc, .slice UB 2 ud] 25)) tL none 0 (some ⟨w15.heap.size, 0, none⟩) 1) := ⟨Nat.le_refl _, nilC _ _, Nat.le_refl _, row_of (d := k25) (heap_alloc_new w15 (.cells #[.int .i64 10, .int .i64 0, .slice UA 0 uc, .slice UB 2 ud] 25)) (by decide) (fun j x hj => by
    have hj0 : j = 0 := by
      have := (List.getElem?_eq_some_iff.1 hj).1
      simp at this; omega
    subst hj0
    obtain rfl : tU = x := by simpa using hj
    have RB := RU15.out.below (below_alloc (Below.refl w15.heap.size w15) (.cells #[.int .i64 10, .int .i64 0, .slice UA 0 uc, .slice UB 2 ud] 25))
    exact ⟨_, rfl, k25_mk _ tU RB.1 RB.2.1 RB.2.2.1 RB.2.2.2, fun i u hu => by rw [show k25.sz = 4 from rfl]; simpa using (four_at (k := 0) hu)⟩)⟩
  have u0 : w15.cell? ⟨gu, 0, none⟩ = some (.int .i64 10) := (blk_cell BU.out 0).trans rfl
  have u1 : w15.cell? ⟨gu, 1, none⟩ = some (.int .i64 0) := (blk_cell BU.out 1).trans rfl
  have u2 : w15.cell? ⟨gu, 2, none⟩ = some (.slice UA 0 uc) := (blk_cell BU.out 2).trans rfl
  have u3 : w15.cell? ⟨gu, 3, none⟩ = some (.slice UB 2 ud) := (blk_cell BU.out 3).trans rfl
  haveI := GW.of HB15.out
  go_wp2_with (go_at_call 17; refine holdT_ ?_)
  unfold HeldT
  haveI := GW.of (below_alloc HB15.out (.cells #[.int .i64 10, .int .i64 0, .slice UA 0 uc, .slice UB 2 ud] 25))
  refine (show_calls tL may_ll rfl (by decide +kernel) none (some ⟨w15.heap.size, 0, none⟩) 0 1 _ HL.out).mono ?_
  rintro e w16 ⟨rfl, hb⟩
  have nB1 := Aside0.mk (blk_below (blk_alloc B1.out (.cells #[.int .i64 10, .int .i64 0, .slice UA 0 uc, .slice UB 2 ud] 25)) hb)
  have nB2 := Aside0.mk (blk_below (blk_alloc B2.out (.cells #[.int .i64 10, .int .i64 0, .slice UA 0 uc, .slice UB 2 ud] 25)) hb)
  have nBU := Aside0.mk (blk_below (blk_alloc BU.out (.cells #[.int .i64 10, .int .i64 0, .slice UA 0 uc, .slice UB 2 ud] 25)) hb)
  have nBR := Aside0.mk (blk_below (blk_alloc BR.out (.cells #[.int .i64 10, .int .i64 0, .slice UA 0 uc, .slice UB 2 ud] 25)) hb)
  have HB16 := Aside0.mk (below_step (below_alloc HB15.out (.cells #[.int .i64 10, .int .i64 0, .slice UA 0 uc, .slice UB 2 ud] 25)) hb)
  have RU16 := Aside0.mk (RU15.out.below (below_step (below_alloc (Below.refl w15.heap.size w15) (.cells #[.int .i64 10, .int .i64 0, .slice UA 0 uc, .slice UB 2 ud] 25)) hb))
  have RR16 := Aside0.mk (RR15.out.below (below_step (below_alloc (Below.refl w15.heap.size w15) (.cells #[.int .i64 10, .int .i64 0, .slice UA 0 uc, .slice UB 2 ud] 25)) hb))
  clear B1 B2 BU BR HB15 RU15 RR15 hb u0 u1 u2 u3
  have B1 := nB1
  clear nB1
  have B2 := nB2
  clear nB2
  have BU := nBU
  clear nBU
  have BR := nBR
  clear nBR
  rw [show_ll]
  go_wp2
  go_ret
  exact ⟨rfl, HB16.out⟩
end Go.Proofs.YtjcajpkgamolkaaDoor.Ty
