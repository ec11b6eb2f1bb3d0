/- An argument that is a slice of deeds, opened. -/
import Derived.Test.YtjbolkkbehfnmaaDoorBase
import Derived.Test.YtjbolkkbehfnmaaDoorRows
import Derived.Test.YtjbolkkbehfnmaaDoorHD
import Derived.Carry
import Derived.Deep.Slices
import Derived.WideShapes
namespace Go.Proofs.YtjbolkkbehfnmaaDoor.DeedsIn
open Go.ChangeShapes Go.WideShapes Go.ChangeAt Go.RowKit Go.Deep Go.Proofs.YtjbolkkbehfnmaaDoor.PVal Go.Proofs.YtjbolkkbehfnmaaDoorW.PrintWords Go.Proofs.YtjbolkkbehfnmaaDoorW.PrintLast Go.Proofs.YtjbolkkbehfnmaaDoor.Val
set_option linter.unusedVariables false
set_option linter.unusedSimpArgs false
theorem ce : Tryd.prog.cellsOf 32 = 3 := by kernel_rfl
theorem c3 : Tryd.prog.cellsOf 3 = 1 := by kernel_rfl
theorem c9 : Tryd.prog.cellsOf 9 = 1 := by kernel_rfl
theorem c33 : Tryd.prog.cellsOf 33 = 1 := by kernel_rfl
theorem c34 : Tryd.prog.cellsOf 34 = 1 := by kernel_rfl
theorem c36 : Tryd.prog.cellsOf 36 = 11 := by kernel_rfl
def cells (x : S32) : List Value := [.int .i64 x.f0, .int .i64 x.f1, .string x.f2]
theorem bulk_mem {H : Type} (D : Nat → DataW H) : ∀ (js : List Nat) (i : Nat), i ∈ js → Rows.uptoBulk (D i) ≤ Rows.uptoBulkAll (js.map D)
  | j :: js, i, h => by
    simp only [List.map_cons, Rows.uptoBulkAll]
    rcases List.mem_cons.1 h with rfl | h
    · omega
    · have := bulk_mem D js i h
      omega
theorem bulk_pos {H : Type} (d : DataW H) : 1 ≤ Rows.uptoBulk d := by
  cases d with
  | lit l => cases l <;> simp [Rows.uptoBulk]
  | _ => simp [Rows.uptoBulk]
theorem bulk_len {H : Type} (D : Nat → DataW H) : ∀ (js : List Nat), js.length ≤ Rows.uptoBulkAll (js.map D)
  | [] => Nat.zero_le _
  | j :: js => by
    have := bulk_len D js
    have := bulk_pos (D j)
    simp only [List.map_cons, List.length_cons, Rows.uptoBulkAll]
    omega
set_option maxRecDepth 100000 in
theorem val_of {H : Type} {enc : TypeId × Value → H} {W : World} {n : Nat} {cs : List Value} {z : DataW H × List MemPlace} (hlen : cs.length = 3) (h2 : DataW.trod enc Tryd.prog W 0 (fun _ => true) true n 32 cs = some z) :
    ∃ x : S32, cs = cells x := by
  obtain ⟨xs, k, hk, hxy, _, hxl, hf⟩ := DataW.trod_struct Tryd.underlying32 h2
  match xs, hxl, cs, hlen with
  | [y0, y1, y2], _, [v0, v1, v2], _ =>
    have g0 := hf 0 _ rfl
    have g1 := hf 1 _ rfl
    have g2 := hf 2 _ rfl
    simp [c3, c9] at g0 g1 g2
    obtain ⟨n0, e0, rfl, w0⟩ := DataW.trod_int Tryd.underlying3 g0
    obtain ⟨n1, e1, rfl, w1⟩ := DataW.trod_int Tryd.underlying3 g1
    obtain ⟨s2, e2, rfl, w2⟩ := DataW.trod_string Tryd.underlying9 g2
    obtain rfl := (List.cons.inj e0).1
    obtain rfl := (List.cons.inj e1).1
    obtain rfl := (List.cons.inj e2).1
    exact ⟨⟨n0, n1, s2⟩, rfl⟩
set_option maxRecDepth 100000 in
theorem vals_of {H : Type} {enc : TypeId × Value → H} {W : World} {fuel : Nat} {cs : List Value} {d : DataW H} {p : List MemPlace} (hf : DataW.trod enc Tryd.prog W 0 (fun _ => true) true fuel 34 cs = some (d, p)) :
    ∃ (A : Option Addr) (c : Nat) (xs : List S32), cs = [.slice A xs.length c] ∧ Kd.C k32 W A xs.length xs ∧ xs.length ≤ c ∧ xs.length ≤ Rows.uptoBulk d := by
  rcases open_slice Tryd.underlying34 hf with ⟨rfl, _⟩ | ⟨a, len, cap, m, n, D, Pl, rfl, hb, hl, hm, hmm, hx, hel⟩
  · exact ⟨none, 0, [], rfl, ⟨rfl, by decide, fun h => absurd h (by decide)⟩, Nat.le_refl _, Nat.zero_le _⟩
  · have hmm : m = cap := by rw [hmm]; rfl
    have each : ∀ i, i < m → ∃ x : S32, (∀ j u, (cells x)[j]? = some u → W.cell? ((a.add (i * 3)).add j) = some u) := by
      intro i hi
      obtain ⟨cs, h1, h2⟩ := hel i hi
      rw [ce] at h1
      obtain ⟨_, hlen, hcell⟩ := World.cells?_some h1
      obtain ⟨x, rfl⟩ := val_of hlen h2
      exact ⟨x, fun j u hu => by
        have hj : j < 3 := (List.getElem?_eq_some_iff.1 hu).1
        rw [hcell j hj]
        exact hu⟩
    haveI : Inhabited S32 := ⟨⟨0, 0, ByteArray.empty⟩⟩
    obtain ⟨q, hq⟩ := choose_lt each
    have hlen : ((List.range len).map q).length = len := by simp
    refine ⟨some a, cap, (List.range len).map q, by rw [hlen], ⟨rfl, ?_, fun _ => ⟨a, rfl, fun j x hj => ?_⟩⟩, by rw [hlen]; exact hl, ?_⟩
    · rw [hlen]
      have : maxLen ≤ 9223372036854775807 := by decide
      omega
    · have hj2 : j < len := by
        have := (List.getElem?_eq_some_iff.1 hj).1
        rwa [hlen] at this
      have hx : x = q j := by
        rw [List.getElem?_map, List.getElem?_range hj2] at hj
        exact (Option.some.inj hj).symm
      subst hx
      refine ⟨cells (q j), rfl, k32_mk W (q j), fun i u hu => ?_⟩
      have := (hq j (by omega)) i u hu
      rw [Go.Deep.add_add] at this
      exact this
    · rw [(Prod.mk.inj hx).1, hlen]
      have := bulk_len D (List.range len)
      simp only [Rows.uptoBulk, List.length_range] at this ⊢
      omega
set_option maxRecDepth 100000 in
theorem strs_of {H : Type} {enc : TypeId × Value → H} {W : World} {fuel : Nat} {cs : List Value} {d : DataW H} {p : List MemPlace} (hf : DataW.trod enc Tryd.prog W 0 (fun _ => true) true fuel 33 cs = some (d, p)) :
    ∃ (A : Option Addr) (c : Nat) (xs : List ByteArray), cs = [.slice A xs.length c] ∧ Kd.C Kd.string W A xs.length xs ∧ xs.length ≤ Rows.uptoBulk d := by
  rcases open_slice1 Tryd.underlying33 c9 hf with ⟨rfl, _⟩ | ⟨a, len, cap, m, n, V, D, Pl, rfl, hb, hl, hm, hmm, hx, hel⟩
  · exact ⟨none, 0, [], rfl, ⟨rfl, by decide, fun h => absurd h (by decide)⟩, Nat.zero_le _⟩
  · have hmm : m = cap := by rw [hmm]; rfl
    have each : ∀ i, i < m → ∃ s : ByteArray, W.cell? (a.add i) = some (.string s) := by
      intro i hi
      obtain ⟨h1, h2⟩ := hel i hi
      obtain ⟨s, e, _, _⟩ := DataW.trod_string Tryd.underlying9 h2
      rw [(List.cons.inj e).1] at h1
      exact ⟨s, h1⟩
    obtain ⟨q, hq⟩ := choose_lt each
    have hlen : ((List.range len).map q).length = len := by simp
    refine ⟨some a, cap, (List.range len).map q, by rw [hlen], ⟨rfl, ?_, fun _ => ⟨a, rfl, fun j x hj => ?_⟩⟩, ?_⟩
    · rw [hlen]
      have : maxLen ≤ 9223372036854775807 := by decide
      omega
    · have hj2 : j < len := by
        have := (List.getElem?_eq_some_iff.1 hj).1
        rwa [hlen] at this
      have hx : x = q j := by
        rw [List.getElem?_map, List.getElem?_range hj2] at hj
        exact (Option.some.inj hj).symm
      subst hx
      refine ⟨[.string (q j)], rfl, rfl, fun i u hu => ?_⟩
      have hi : i = 0 := by
        have := (List.getElem?_eq_some_iff.1 hu).1
        simp at this
        omega
      subst hi
      injection hu with hu
      subst hu
      have h_ := hq j (by omega)
      show W.cell? (a.add (j * 1 + 0)) = _
      rw [Nat.mul_one, Nat.add_zero]
      exact h_
    · rw [(Prod.mk.inj hx).1, hlen]
      have := bulk_len D (List.range len)
      simp only [Rows.uptoBulk, List.length_range] at this ⊢
      omega
set_option maxRecDepth 100000 in
theorem deed_of {H : Type} {enc : TypeId × Value → H} {W : World} {n : Nat} {cs : List Value} {a : Addr} {D : DataW H} {Pl : List MemPlace} (h1 : W.cells? 0 a 11 = some cs) (h2 : DataW.trod enc Tryd.prog W 0 (fun _ => true) true n 36 cs = some (D, Pl)) (hbulk : Rows.uptoBulk D ≤ 1048576) :
    ∃ d : Deed, (∀ j u, (deedC d)[j]? = some u → W.cell? (a.add j) = some u) ∧ DeedOk W d ∧ d.l.length ≤ d.lc := by
  obtain ⟨_, hlen, hcell⟩ := World.cells?_some h1
  obtain ⟨xs, k, hk, hxy, _, hxl, hf⟩ := DataW.trod_struct Tryd.underlying36 h2
  match xs, hxl, cs, hlen with
  | [y0, y1, y2, y3, y4, y5, y6], _, [v0, v1, v2, v3, v4, v5, v6, v7, v8, v9, v10], _ =>
    have g0 := hf 0 _ rfl
    have g1 := hf 1 _ rfl
    have g2 := hf 2 _ rfl
    have g3 := hf 3 _ rfl
    have g4 := hf 4 _ rfl
    have g5 := hf 5 _ rfl
    have g6 := hf 6 _ rfl
    simp [c3, c9, ce, c33, c34] at g0 g1 g2 g3 g4 g5 g6
    obtain ⟨n0, e0, rfl, w0⟩ := DataW.trod_int Tryd.underlying3 g0
    obtain ⟨x1, ex1⟩ := val_of rfl g1
    obtain ⟨x2, ex2⟩ := val_of rfl g2
    obtain ⟨s3, e3, rfl, w3⟩ := DataW.trod_string Tryd.underlying9 g3
    obtain ⟨n4, e4, rfl, w4⟩ := DataW.trod_int Tryd.underlying3 g4
    obtain ⟨d5, p5⟩ := y5
    obtain ⟨d6, p6⟩ := y6
    obtain ⟨A5, c5, ns, e5, hN, b5⟩ := strs_of g5
    obtain ⟨A6, c6, l, e6, hC, hc6, b6⟩ := vals_of g6
    obtain rfl := (List.cons.inj e0).1
    simp only [cells, List.cons.injEq, and_true] at ex1 ex2
    obtain ⟨rfl, rfl, rfl⟩ := ex1
    obtain ⟨rfl, rfl, rfl⟩ := ex2
    obtain rfl := (List.cons.inj e3).1
    obtain rfl := (List.cons.inj e4).1
    obtain rfl := (List.cons.inj e5).1
    obtain rfl := (List.cons.inj e6).1
    have eD : D = .agg ([_, _, _, _, _, _, _]) := (Prod.mk.inj hxy).1
    rw [eD] at hbulk
    simp only [Rows.uptoBulk, Rows.uptoBulkAll] at hbulk
    refine ⟨⟨n0, x1, x2, s3, n4, A5, c5, ns, A6, c6, l⟩, fun j u hu => ?_, ⟨hN, hC, ?_, ?_⟩, hc6⟩
    · have hj : j < 11 := (Array.getElem?_eq_some_iff.1 hu).1
      rw [hcell j hj]
      have hu2 : (deedC ⟨n0, x1, x2, s3, n4, A5, c5, ns, A6, c6, l⟩).toList[j]? = some u := by rw [Array.getElem?_toList]; exact hu
      exact hu2
    · show ns.length ≤ 1048576
      omega
    · show l.length ≤ 1048576
      omega
set_option maxRecDepth 100000 in
theorem open_deeds {H : Type} {enc : TypeId × Value → H} {W : World} {b : Nat} {v : Value} {d : DataW H} {p : List MemPlace} (hv : Value.okWide Tryd.prog W .any b 22 v) (h : DataW.Trod enc Tryd.prog W 0 (fun _ => true) true 22 v d p) (hbulk : Rows.uptoBulk d ≤ 1048576) :
    ∃ (A : Option Addr) (c : Nat) (ds : List Deed), v = .slice A ds.length c ∧ Deeds W A ds.length ds ∧ ds.length ≤ 1048576 := by
  obtain ⟨A, len, cap, rfl⟩ := okWide_slice Tryd.underlying22 hv
  obtain ⟨fuel, hf⟩ := h
  have hf : DataW.trod enc Tryd.prog W 0 (fun _ => true) true fuel 22 [.slice A len cap] = some (d, p) := hf
  rcases open_slice Tryd.underlying22 hf with ⟨e, _⟩ | ⟨a, len', cap', m, n, D, Pl, e, hb, hl, hm, hmm, hx, hel⟩
  · obtain ⟨rfl, rfl, rfl⟩ : A = none ∧ len = 0 ∧ cap = 0 := by simpa using e
    exact ⟨none, 0, [], rfl, ⟨rfl, fun i h => absurd h (by simp), fun d h => by cases h⟩, by decide⟩
  · obtain ⟨rfl, rfl, rfl⟩ : A = some a ∧ len = len' ∧ cap = cap' := by simpa using e
    have hmm : m = cap := by rw [hmm]; rfl
    have hall : Rows.uptoBulkAll ((List.range len).map D) ≤ 1048576 := by
      rw [(Prod.mk.inj hx).1] at hbulk
      simp only [Rows.uptoBulk] at hbulk
      omega
    have each : ∀ i, i < len → ∃ x : Deed, (∀ j u, (deedC x)[j]? = some u → W.cell? ((a.add (i * 11)).add j) = some u) ∧ DeedOk W x ∧ x.l.length ≤ x.lc := by
      intro i hi
      obtain ⟨cs, h1, h2⟩ := hel i (by omega)
      rw [c36] at h1
      exact deed_of h1 h2 (Nat.le_trans (bulk_mem D _ i (List.mem_range.2 hi)) hall)
    obtain ⟨q, hq⟩ := choose_lt each
    have hlen : ((List.range len).map q).length = len := by simp
    refine ⟨some a, cap, (List.range len).map q, by rw [hlen], ⟨rfl, fun i hi => ⟨a, rfl, fun j u hu => ?_⟩, fun x hx => ?_⟩, ?_⟩
    · rw [hlen] at hi
      have e1 : ((List.range len).map q).getD i default = q i := by
        rw [List.getD_eq_getElem?_getD, List.getElem?_map, List.getElem?_range hi]
        rfl
      rw [e1] at hu
      have := (hq i hi).1 j u hu
      rw [Go.Deep.add_add] at this
      exact this
    · obtain ⟨i, hi, rfl⟩ := List.mem_map.1 hx
      exact (hq i (List.mem_range.1 hi)).2
    · rw [hlen]
      have := bulk_len D (List.range len)
      rw [List.length_range] at this
      omega
end Go.Proofs.YtjbolkkbehfnmaaDoor.DeedsIn
