/- An argument that is a slice of values, opened. -/
import Derived.Test.YtjbolkkbehfnmaaDoorBase
import Derived.Test.YtjbolkkbehfnmaaDoorRows
import Derived.Test.YtjbolkkbehfnmaaDoorVA
import Derived.Carry
import Derived.Deep.Slices
import Derived.WideShapes
namespace Go.Proofs.YtjbolkkbehfnmaaDoor.Vals
open Go.ChangeShapes Go.WideShapes Go.ChangeAt Go.RowKit Go.Deep Go.Proofs.YtjbolkkbehfnmaaDoor.PVal Go.Proofs.YtjbolkkbehfnmaaDoorW.PrintWords Go.Proofs.YtjbolkkbehfnmaaDoorW.PrintLast
set_option linter.unusedVariables false
set_option linter.unusedSimpArgs false
theorem ce : Tryd.prog.cellsOf 32 = 3 := by kernel_rfl
theorem c3 : Tryd.prog.cellsOf 3 = 1 := by kernel_rfl
theorem c9 : Tryd.prog.cellsOf 9 = 1 := by kernel_rfl
/-- A value's datum. -/
def datum {H : Type} (x : S32) : DataW H := .agg [.lit (.int .i64 x.f0), .lit (.int .i64 x.f1), .lit (.string x.f2.data.toList)]
def cells (x : S32) : List Value := [.int .i64 x.f0, .int .i64 x.f1, .string x.f2]
set_option maxRecDepth 100000 in
theorem one_val {H : Type} {enc : TypeId × Value → H} {W : World} {n : Nat} {cs : List Value} {a : Addr} {D : DataW H} {Pl : List MemPlace} (h1 : W.cells? 0 a 3 = some cs) (h2 : DataW.trod enc Tryd.prog W 0 (fun _ => true) true n 32 cs = some (D, Pl)) :
    ∃ x : S32, (∀ j u, (cells x)[j]? = some u → W.cell? (a.add j) = some u) ∧ D = datum x ∧ (Lit.int .i64 x.f1).wf = true := by
  obtain ⟨_, hlen, hcell⟩ := World.cells?_some h1
  obtain ⟨xs, k, hk, hxy, _, hxl, hf⟩ := DataW.trod_struct Tryd.underlying32 h2
  match xs, hxl, cs, hlen with
  | [y0, y1, y2], _, [v0, v1, v2], _ =>
    have g0 := hf 0 _ rfl
    have g1 := hf 1 _ rfl
    have g2 := hf 2 _ rfl
    simp [c3, c9] at g0 g1 g2
    obtain ⟨n0, e0, rfl, w0⟩ := DataW.trod_int Tryd.underlying3 g0
    obtain ⟨n1, e1, rfl, w1⟩ := DataW.trod_int Tryd.underlying3 g1
    obtain ⟨s2, e2, rfl, w2⟩ := DataW.trod_string Tryd.underlying9 g2
    obtain rfl := (List.cons.inj e0).1
    obtain rfl := (List.cons.inj e1).1
    obtain rfl := (List.cons.inj e2).1
    refine ⟨⟨n0, n1, s2⟩, fun j u hu => ?_, ?_, w1⟩
    · have hj : j < 3 := by
        have := (List.getElem?_eq_some_iff.1 hu).1
        exact this
      rw [hcell j hj]
      exact hu
    · exact (Prod.mk.inj hxy).1
def size (xs : List S32) : Nat := (xs.map fun e => e.f2.size + 1).sum
theorem size_le {H : Type} (D : Nat → DataW H) (q : Nat → S32) : ∀ (js : List Nat), (∀ i ∈ js, D i = datum (q i)) → size (js.map q) ≤ Rows.uptoBulkAll (js.map D)
  | [], _ => Nat.zero_le _
  | i :: js, h => by
    have ih := size_le D q js (fun j hj => h j (by simp [hj]))
    unfold size at ih ⊢
    rw [List.map_cons, List.map_cons, List.map_cons, List.sum_cons, h i (by simp)]
    simp only [datum, Rows.uptoBulkAll, Rows.uptoBulk, Array.length_toList]
    have : (q i).f2.data.size = (q i).f2.size := rfl
    omega
set_option maxRecDepth 100000 in
theorem open_vals {H : Type} {enc : TypeId × Value → H} {W : World} {b : Nat} {v : Value} {d : DataW H} {p : List MemPlace} (hv : Value.okWide Tryd.prog W .any b 34 v) (h : DataW.Trod enc Tryd.prog W 0 (fun _ => true) true 34 v d p) :
    ∃ (A : Option Addr) (c : Nat) (xs : List S32), v = .slice A xs.length c ∧ Kd.C k32 W A xs.length xs ∧ xs.length ≤ c ∧ (∀ e ∈ xs, (Lit.int .i64 e.f1).wf = true) ∧ size xs ≤ Rows.uptoBulk d := by
  obtain ⟨A, len, cap, rfl⟩ := okWide_slice Tryd.underlying34 hv
  obtain ⟨fuel, hf⟩ := h
  have hf : DataW.trod enc Tryd.prog W 0 (fun _ => true) true fuel 34 [.slice A len cap] = some (d, p) := hf
  rcases open_slice Tryd.underlying34 hf with ⟨e, _⟩ | ⟨a, len', cap', m, n, D, Pl, e, hb, hl, hm, hmm, hx, hel⟩
  · obtain ⟨rfl, rfl, rfl⟩ : A = none ∧ len = 0 ∧ cap = 0 := by simpa using e
    refine ⟨none, 0, [], rfl, ⟨rfl, by decide, fun h => absurd h (by decide)⟩, Nat.le_refl _, (fun e he => by cases he), Nat.zero_le _⟩
  · obtain ⟨rfl, rfl, rfl⟩ : A = some a ∧ len = len' ∧ cap = cap' := by simpa using e
    have hmm : m = cap := by rw [hmm]; rfl
    have each : ∀ i, i < m → ∃ x : S32, (∀ j u, (cells x)[j]? = some u → W.cell? ((a.add (i * 3)).add j) = some u) ∧ D i = datum x ∧ (Lit.int .i64 x.f1).wf = true := by
      intro i hi
      obtain ⟨cs, h1, h2⟩ := hel i hi
      rw [ce] at h1
      exact one_val h1 h2
    haveI : Inhabited S32 := ⟨⟨0, 0, ByteArray.empty⟩⟩
    obtain ⟨q, hq⟩ := choose_lt each
    have hlen : ((List.range len).map q).length = len := by simp
    refine ⟨some a, cap, (List.range len).map q, by rw [hlen], ⟨rfl, ?_, fun _ => ⟨a, rfl, fun j x hj => ?_⟩⟩, by rw [hlen]; exact hl, ?_, ?_⟩
    · rw [hlen]
      have : maxLen ≤ 9223372036854775807 := by decide
      omega
    · have hj2 : j < len := by
        have := (List.getElem?_eq_some_iff.1 hj).1
        rwa [hlen] at this
      have hx : x = q j := by
        rw [List.getElem?_map, List.getElem?_range hj2] at hj
        exact (Option.some.inj hj).symm
      subst hx
      refine ⟨cells (q j), rfl, k32_mk W (q j), fun i u hu => ?_⟩
      have := (hq j (by omega)).1 i u hu
      rw [Go.Deep.add_add] at this
      exact this
    · intro x hx
      obtain ⟨i, hi, rfl⟩ := List.mem_map.1 hx
      exact (hq i (by have := List.mem_range.1 hi; omega)).2.2
    · rw [(Prod.mk.inj hx).1]
      have := size_le D q (List.range len) (fun i hi => (hq i (by have := List.mem_range.1 hi; omega)).2.1)
      simp only [Rows.uptoBulk]
      omega
theorem wt_le (xs : List S32) : xs.length ≤ size xs := by
  induction xs with
  | nil => exact Nat.zero_le _
  | cons x xs ih =>
    unfold size at ih ⊢
    rw [List.map_cons, List.sum_cons, List.length_cons]
    omega
end Go.Proofs.YtjbolkkbehfnmaaDoor.Vals
