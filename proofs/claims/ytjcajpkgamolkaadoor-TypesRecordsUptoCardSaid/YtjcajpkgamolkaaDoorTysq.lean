/- Tys, as this claim needs it. -/
import Derived.Test.YtjcajpkgamolkaaDoorBaseq
import Derived.Test.YtjcajpkgamolkaaDoorRows
import Derived.Test.YtjcajpkgamolkaaDoorHBq
import Derived.Carry
import Derived.Deep.Slices
import Derived.Deep.Strs
import Derived.WideShapes
namespace Go.Proofs.YtjcajpkgamolkaaDoor.Tys
open Go.ChangeShapes Go.WideShapes Go.ChangeAt Go.RowKit Go.Deep Go.Proofs.YtjcajpkgamolkaaDoor.Ty Go.Proofs.YtjcajpkgamolkaaDoor.PTyp Go.Proofs.YtjcajpkgamolkaaDoorW.PrintWords Go.Proofs.YtjcajpkgamolkaaDoorW.PrintLast Go.Proofs.YtjcajpkgamolkaaDoorW.PrintMore
set_option linter.unusedVariables false
set_option linter.unusedSimpArgs false
theorem ce : Tryd.prog.cellsOf 25 = 4 := by kernel_rfl
theorem c3 : Tryd.prog.cellsOf 3 = 1 := by kernel_rfl
theorem c9 : Tryd.prog.cellsOf 9 = 1 := by kernel_rfl
theorem c22 : Tryd.prog.cellsOf 22 = 1 := by kernel_rfl
theorem c23 : Tryd.prog.cellsOf 23 = 1 := by kernel_rfl
theorem all_mem {H : Type} : ∀ {l : List (DataW H)} {d : DataW H}, d ∈ l → Rows.uptoBulk d ≤ Rows.uptoBulkAll l
  | x :: l, d, h => by
    rw [Rows.uptoBulkAll]
    rcases List.mem_cons.1 h with rfl | h
    · omega
    · have := all_mem h; omega
theorem bulk_pos {H : Type} (d : DataW H) : 1 ≤ Rows.uptoBulk d := by
  cases d with
  | lit x => cases x <;> simp [Rows.uptoBulk]
  | _ => simp [Rows.uptoBulk]
theorem sumB_le {H : Type} (S : Nat → ByteArray) : ∀ js : List Nat, sumB (js.map S) ≤ 48 * Rows.uptoBulkAll (H := H) (js.map fun i => .lit (.string (S i).data.toList))
  | [] => Nat.zero_le _
  | i :: js => by
    have := sumB_le (H := H) S js
    simp only [List.map_cons, sumB, Rows.uptoBulkAll, Rows.uptoBulk, Array.length_toList] at this ⊢
    have e : (S i).data.size = (S i).size := rfl
    omega
theorem strs {H : Type} {enc : TypeId × Value → H} {W : World} {n : Nat} {v : Value} {D : DataW H} {Pl : List MemPlace} (h : DataW.trod enc Tryd.prog W 0 (fun _ => true) true n 22 [v] = some (D, Pl)) :
    ∃ (A : Option Addr) (c : Nat) (ns : List ByteArray), v = .slice A ns.length c ∧ ns.length ≤ c ∧ Kd.C Kd.string W A ns.length ns ∧ sumB ns + 48 ≤ 48 * Rows.uptoBulk D := by
  rcases open_strs Tryd.underlying22 Tryd.underlying9 c9 h with ⟨e, e2⟩ | ⟨a, len, cap, m, S, e, hb, hl, hm, hmm, hx, hel⟩
  · obtain rfl := (List.cons.inj e).1
    obtain rfl := (Prod.mk.inj e2).1
    exact ⟨none, 0, [], rfl, Nat.le_refl _, ⟨rfl, by decide, fun h => absurd h (by decide)⟩, by simp [sumB, Rows.uptoBulk]⟩
  · obtain rfl := (List.cons.inj e).1
    obtain rfl := (Prod.mk.inj hx).1
    have hmm : m = cap := by rw [hmm]; rfl
    have hlen : ((List.range len).map S).length = len := by simp
    refine ⟨some a, cap, (List.range len).map S, by rw [hlen], by rw [hlen]; exact hl, ⟨rfl, ?_, fun _ => ⟨a, rfl, fun j x hj => ?_⟩⟩, ?_⟩
    · rw [hlen]
      have : maxLen ≤ 9223372036854775807 := by decide
      omega
    · have hj2 : j < len := by
        have := (List.getElem?_eq_some_iff.1 hj).1
        rwa [hlen] at this
      have hx : x = S j := by
        rw [List.getElem?_map, List.getElem?_range hj2] at hj
        exact (Option.some.inj hj).symm
      subst hx
      refine ⟨[.string (S j)], rfl, rfl, fun i u hu => ?_⟩
      have hi : i = 0 := by
        have := (List.getElem?_eq_some_iff.1 hu).1
        simp at this
        exact this
      subst hi
      have e : u = .string (S j) := by simpa using hu.symm
      subst e
      have := (hel j (by omega)).1
      simpa [show (Kd.string).sz = 1 from rfl] using this
    · have := sumB_le (H := H) S (List.range len)
      simp only [Rows.uptoBulk]
      omega
theorem zTs_le {H : Type} (D : Nat → DataW H) (q : Nat → Ty) : ∀ js : List Nat, (∀ i ∈ js, zT (q i) ≤ 48 * Rows.uptoBulk (D i)) → zTs (js.map q) ≤ 48 * Rows.uptoBulkAll (js.map D)
  | [], _ => by simp [zTs_nil]
  | i :: js, h => by
    have ih := zTs_le D q js (fun j hj => h j (by simp [hj]))
    have h1 := h i (by simp)
    rw [List.map_cons, zTs_cons, List.map_cons, Rows.uptoBulkAll]
    omega
theorem tys {H : Type} {enc : TypeId × Value → H} {W : World} {n : Nat} {v : Value} {D : DataW H} {Pl : List MemPlace} (h : DataW.trod enc Tryd.prog W 0 (fun _ => true) true n 23 [v] = some (D, Pl))
    (ih : ∀ (n : Nat) (cs : List Value) (D' : DataW H) (Pl : List MemPlace), Rows.uptoBulk D' < Rows.uptoBulk D → DataW.trod enc Tryd.prog W 0 (fun _ => true) true n 25 cs = some (D', Pl) → ∃ t : Ty, k25.K W t cs ∧ rngT t = true ∧ zT t ≤ 48 * Rows.uptoBulk D') :
    ∃ (A : Option Addr) (c : Nat) (l : List Ty), v = .slice A l.length c ∧ l.length ≤ c ∧ Kd.C k25 W A l.length l ∧ (∀ t ∈ l, rngT t = true) ∧ zTs l + 48 ≤ 48 * Rows.uptoBulk D := by
  rcases open_slice Tryd.underlying23 h with ⟨e, e2⟩ | ⟨a, len, cap, m, n, F, Pl, e, hb, hl, hm, hmm, hx, hel⟩
  · obtain rfl := (List.cons.inj e).1
    obtain rfl := (Prod.mk.inj e2).1
    exact ⟨none, 0, [], rfl, Nat.le_refl _, ⟨rfl, by decide, fun h => absurd h (by decide)⟩, (fun _ h => by cases h), by simp [zTs_nil, Rows.uptoBulk]⟩
  · obtain rfl := (List.cons.inj e).1
    obtain rfl := (Prod.mk.inj hx).1
    have hmm : m = cap := by rw [hmm]; rfl
    have hlen : ∀ q : Nat → Ty, ((List.range len).map q).length = len := fun q => by simp
    have each : ∀ i, i < len → ∃ t : Ty, (∃ cs, W.cells? 0 (a.add (i * 4)) 4 = some cs ∧ k25.K W t cs) ∧ rngT t = true ∧ zT t ≤ 48 * Rows.uptoBulk (F i) := by
      intro i hi
      obtain ⟨cs, h1, h2⟩ := hel i (by omega)
      rw [ce] at h1
      have hlt : Rows.uptoBulk (F i) < Rows.uptoBulk (.slice ((List.range len).map F) ((List.range (m - len)).map fun j => F (len + j)) : DataW H) := by
        have := all_mem (List.mem_map.2 ⟨i, List.mem_range.2 hi, rfl⟩ : F i ∈ (List.range len).map F)
        simp only [Rows.uptoBulk]
        omega
      obtain ⟨t, h3, h4, h5⟩ := ih n cs (F i) _ hlt h2
      exact ⟨t, ⟨cs, h1, h3⟩, h4, h5⟩
    obtain ⟨q, hq⟩ := choose_lt each
    refine ⟨some a, cap, (List.range len).map q, by rw [hlen], by rw [hlen]; exact hl, ⟨rfl, ?_, fun _ => ⟨a, rfl, fun j x hj => ?_⟩⟩, ?_, ?_⟩
    · rw [hlen]
      have : maxLen ≤ 9223372036854775807 := by decide
      omega
    · have hj2 : j < len := by
        have := (List.getElem?_eq_some_iff.1 hj).1
        rwa [hlen] at this
      have hx : x = q j := by
        rw [List.getElem?_map, List.getElem?_range hj2] at hj
        exact (Option.some.inj hj).symm
      subst hx
      obtain ⟨⟨cs, h1, h2⟩, _⟩ := hq j hj2
      obtain ⟨_, hcl, hcell⟩ := World.cells?_some h1
      refine ⟨cs, hcl, h2, fun i u hu => ?_⟩
      have hi : i < 4 := by
        have := (List.getElem?_eq_some_iff.1 hu).1
        omega
      have := hcell i hi
      rw [hu] at this
      rw [← Go.Deep.add_add]
      exact this
    · intro x hx
      obtain ⟨i, hi, rfl⟩ := List.mem_map.1 hx
      exact (hq i (List.mem_range.1 hi)).2.1
    · have := zTs_le F q (List.range len) (fun i hi => (hq i (List.mem_range.1 hi)).2.2)
      simp only [Rows.uptoBulk]
      omega
set_option maxRecDepth 100000 in
theorem one_ty {H : Type} {enc : TypeId × Value → H} {W : World} : ∀ (N n : Nat) (cs : List Value) (D : DataW H) (Pl : List MemPlace), Rows.uptoBulk D ≤ N → DataW.trod enc Tryd.prog W 0 (fun _ => true) true n 25 cs = some (D, Pl) → ∃ t : Ty, k25.K W t cs ∧ rngT t = true ∧ zT t ≤ 48 * Rows.uptoBulk D := by
  intro N
  induction N with
  | zero => intro n cs D Pl hN _; have := bulk_pos D; omega
  | succ N IH =>
    intro n cs D Pl hN h
    obtain ⟨xs, k, hk, hxy, hcl, hxl, hf⟩ := DataW.trod_struct Tryd.underlying25 h
    rw [ce] at hcl
    match xs, hxl, cs, hcl with
    | [y0, y1, y2, y3], _, [v0, v1, v2, v3], _ =>
      have g0 := hf 0 _ rfl
      have g1 := hf 1 _ rfl
      have g2 := hf 2 _ rfl
      have g3 := hf 3 _ rfl
      simp [c3, c22, c23] at g0 g1 g2 g3
      obtain ⟨n0, e0, rfl, w0⟩ := DataW.trod_int Tryd.underlying3 g0
      obtain ⟨n1, e1, rfl, w1⟩ := DataW.trod_int Tryd.underlying3 g1
      obtain rfl := (List.cons.inj e0).1
      obtain rfl := (List.cons.inj e1).1
      obtain ⟨d2, p2⟩ := y2
      obtain ⟨d3, p3⟩ := y3
      obtain ⟨A2, c2, ns, rfl, hl2, hC2, hs2⟩ := strs g2
      obtain rfl : D = .agg [.lit (.int .i64 n0), .lit (.int .i64 n1), d2, d3] := (Prod.mk.inj hxy).1
      have hb3 : Rows.uptoBulk d3 < Rows.uptoBulk (.agg [.lit (.int .i64 n0), .lit (.int .i64 n1), d2, d3] : DataW H) := by
        have := bulk_pos d2
        simp only [Rows.uptoBulk, Rows.uptoBulkAll]; omega
      obtain ⟨A3, c3, l, rfl, hl3, hC3, hr3, hz3⟩ := tys g3 (fun n cs D' Pl hlt ht => IH n cs D' Pl (by omega) ht)
      refine ⟨⟨n0, n1, ns, l⟩, k25_mk W ⟨n0, n1, ns, l⟩ hl2 hC2 hl3 hC3, ?_, ?_⟩
      · rw [rngT_iff]; exact ⟨bounds_i64 w1, hr3⟩
      · rw [zT_is]
        simp only [Rows.uptoBulk, Rows.uptoBulkAll]
        show 48 + sumB ns + zTs l ≤ _
        omega
end Go.Proofs.YtjcajpkgamolkaaDoor.Tys
