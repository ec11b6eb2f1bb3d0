/- Tysl, as this claim needs it. -/
import Derived.Test.YtjcajpkgamolkaaDoorTysq
import Derived.ChangeSame
import Derived.ChangeArms
namespace Go.Proofs.YtjcajpkgamolkaaDoor.Tys
open Go.ChangeShapes Go.WideShapes Go.ChangeAt Go.RowKit Go.Deep Go.Proofs.YtjcajpkgamolkaaDoor.Ty Go.Proofs.YtjcajpkgamolkaaDoor.PTyp Go.Proofs.YtjcajpkgamolkaaDoorW.PrintWords Go.Proofs.YtjcajpkgamolkaaDoorW.PrintLast Go.Proofs.YtjcajpkgamolkaaDoorW.PrintMore
set_option linter.unusedVariables false
set_option linter.unusedSimpArgs false
theorem c45 : Tryd.prog.cellsOf 45 = 5 := by kernel_rfl
set_option maxRecDepth 100000 in
theorem one_slot {H : Type} {enc : TypeId × Value → H} {W : World} (n : Nat) (cs : List Value) (D : DataW H) (Pl : List MemPlace) (h : DataW.trod enc Tryd.prog W 0 (fun _ => true) true n 45 cs = some (D, Pl)) : ∃ x : S45, k45.K W x cs ∧ zT x.f1 ≤ 48 * Rows.uptoBulk D := by
  obtain ⟨y0, y1, m, hx, hcl, h0, h1⟩ := trod_struct2 Tryd.underlying45 h
  rw [c45] at hcl
  match cs, hcl with
  | [v0, v1, v2, v3, v4], _ =>
    simp [c9, ce] at h0 h1
    obtain ⟨s, e0, e1, _⟩ := DataW.trod_string Tryd.underlying9 h0
    obtain rfl := (List.cons.inj e0).1
    obtain ⟨d1, p1⟩ := y1
    obtain ⟨t, ht, _, hz⟩ := one_ty (Rows.uptoBulk d1) m _ d1 p1 (Nat.le_refl _) h1
    subst e1
    obtain rfl : D = .agg [.lit (.string s.data.toList), d1] := (Prod.mk.inj hx).1
    obtain ⟨A2, c2, A3, c3, e, l2, g2, l3, g3⟩ := k25_open ht
    refine ⟨⟨s, t⟩, ?_, ?_⟩
    · rw [e]; exact k45_mk W ⟨s, t⟩ l2 g2 l3 g3
    · show zT t ≤ _
      simp only [Rows.uptoBulk, Rows.uptoBulkAll]
      omega
theorem slots {H : Type} {enc : TypeId × Value → H} {W : World} {n : Nat} {v : Value} {D : DataW H} {Pl : List MemPlace} (h : DataW.trod enc Tryd.prog W 0 (fun _ => true) true n 43 [v] = some (D, Pl)) :
    ∃ (A : Option Addr) (c : Nat) (l : List S45), v = .slice A l.length c ∧ l.length ≤ c ∧ Kd.C k45 W A l.length l ∧ zTs (l.map (·.f1)) + 48 ≤ 48 * Rows.uptoBulk D := by
  rcases open_slice Tryd.underlying43 h with ⟨e, e2⟩ | ⟨a, len, cap, m, n, F, Pl, e, hb, hl, hm, hmm, hx, hel⟩
  · obtain rfl := (List.cons.inj e).1
    obtain rfl := (Prod.mk.inj e2).1
    exact ⟨none, 0, [], rfl, Nat.le_refl _, ⟨rfl, by decide, fun h => absurd h (by decide)⟩, by simp [zTs_nil, Rows.uptoBulk]⟩
  · obtain rfl := (List.cons.inj e).1
    obtain rfl := (Prod.mk.inj hx).1
    have hmm : m = cap := by rw [hmm]; rfl
    haveI : Inhabited S45 := ⟨⟨⟨#[]⟩, ⟨0, 0, [], []⟩⟩⟩
    have hlen : ∀ q : Nat → S45, ((List.range len).map q).length = len := fun q => by simp
    have each : ∀ i, i < len → ∃ x : S45, (∃ cs, W.cells? 0 (a.add (i * 5)) 5 = some cs ∧ k45.K W x cs) ∧ zT x.f1 ≤ 48 * Rows.uptoBulk (F i) := by
      intro i hi
      obtain ⟨cs, h1, h2⟩ := hel i (by omega)
      rw [c45] at h1
      obtain ⟨x, h3, h4⟩ := one_slot n cs (F i) _ h2
      exact ⟨x, ⟨cs, h1, h3⟩, h4⟩
    obtain ⟨q, hq⟩ := choose_lt each
    refine ⟨some a, cap, (List.range len).map q, by rw [hlen], by rw [hlen]; exact hl, ⟨rfl, ?_, fun _ => ⟨a, rfl, fun j x hj => ?_⟩⟩, ?_⟩
    · rw [hlen]
      have : maxLen ≤ 9223372036854775807 := by decide
      omega
    · have hj2 : j < len := by
        have := (List.getElem?_eq_some_iff.1 hj).1
        rwa [hlen] at this
      have hx : x = q j := by
        rw [List.getElem?_map, List.getElem?_range hj2] at hj
        exact (Option.some.inj hj).symm
      subst hx
      obtain ⟨⟨cs, h1, h2⟩, _⟩ := hq j hj2
      obtain ⟨_, hcl, hcell⟩ := World.cells?_some h1
      refine ⟨cs, hcl, h2, fun i u hu => ?_⟩
      have hi : i < 5 := by
        have := (List.getElem?_eq_some_iff.1 hu).1
        omega
      have := hcell i hi
      rw [hu] at this
      rw [← Go.Deep.add_add]
      exact this
    · have := zTs_le F (fun i => (q i).f1) (List.range len) (fun i hi => (hq i (List.mem_range.1 hi)).2)
      rw [List.map_map]
      simp only [Rows.uptoBulk]
      have e : zTs ((List.range len).map ((fun x => x.f1) ∘ q)) = zTs ((List.range len).map fun i => (q i).f1) := rfl
      rw [e]
      omega
set_option maxRecDepth 100000 in
theorem open_slots {H : Type} {enc : TypeId × Value → H} {W : World} {b : Nat} {v : Value} {d : DataW H} {p : List MemPlace} (hv : Value.okWide Tryd.prog W .any b 43 v) (h : DataW.Trod enc Tryd.prog W 0 (fun _ => true) true 43 v d p) :
    ∃ (A : Option Addr) (c : Nat) (l : List S45), v = .slice A l.length c ∧ l.length ≤ c ∧ Kd.C k45 W A l.length l ∧ zTs (l.map (·.f1)) ≤ 48 * Rows.uptoBulk d := by
  obtain ⟨A, len, cap, rfl⟩ := okWide_slice Tryd.underlying43 hv
  obtain ⟨fuel, hf⟩ := h
  obtain ⟨A', c', l, e, h1, h2, h3⟩ := slots hf
  exact ⟨A', c', l, e, h1, h2, by omega⟩
end Go.Proofs.YtjcajpkgamolkaaDoor.Tys
