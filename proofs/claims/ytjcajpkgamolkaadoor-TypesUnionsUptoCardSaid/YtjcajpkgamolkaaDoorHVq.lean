/- HV, as this claim needs it. -/
import Derived.Test.YtjcajpkgamolkaaDoorHAq
import Derived.Test.YtjcajpkgamolkaaDoorHBq
import Derived.Test.YtjcajpkgamolkaaDoorHHq
import Derived.Test.YtjcajpkgamolkaaDoorHIq
namespace Go.Proofs.YtjcajpkgamolkaaDoor.Ty
open Go.RowKit Go.Proofs.YtjcajpkgamolkaaDoor.PTyp
set_option linter.unusedVariables false
set_option linter.unusedSimpArgs false
def hasAny (l : List Ty) : Bool := l.any (fun t => t.k == 1)
def hasGreat (l : List Ty) : Bool := l.any (fun t => decide (300 < sizeT t))
theorem union_any {m : List Ty} (hne : m ≠ []) (hm : mayTs m = true) (ha : hasAny m = true) : unionT m = (anyT, 0) := by
  have h1 : ¬ m.length = 0 := fun e => hne (List.eq_nil_of_length_eq_zero e)
  unfold unionT
  rw [if_neg h1, if_neg (by rw [hm]; simp)]
  exact if_pos ha
structure Whole (l : List Ty) (a : Ty) : Prop where
  ne : l ≠ []
  may : mayTs l = true
  mayA : mayT a = true
  size : sizeT a ≤ 300
  how : (hasAny l = true ∧ a = anyT) ∨ (hasAny l = false ∧ hasGreat l = false ∧ a = joinT (normT (l.flatMap partsOf)) ∧ partsOf a = normT (l.flatMap partsOf) ∧ a.k ≠ 1)
end Go.Proofs.YtjcajpkgamolkaaDoor.Ty
namespace Go.Proofs.YtjcajpkgamolkaaDoor.Ty
open Go.RowKit Go.Proofs.YtjcajpkgamolkaaDoor.PTyp Go.Proofs.YtjcajpkgamolkaaDoorW.PrintWords Go.Proofs.YtjcajpkgamolkaaDoorW.PrintLast Go.Proofs.YtjcajpkgamolkaaDoorW.PrintMore
attribute [local go_sem] max2_int min2_int max_two min_two max_three min_three max_four min_four
set_option linter.unusedVariables false
set_option linter.unusedSimpArgs false
theorem union_full {l : List Ty} {a : Ty} {E : Int} (hu : unionT l = (a, E)) {W : World} {A : Option Addr} {c : Nat} (hr : Kd.C k25 W A l.length l) (hc : l.length ≤ c) (hw : wTs l ≤ 1000000000000) :
    Calls Tryd.prog 24 #[.slice A l.length c] W fun e w' => ∃ A2 c2 A3 c3, e = .returned (.tuple #[.agg #[.int .i64 a.f0, .int .i64 a.f1, .slice A2 a.f2.length c2, .slice A3 a.f3.length c3], .int .i64 E]) ∧ RowsT w' a A2 c2 A3 c3 ∧ Below W.heap.size W w' := by
  refine (union_calls A c l W hr hc hw).mono ?_
  rw [hu]
  rintro e w' ⟨v2, v3, rfl, h2, h3, hB⟩
  obtain ⟨A2, c2, e2, l2, g2⟩ := Kd.R_reads h2
  obtain ⟨A3, c3, e3, l3, g3⟩ := Kd.R_reads h3
  subst e2
  subst e3
  exact ⟨A2, c2, A3, c3, rfl, ⟨l2, g2, l3, g3⟩, hB⟩
theorem union_w {l : List Ty} {a : Ty} {E : Int} (h : unionT l = (a, E)) : wT a ≤ 1 + wTs l := by
  have hz : wT zeroT = 1 := by decide +kernel
  have hy : wT anyT = 1 := by decide +kernel
  have ej : ∀ u : List Ty, wT (joinT u) ≤ 1 + wTs u := by
    intro u
    unfold joinT
    split
    · rename_i h1
      obtain ⟨x, rfl⟩ := List.length_eq_one_iff.1 h1
      show wT x ≤ _
      rw [wTs_cons, wTs_nil]; omega
    · rw [wT_mk]; show 1 + 0 + wTs u ≤ _; omega
  have h1 := ej (normT (l.flatMap partsOf))
  have h2 := wTs_norm (l.flatMap partsOf)
  have h3 := wTs_flat l
  unfold unionT at h
  repeat' split at h
  all_goals (obtain ⟨rfl, _⟩ := Prod.mk.inj h; omega)
end Go.Proofs.YtjcajpkgamolkaaDoor.Ty
