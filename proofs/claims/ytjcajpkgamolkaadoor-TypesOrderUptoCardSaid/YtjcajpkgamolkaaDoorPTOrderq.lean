/- PTOrder, as this claim needs it. -/
import Derived.Test.YtjcajpkgamolkaaDoorPTypx22q
import Derived.Test.YtjcajpkgamolkaaDoorHYq
namespace Go.Proofs.YtjcajpkgamolkaaDoor.Ty
open Go.RowKit Go.Proofs.YtjcajpkgamolkaaDoor.PTyp Go.Proofs.YtjcajpkgamolkaaDoorW.PrintWords Go.Proofs.YtjcajpkgamolkaaDoorW.PrintLast Go.Proofs.YtjcajpkgamolkaaDoorW.PrintMore
set_option linter.unusedVariables false
set_option linter.unusedSimpArgs false
theorem order_j1 (a b : Ty) (ga : rngT a = true) (gb : rngT b = true) (ha : zT a ≤ 8796093022208) (hb : zT b ≤ 8796093022208) : Ev (fun k => gussetlaw14_TypesOrder.j1 k (cmpT a b) false a.f0 a.f1 a.f2 a.f3 b.f0 b.f1 b.f2 b.f3) true := by
  have wa : wT a ≤ 1099511627776 := by have := wT8_le_z a; omega
  have wb : wT b ≤ 1099511627776 := by have := wT8_le_z b; omega
  by_cases h0 : cmpT a b = 0
  · obtain rfl := cmpT_eq h0
    refine Ev.step (f := fun k => (types_Show.f k a.f0 a.f1 a.f2 a.f3).bind fun x => (types_Show.f k a.f0 a.f1 a.f2 a.f3).bind fun y => if x.toList = y.toList then ((types_Size.f k a.f0 a.f1 a.f2 a.f3).bind fun t429 => ((types_Size.f k a.f0 a.f1 a.f2 a.f3).bind fun t430 => (if t429 = t430 then ((gussetlaw14_sure.f).bind fun t431 => (some t431)) else (some false)))) else (some false)) (fun k => by rw [gussetlaw14_TypesOrder.j1, if_neg (by simp), if_pos h0]) ?_
    refine Ev.bind (f := fun k _ => _) (show_ev a ga ha) ?_
    refine Ev.bind (f := fun k _ => _) (show_ev a ga ha) ?_
    simp only [if_true]
    refine Ev.bind (f := fun k _ => _) (size_ev a wa) ?_
    refine Ev.bind (f := fun k _ => _) (size_ev a wa) ?_
    simp only [if_true]
    exact Ev.now true
  · refine Ev.step (f := fun k => some true) (fun k => ?_) (Ev.now true)
    rw [gussetlaw14_TypesOrder.j1, if_neg (by simp), if_neg h0]
    rfl
theorem order_pure (a b c : Ty) (ga : rngT a = true) (gb : rngT b = true) (ha : zT a ≤ 8796093022208) (hb : zT b ≤ 8796093022208) (hc : zT c ≤ 8796093022208) : ∃ k, gussetlaw14_TypesOrder.f k a.f0 a.f1 a.f2 a.f3 b.f0 b.f1 b.f2 b.f3 c.f0 c.f1 c.f2 c.f3 = some true := by
  have wa : wT a ≤ 1099511627776 := by have := wT8_le_z a; omega
  have wb : wT b ≤ 1099511627776 := by have := wT8_le_z b; omega
  have wc : wT c ≤ 1099511627776 := by have := wT8_le_z c; omega
  have hs := cmpT_sk a b
  have ht := cmpT_tr a b c
  have hj : Ev (fun k => gussetlaw14_TypesOrder.j0 k (cmpT a b) (cmpT b c) (cmpT a c) false a.f0 a.f1 a.f2 a.f3 b.f0 b.f1 b.f2 b.f3) true := by
    refine Ev.step (f := fun k => gussetlaw14_TypesOrder.j1 k (cmpT a b) false a.f0 a.f1 a.f2 a.f3 b.f0 b.f1 b.f2 b.f3) (fun k => ?_) (order_j1 a b ga gb ha hb)
    rw [gussetlaw14_TypesOrder.j0, if_neg (by simp)]
    obtain ⟨t1, t2, t3, t4⟩ := ht
    by_cases h1 : cmpT a b ≤ 0
    · by_cases h2 : cmpT b c ≤ 0
      · have h3 := t1 h1 h2
        rw [if_pos h1, if_pos h2, if_neg (by omega)]
        by_cases h4 : cmpT a b < 0
        · have h5 := t2 h4 h2
          rw [if_pos h4, if_neg (by omega)]
          by_cases h6 : cmpT b c < 0
          · rw [if_pos h6, decide_eq_false (by omega)]
          · rw [if_neg h6]
        · rw [if_neg h4]
          by_cases h6 : cmpT b c < 0
          · have h7 := t3 h1 h6
            rw [if_pos h6, decide_eq_false (by omega)]
          · rw [if_neg h6]
      · rw [if_pos h1, if_neg h2]
        by_cases h4 : cmpT a b < 0
        · rw [if_pos h4, if_neg (by omega)]
        · rw [if_neg h4, if_neg (by omega)]
    · rw [if_neg h1, if_neg (by omega)]
  refine Ev.rounds (g := fun k => gussetlaw14_TypesOrder.f k a.f0 a.f1 a.f2 a.f3 b.f0 b.f1 b.f2 b.f3 c.f0 c.f1 c.f2 c.f3) ?_
  unfold gussetlaw14_TypesOrder.f
  refine Ev.bind (f := fun k _ => _) (cmp_ev a b wa wb) ?_
  refine Ev.bind (f := fun k _ => _) (cmp_ev b c wb wc) ?_
  refine Ev.bind (f := fun k _ => _) (cmp_ev a c wa wc) ?_
  obtain ⟨e1, e2, e3⟩ := hs
  simp only [if_neg (show ¬ cmpT a b < -1 by omega), if_neg (show ¬ cmpT a b > 1 by omega)]
  refine Ev.bind (f := fun k _ => _) (cmp_ev b a wb wa) ?_
  rw [e1, wrap_id (-cmpT a b) (by omega)]
  simp only [if_true]
  refine Ev.bind (f := fun k _ => _) (cmp_ev a a wa wa) ?_
  rw [cmpT_self]
  exact hj
end Go.Proofs.YtjcajpkgamolkaaDoor.Ty
