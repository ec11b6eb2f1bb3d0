/- POperx5, as this claim needs it. -/
import Derived.Test.YtdheakalfleleaaDoorPOperx0q
namespace Go.Proofs.YtdheakalfleleaaDoor.POper
open Go.RowKit Go.Proofs.YtdheakalfleleaaDoorW.PrintWords Go.Proofs.YtdheakalfleleaaDoorW.PrintLast Go.Proofs.YtdheakalfleleaaDoorW.PrintMore
attribute [local go_sem] max2_int min2_int max_two min_two max_three min_three max_four min_four   -- for this text's walks alone
set_option linter.unusedVariables false
set_option linter.unusedSimpArgs false
def oper_joins.f (a0_0 : Int) (a0_1 : Int) (a0_2 : ByteArray) (a1_0 : Int) (a1_1 : Int) (a1_2 : ByteArray) : Option (Bool) := some (!(a0_0 != 4 && a1_0 != 4) && (decide (0 ≤ a0_0) && decide (a0_0 < 5)) && (decide (0 ≤ a1_0) && decide (a1_0 < 5)))
set_option maxHeartbeats 8000000 in
set_option maxRecDepth 100000 in
theorem oper_joins.calls (a0_0 : Int) (a0_1 : Int) (a0_2 : ByteArray) (a1_0 : Int) (a1_1 : Int) (a1_2 : ByteArray) (r : Bool) (w : World) [GW w] (h : oper_joins.f a0_0 a0_1 a0_2 a1_0 a1_1 a1_2 = some r) :
    Calls Tryd.prog 46 #[.agg #[.int .i64 a0_0, .int .i64 a0_1, .string a0_2], .agg #[.int .i64 a1_0, .int .i64 a1_1, .string a1_2]] w fun e w' => e = .returned (.bool r) ∧ Below w.heap.size w w' := by
  unfold oper_joins.f at h
  obtain rfl := Option.some.inj h
  clear h
  have HT : Aside0 (∀ i : Nat, i < 10 → ((w.alloc (.cells #[.int .i64 a0_0, .int .i64 a0_1, .string a0_2] 23)).alloc (.cells #[.int .i64 a1_0, .int .i64 a1_1, .string a1_2] 23)).cell? ⟨0, i, none⟩ = some (.bool (decide (i < 5)))) := ⟨GW.tk (w := (w.alloc (.cells #[.int .i64 a0_0, .int .i64 a0_1, .string a0_2] 23)).alloc (.cells #[.int .i64 a1_0, .int .i64 a1_1, .string a1_2] 23))⟩
  by_cases c : a0_0 ≠ 4 ∧ a1_0 ≠ 4
  · have e0 : (a0_0 != 4) = true := by simp [c.1]
    have e1 : (a1_0 != 4) = true := by simp [c.2]
    have er : (!(a0_0 != 4 && a1_0 != 4) && (decide (0 ≤ a0_0) && decide (a0_0 < 5)) && (decide (0 ≤ a1_0) && decide (a1_0 < 5))) = false := by simp [e0, e1]
    rw [er]
    clear c er
    go_enter Tryd.func46, Tryd.ntmps46
    go_wp2
    go_ret
    exact ⟨rfl, below_alloc (below_alloc (Below.refl _ _) _) _⟩
  · have ec : (a0_0 != 4 && a1_0 != 4) = false := by
      cases h0 : (a0_0 != 4) <;> cases h1 : (a1_0 != 4) <;> simp_all
    have e01 : (a0_0 != 4) = false ∨ (a0_0 != 4) = true ∧ (a1_0 != 4) = false := by
      cases h0 : (a0_0 != 4) <;> cases h1 : (a1_0 != 4) <;> simp_all
    rw [ec]
    clear c ec
    by_cases x0 : 0 ≤ a0_0
    · by_cases x1 : a0_0 < 10
      · have hx := HT.out a0_0.toNat (by omega)
        have dx0 : decide (0 ≤ a0_0) = true := by simpa using x0
        have dx1 : decide (a0_0 < 10) = true := by simpa using x1
        have tx0 := eq_true x0
        have tx1 := eq_true x1
        by_cases x5 : a0_0 < 5
        · have bx : decide (a0_0.toNat < 5) = true := by simp; omega
          rw [bx] at hx
          have dx5 : decide (a0_0 < 5) = true := by simpa using x5
          by_cases y0 : 0 ≤ a1_0
          · by_cases y1 : a1_0 < 10
            · have hy := HT.out a1_0.toNat (by omega)
              have by_ : decide (a1_0.toNat < 5) = decide (a1_0 < 5) := by
                by_cases h : a1_0 < 5
                · rw [decide_eq_true h, decide_eq_true (by omega)]
                · rw [decide_eq_false h, decide_eq_false (by omega)]
              rw [by_] at hy
              have dy0 : decide (0 ≤ a1_0) = true := by simpa using y0
              have dy1 : decide (a1_0 < 10) = true := by simpa using y1
              have ty0 := eq_true y0
              have ty1 := eq_true y1
              rw [dx0, dx5, dy0]
              generalize decide (a1_0 < 5) = r at hy ⊢
              clear by_ bx dx5 x5 x0 x1 y0 y1
              rcases e01 with e0 | ⟨e0, e1⟩
              all_goals
                go_enter Tryd.func46, Tryd.ntmps46
                go_wp2
                go_ret
                exact ⟨by cases r <;> rfl, by repeat (first | (with_reducible exact Below.refl _ _) | (with_reducible apply below_alloc) | (with_reducible apply pw_below_drewN) | (with_reducible apply below_drew1))⟩
            · have dy0 : decide (0 ≤ a1_0) = true := by simpa using y0
              have dy1 : decide (a1_0 < 10) = false := by simpa using y1
              have dy5 : decide (a1_0 < 5) = false := decide_eq_false (by omega)
              rw [dx0, dx5, dy0, dy5]
              clear bx dx5 dy5 x5 x0 x1 y0 y1
              rcases e01 with e0 | ⟨e0, e1⟩
              all_goals
                go_enter Tryd.func46, Tryd.ntmps46
                go_wp2
                go_ret
                exact ⟨rfl, by repeat (first | (with_reducible exact Below.refl _ _) | (with_reducible apply below_alloc) | (with_reducible apply pw_below_drewN) | (with_reducible apply below_drew1))⟩
          · have dy0 : decide (0 ≤ a1_0) = false := by simpa using y0
            rw [dx0, dx5, dy0]
            clear bx dx5 x5 x0 x1 y0
            rcases e01 with e0 | ⟨e0, e1⟩
            all_goals
              go_enter Tryd.func46, Tryd.ntmps46
              go_wp2
              go_ret
              exact ⟨rfl, by repeat (first | (with_reducible exact Below.refl _ _) | (with_reducible apply below_alloc) | (with_reducible apply pw_below_drewN) | (with_reducible apply below_drew1))⟩
        · have bx : decide (a0_0.toNat < 5) = false := by simp; omega
          rw [bx] at hx
          have dx5 : decide (a0_0 < 5) = false := by simpa using x5
          rw [dx0, dx5]
          clear bx dx5 x5 x0 x1
          rcases e01 with e0 | ⟨e0, e1⟩
          all_goals
            go_enter Tryd.func46, Tryd.ntmps46
            go_wp2
            go_ret
            exact ⟨rfl, by repeat (first | (with_reducible exact Below.refl _ _) | (with_reducible apply below_alloc) | (with_reducible apply pw_below_drewN) | (with_reducible apply below_drew1))⟩
      · have dx0 : decide (0 ≤ a0_0) = true := by simpa using x0
        have dx1 : decide (a0_0 < 10) = false := by simpa using x1
        have dx5 : decide (a0_0 < 5) = false := decide_eq_false (by omega)
        rw [dx0, dx5]
        clear dx5 x0 x1
        rcases e01 with e0 | ⟨e0, e1⟩
        all_goals
          go_enter Tryd.func46, Tryd.ntmps46
          go_wp2
          go_ret
          exact ⟨rfl, by repeat (first | (with_reducible exact Below.refl _ _) | (with_reducible apply below_alloc) | (with_reducible apply pw_below_drewN) | (with_reducible apply below_drew1))⟩
    · have dx0 : decide (0 ≤ a0_0) = false := by simpa using x0
      rw [dx0]
      clear x0
      rcases e01 with e0 | ⟨e0, e1⟩
      all_goals
        go_enter Tryd.func46, Tryd.ntmps46
        go_wp2
        go_ret
        exact ⟨rfl, by repeat (first | (with_reducible exact Below.refl _ _) | (with_reducible apply below_alloc) | (with_reducible apply pw_below_drewN) | (with_reducible apply below_drew1))⟩
end Go.Proofs.YtdheakalfleleaaDoor.POper
