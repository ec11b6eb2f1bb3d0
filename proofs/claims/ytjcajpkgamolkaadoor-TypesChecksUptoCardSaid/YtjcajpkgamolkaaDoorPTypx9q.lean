/- PTypx9, as this claim needs it. -/
import Derived.Test.YtjcajpkgamolkaaDoorPTypx0q
import Derived.Test.YtjcajpkgamolkaaDoorHCq
namespace Go.Proofs.YtjcajpkgamolkaaDoor.PTyp
open Go.RowKit Go.Proofs.YtjcajpkgamolkaaDoorW.PrintWords Go.Proofs.YtjcajpkgamolkaaDoorW.PrintLast Go.Proofs.YtjcajpkgamolkaaDoorW.PrintMore
attribute [local go_sem] max2_int min2_int max_two min_two max_three min_three max_four min_four   -- for this text's walks alone
set_option linter.unusedVariables false
set_option linter.unusedSimpArgs false
def types_show.f (_k : Nat) (a0_0 : Int) (a0_1 : Int) (l0_2 : List ByteArray) (l0_3 : List (S25)) : Option (ByteArray) := if Ty.mayT ⟨a0_0, a0_1, l0_2, l0_3⟩ = true ∧ Ty.rngT ⟨a0_0, a0_1, l0_2, l0_3⟩ = true ∧ Ty.zT ⟨a0_0, a0_1, l0_2, l0_3⟩ ≤ 35184372088832 then some (Ty.showT ⟨a0_0, a0_1, l0_2, l0_3⟩) else none
theorem types_show.calls (k : Nat) (a0_0 : Int) (a0_1 : Int) (A0_2 : Option Addr) (c0_2 : Nat) (l0_2 : List ByteArray) (A0_3 : Option Addr) (c0_3 : Nat) (l0_3 : List (S25)) (r : ByteArray) (w : World) [GW w] (hr0_2 : Kd.C Kd.string w A0_2 l0_2.length l0_2) (hc0_2 : l0_2.length ≤ c0_2) (hr0_3 : Kd.C k25 w A0_3 l0_3.length l0_3) (hc0_3 : l0_3.length ≤ c0_3) (h : types_show.f k a0_0 a0_1 l0_2 l0_3 = some r) :
    Calls Tryd.prog 38 #[.agg #[.int .i64 a0_0, .int .i64 a0_1, .slice A0_2 l0_2.length c0_2, .slice A0_3 l0_3.length c0_3]] w fun e w' => e = .returned (.string r) ∧ Below w.heap.size w w' := by
  unfold types_show.f at h
  split at h
  rotate_left
  ·
   cases h
  rename_i hc
  obtain rfl := Option.some.inj h
  exact Ty.show_ok ⟨a0_0, a0_1, l0_2, l0_3⟩ hc.1 hc.2.1 hc.2.2 A0_2 c0_2 A0_3 c0_3 w ⟨hc0_2, hr0_2, hc0_3, hr0_3⟩
end Go.Proofs.YtjcajpkgamolkaaDoor.PTyp
