/- POperx9, as this claim needs it. -/
import Derived.Test.YtdheakalfleleaaDoorPOperx0q
import Derived.Test.YtdheakalfleleaaDoorHBq
namespace Go.Proofs.YtdheakalfleleaaDoor.POper
open Go.RowKit Go.Proofs.YtdheakalfleleaaDoorW.PrintWords Go.Proofs.YtdheakalfleleaaDoorW.PrintLast Go.Proofs.YtdheakalfleleaaDoorW.PrintMore
attribute [local go_sem] max2_int min2_int max_two min_two max_three min_three max_four min_four   -- for this text's walks alone
set_option linter.unusedVariables false
set_option linter.unusedSimpArgs false
def value_Heap_Text.f (a0 : Int) (a1_0 : Int) (a1_1 : Int) (a1_2 : ByteArray) : Option (ByteArray) := if -9223372036854775808 ≤ a1_1 ∧ a1_1 ≤ 9223372036854775807 then some (Val.textV ⟨a1_0, a1_1, a1_2⟩) else none
theorem value_Heap_Text.calls (q : Option Addr) (a0 : Int) (a1_0 : Int) (a1_1 : Int) (a1_2 : ByteArray) (r : ByteArray) (w : World) [GW w] (h : value_Heap_Text.f a0 a1_0 a1_1 a1_2 = some r) :
    Calls Tryd.prog 47 #[.pointer q, .agg #[.int .i64 a1_0, .int .i64 a1_1, .string a1_2]] w fun e w' => e = .returned (.string r) ∧ Below w.heap.size w w' := by
  unfold value_Heap_Text.f at h
  split at h
  · rename_i hc
    obtain rfl := Option.some.inj h
    exact Val.text_calls w q ⟨a1_0, a1_1, a1_2⟩ hc.1 hc.2
  · cases h
end Go.Proofs.YtdheakalfleleaaDoor.POper
