/- POperx11, as this claim needs it. -/
import Derived.Test.YtdheakalfleleaaDoorPOperx0q
import Derived.BigCall
import Derived.Lib.DecodeN
import Derived.Lib.OthersKept
import Derived.WalkKit
namespace Go.Proofs.YtdheakalfleleaaDoor.POper
open Go.RowKit Go.Proofs.YtdheakalfleleaaDoorW.PrintWords Go.Proofs.YtdheakalfleleaaDoorW.PrintLast Go.Proofs.YtdheakalfleleaaDoorW.PrintMore
attribute [local go_sem] max2_int min2_int max_two min_two max_three min_three max_four min_four   -- for this text's walks alone
set_option linter.unusedVariables false
set_option linter.unusedSimpArgs false
theorem rc_width_pos (s : ByteArray) (pos : Nat) (h : pos < s.size) : 1 ≤ (Utf8.decode s pos).2 := by
  by_cases ha : (s[pos]'h).toNat < 128
  · rw [decode_ascii s pos h ha]
    exact Nat.le_refl _
  · exact (decode_high s pos h (by omega)).2
theorem rc_width_le (s : ByteArray) (pos : Nat) : (Utf8.decode s pos).2 ≤ 4 := by
  unfold Utf8.decode
  simp only
  repeat' split
  all_goals first | omega | simp
def runes_Count.go (s : ByteArray) : Nat → Nat → Nat
  | 0, _ => 0
  | k + 1, i => if i < s.size then runes_Count.go s k (i + (Utf8.decode s i).2) + 1 else 0
theorem runes_Count.go_end (s : ByteArray) (k i : Nat) (h : ¬ i < s.size) : runes_Count.go s k i = 0 := by
  cases k with
  | zero => rfl
  | succ k => rw [runes_Count.go, if_neg h]
def runes_Count.f (a0 : ByteArray) : Option (Int) := if a0.size ≤ 1099511627776 then some ((runes_Count.go a0 a0.size 0 : Nat) : Int) else none
set_option maxHeartbeats 8000000 in
set_option maxRecDepth 100000 in
theorem runes_Count.calls (a0 : ByteArray) (r : Int) (w : World) (h : runes_Count.f a0 = some r) :
    Calls Tryd.prog 55 #[.string a0] w fun e w' => e = .returned (.int .i64 r) ∧ Below w.heap.size w w' := by
  unfold runes_Count.f at h
  split at h
  · rename_i hs
    obtain rfl := Option.some.inj h
    clear h
    go_enter Tryd.func55, Tryd.ntmps55
    go_wp2
    go_loopw [3] (fun v3 wr => ∃ (pos fuel n : Nat), v3 = .int .i64 n ∧ Aside0 (wr.heap[w.heap.size]? = some (.stringIter a0 pos)) ∧ Aside0 (Below w.heap.size w wr) ∧ Aside0 (n + runes_Count.go a0 fuel pos = runes_Count.go a0 a0.size 0) ∧ Aside0 (a0.size ≤ pos + fuel ∧ pos ≤ a0.size + 4 ∧ n ≤ pos)) (fun _ wr => a0.size + 8 - wr.iterPos w.heap.size)
    case atStart =>
      exact ⟨0, a0.size, 0, rfl, ⟨World.iter_heap w a0 0⟩, ⟨(Below.refl _ _).alloc (Nat.le_refl _) _⟩, ⟨by omega⟩, ⟨by omega, by omega, by omega⟩⟩
    case round =>
      obtain ⟨pos, fuel, n, rfl, HIT, HB, HA, HF⟩ := hrel
      have hit := HIT.out
      by_cases hp : pos < a0.size
      · have hnx : ∀ ty, (Instr.next (.pointer (some ⟨w.heap.size, 0, none⟩)) true ty).run Tryd.prog wr = _ := fun ty => Lib.run_next_any_at wr w.heap.size a0 pos ty hit hp
        have hwd := rc_width_pos a0 pos hp
        have hd1 := decode_le a0 pos
        have HT2 := Aside0.mk (Lib.iterAt_heap wr w.heap.size a0 pos (pos + (Utf8.decode a0 pos).2) hit)
        have HB2 := Aside0.mk (Lib.below_iterAt HB.out (k := w.heap.size) (by omega) a0 (pos + (Utf8.decode a0 pos).2))
        obtain ⟨f, rfl⟩ : ∃ f, fuel = f + 1 := ⟨fuel - 1, by have := HF.out; omega⟩
        have hw4 := rc_width_le a0 pos
        have HF : Aside0 (a0.size ≤ pos + (f + 1) ∧ n ≤ pos ∧ pos < a0.size ∧ a0.size ≤ 1099511627776 ∧ 1 ≤ (Utf8.decode a0 pos).2 ∧ (Utf8.decode a0 pos).2 ≤ 4) := ⟨HF.out.1, HF.out.2.2, hp, hs, hwd, hw4⟩
        have hA2 := HA.out
        rw [runes_Count.go, if_pos hp] at hA2
        have HA2 := Aside0.mk hA2
        have hn : n ≤ 1099511627776 := by have := HF.out; omega
        clear HB hit HA hA2 hw4
        go_wp2
        go_roundw
        case rel => exact ⟨_, f, n + 1, by go_num, HT2, HB2, ⟨by have := HA2.out; omega⟩, ⟨by have := HF.out; refine ⟨by omega, by omega, by omega⟩⟩⟩
        case measure =>
          simp only [World.iterPos, HT2.out, HIT.out]
          have := HF.out
          omega
      · have hnx : ∀ ty, (Instr.next (.pointer (some ⟨w.heap.size, 0, none⟩)) true ty).run Tryd.prog wr = _ := fun ty => Lib.run_next_end_at wr w.heap.size a0 pos ty hit hp
        have hacc := HA.out
        rw [runes_Count.go_end a0 fuel pos hp, Nat.add_zero] at hacc
        have HA2 := Aside0.mk hacc
        clear hacc HA
        go_wp2
        go_ret
        exact ⟨congrArg (fun k : Nat => Ending.returned (.int .i64 (k : Int))) HA2.out, HB.out⟩
  · cases h
end Go.Proofs.YtdheakalfleleaaDoor.POper
