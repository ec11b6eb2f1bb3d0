/- Contracts: strings_Split. -/
import Derived.Test.YtgjboocmdeckgaaDoorPPathx0
import Derived.Test.YtgjboocmdeckgaaDoorShelf
namespace Go.Proofs.YtgjboocmdeckgaaDoor.PPath
open Go.RowKit Go.Proofs.YtgjboocmdeckgaaDoorW.PrintWords Go.Proofs.YtgjboocmdeckgaaDoorW.PrintLast Go.Proofs.YtgjboocmdeckgaaDoorW.PrintMore
attribute [local go_sem] max2_int min2_int max_two min_two max_three min_three max_four min_four   -- for this text's walks alone
set_option linter.unusedVariables false
set_option linter.unusedSimpArgs false

/-! ### strings_Split -/
def strings_Split.f (a0 : ByteArray) (a1 : ByteArray) : Option (List ByteArray) := if a0.size < 4294967281 ∧ 1 ≤ a1.size ∧ Lib.countB a0 a1 + 1 ≤ 9223372036854775807 ∧ (Lib.splitB a1 0 (Lib.countB a0 a1) a0).length = Lib.countB a0 a1 + 1 then some (Lib.splitB a1 0 (Lib.countB a0 a1) a0) else none
theorem reps_strings (xs : List ByteArray) (w : World) (base : Nat) (ok : Nat → Prop) : Reps (Kd.string.M w base ok) 1 xs (xs.map Value.string) :=
  ⟨by simp, fun j p h => by
    obtain ⟨hj, rfl⟩ := List.getElem?_eq_some_iff.1 h
    show _ = [Value.string _]
    have hj' : j < (xs.map Value.string).length := by simpa using hj
    rw [Nat.mul_one, List.drop_eq_getElem_cons hj']
    simp⟩
theorem strings_Split.calls (a0 : ByteArray) (a1 : ByteArray) (r : List ByteArray) (w : World) [GW w] (h : strings_Split.f a0 a1 = some r) :
    Calls Tryd.prog 17 #[.string a0, .string a1] w fun e w' => ∃ v0_ : Value, e = .returned (v0_) ∧ Kd.R Kd.string 9 w' w.heap.size (fun _ => True) v0_ r ∧ Below w.heap.size w w' := by
  unfold strings_Split.f at h
  split at h
  · rename_i hc
    obtain ⟨h1, h2, h3, h4⟩ := hc
    obtain rfl := Option.some.inj h
    obtain ⟨m, hm⟩ := GW.ml (w := w)
    refine (Tryd.strings_Split a0 a1 m w h1 hm h2).mono ?_
    rintro e w' ⟨rfl, rfl⟩
    refine ⟨_, rfl, ⟨fun _ _ => trivial, (Lib.splitB a1 0 (Lib.countB a0 a1) a0).map Value.string, ?_, reps_strings _ _ _ _⟩, (Below.refl _ _).alloc (Nat.le_refl _) _⟩
    have ho := World.ownsRow_lit (base := w.heap.size) (e := 9) (size := 1) w ((Lib.splitB a1 0 (Lib.countB a0 a1) a0).map Value.string).toArray (Lib.countB a0 a1 + 1) (Nat.le_refl _) (by unfold maxLen; omega) (by simp [h4])
    rw [h4]
    rw [List.toList_toArray] at ho
    exact ho
  · cases h

end Go.Proofs.YtgjboocmdeckgaaDoor.PPath
