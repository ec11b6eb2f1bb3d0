/- HJ, as this claim needs it. -/
import Derived.Test.YtjcajpkgamolkaaDoorHFq
import Derived.Test.YtjcajpkgamolkaaDoorHAq
import Derived.Test.YtjcajpkgamolkaaDoorHCq
import Derived.Test.YtjcajpkgamolkaaDoorHKq
import Derived.Test.YtjcajpkgamolkaaDoorHGq
import Derived.Test.YtjcajpkgamolkaaDoorHVq
import Derived.Test.YtjcajpkgamolkaaDoorHMq
namespace Go.Proofs.YtjcajpkgamolkaaDoor.Ty
open Go.RowKit Go.Proofs.YtjcajpkgamolkaaDoor.PTyp Go.Proofs.YtjcajpkgamolkaaDoorW.PrintWords Go.Proofs.YtjcajpkgamolkaaDoorW.PrintLast Go.Proofs.YtjcajpkgamolkaaDoorW.PrintMore
set_option linter.unusedVariables false
set_option linter.unusedSimpArgs false
end Go.Proofs.YtjcajpkgamolkaaDoor.Ty
namespace Go.Proofs.YtjcajpkgamolkaaDoor.Ty
open Go.RowKit Go.Proofs.YtjcajpkgamolkaaDoor.PTyp Go.Proofs.YtjcajpkgamolkaaDoorW.PrintWords Go.Proofs.YtjcajpkgamolkaaDoorW.PrintLast Go.Proofs.YtjcajpkgamolkaaDoorW.PrintMore
set_option linter.unusedVariables false
set_option linter.unusedSimpArgs false
theorem rows_zero (W : World) : RowsT W zeroT none 0 none 0 := ⟨Nat.le_refl _, ⟨rfl, by decide, fun h => absurd h (by decide)⟩, Nat.le_refl _, ⟨rfl, by decide, fun h => absurd h (by decide)⟩⟩
theorem kW_one {w W : World} {g : Nat} {t : Ty} {A2 A3 : Option Addr} {c2 c3 : Nat} (hr : RowsT w t A2 c2 A3 c3) (hb : W.heap[g]? = some (.cells #[.int .i64 t.f0, .int .i64 t.f1, .slice A2 t.f2.length c2, .slice A3 t.f3.length c3] 25 (0, 0))) : (kW w).C W (some ⟨g, 0, none⟩) [t].length [t] := by
  refine ⟨rfl, by simp, fun _ => ⟨_, rfl, fun j p hj => ?_⟩⟩
  match j, hj with
  | 0, hj =>
    obtain rfl : t = p := by simpa using hj
    refine ⟨_, rfl, k25_mk w t hr.1 hr.2.1 hr.2.2.1 hr.2.2.2, fun i v hv => ?_⟩
    have := blk_cell hb i
    rw [add_plain, show 0 * (kW w).sz + i = i by rw [Nat.zero_mul, Nat.zero_add]]
    rw [this]
    match i, hv with
    | 0, hv => exact hv
    | 1, hv => exact hv
    | 2, hv => exact hv
    | 3, hv => exact hv
    | i + 4, hv => simp at hv
  | j + 1, hj => simp at hj
end Go.Proofs.YtjcajpkgamolkaaDoor.Ty
namespace Go.Proofs.YtjcajpkgamolkaaDoor.Ty
open Go.RowKit Go.Proofs.YtjcajpkgamolkaaDoor.PTyp Go.Proofs.YtjcajpkgamolkaaDoorW.PrintWords Go.Proofs.YtjcajpkgamolkaaDoorW.PrintLast Go.Proofs.YtjcajpkgamolkaaDoorW.PrintMore
set_option linter.unusedVariables false
set_option linter.unusedSimpArgs false
def RowsK (w0 W : World) (g : Nat) (t : Ty) (A2 : Option Addr) (c2 : Nat) (A3 : Option Addr) (c3 : Nat) : Prop := t.f2.length ≤ c2 ∧ Kd.string.C w0 A2 t.f2.length t.f2 ∧ t.f3.length ≤ c3 ∧ (kW w0).C W A3 t.f3.length t.f3 ∧ (0 < t.f3.length → ∀ ad, A3 = some ad → ad.block < w0.heap.size ∨ g ≤ ad.block)
theorem cell_lt {W : World} {a : Addr} {v : Value} (h : W.cell? a = some v) : a.block < W.heap.size := World.block_lt_of_cell? W a h
theorem RowsK.stay {w0 W X : World} {g : Nat} {t : Ty} {A2 A3 : Option Addr} {c2 c3 : Nat} (h : RowsK w0 W g t A2 c2 A3 c3) (hW : Below w0.heap.size w0 W) (hB : Below w0.heap.size w0 X) (hn : ∀ j, g ≤ j → j < W.heap.size → X.heap[j]? = W.heap[j]?) : RowsT X t A2 c2 A3 c3 := by
  refine ⟨h.1, Kd.C_below h.2.1 hB, h.2.2.1, ?_⟩
  obtain ⟨h1, h2, hc⟩ := h.2.2.2.1
  refine ⟨h1, h2, fun hp => ?_⟩
  obtain ⟨ad, e, hr⟩ := hc hp
  refine ⟨ad, e, fun j p hj => ?_⟩
  obtain ⟨c, k1, k2, k3⟩ := hr j p hj
  refine ⟨c, k1, k25.K_below hB k2, fun i v hv => ?_⟩
  have q := k3 i v hv
  have hx : (ad.add (j * (kW w0).sz + i)).block = ad.block := by unfold Addr.add; split <;> rfl
  have hl := cell_lt q
  have hh : X.heap[(ad.add (j * (kW w0).sz + i)).block]? = W.heap[(ad.add (j * (kW w0).sz + i)).block]? := by
    rcases h.2.2.2.2 hp ad e with h5 | h5
    · rw [hx]; exact (hB.block _ h5).trans (hW.block _ h5).symm
    · exact hn _ (by rw [hx]; exact h5) hl
  have : X.cell? (ad.add (j * (kW w0).sz + i)) = W.cell? (ad.add (j * (kW w0).sz + i)) := World.cell?_of_block hh
  exact this.trans q
end Go.Proofs.YtjcajpkgamolkaaDoor.Ty
