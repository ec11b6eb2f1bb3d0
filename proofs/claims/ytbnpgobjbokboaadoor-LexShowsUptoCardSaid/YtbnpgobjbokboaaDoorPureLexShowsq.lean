/- PureLexShows, as this claim needs it. -/
import Derived.Test.YtbnpgobjbokboaaDoorPLexx6q
import Derived.Test.YtbnpgobjbokboaaDoorPLexx20q
import Derived.Test.YtbnpgobjbokboaaDoorPLexx22q
import Derived.Test.YtbnpgobjbokboaaDoorBriq
import Derived.Test.YtbnpgobjbokboaaDoorShq
namespace Go.Proofs.YtbnpgobjbokboaaDoor.Pure
open Go.RowKit Go.Proofs.YtbnpgobjbokboaaDoor.PLex Go.Proofs.YtbnpgobjbokboaaDoor.Lx Go.Proofs.YtbnpgobjbokboaaDoorW.PrintWords Go.Proofs.YtbnpgobjbokboaaDoorW.PrintLast
set_option linter.unusedVariables false
set_option linter.unusedSimpArgs false
theorem LexShows (l0 : List S36) (hf : ∀ e ∈ l0, Fit e) (hw : wt l0 ≤ 1073741824) (hlen : l0.length ≤ 1073741824) : ∃ k, gussetlaw04_LexShows.f k l0 = some true := by
  apply Ev.rounds
  unfold gussetlaw04_LexShows.f
  obtain ⟨r, h1, h2⟩ := showq_l0 l0 hlen hf l0.length 0 [] rfl (Nat.zero_le _) rfl (by rw [List.drop_zero]; exact (by simpa [W] using hw))
  simp only [List.nil_append, List.length_nil, Nat.zero_add, Option.bind_some, if_pos (show l0.length < 3518437208883 by omega)]
  refine Ev.bind (f := fun k t466 => _) (show Ev (fun k => lex_Show.f k l0) r from h2) ?_
  refine Ev.bind (f := fun k t467 => _) (show Ev (fun k => gussetref04_Show.f k l0) r from h1) ?_
  simp only [if_true]
  refine Ev.bind (f := fun k t468 => _) (same_ev l0 hlen) ?_
  simp only [if_true]
  exact sure_bind
end Go.Proofs.YtbnpgobjbokboaaDoor.Pure
