/- The pure statement of LexReads: the program's lexer and the document's tell the same. -/
import Derived.Test.YtbnpgobjbokboaaDoorPLexx21
import Derived.Test.YtbnpgobjbokboaaDoorBri
import Derived.Test.YtbnpgobjbokboaaDoorRefL
namespace Go.Proofs.YtbnpgobjbokboaaDoor.Pure
open Go.RowKit Go.Proofs.YtbnpgobjbokboaaDoor.PLex Go.Proofs.YtbnpgobjbokboaaDoor.Lx Go.Proofs.YtbnpgobjbokboaaDoorW.PrintWords Go.Proofs.YtbnpgobjbokboaaDoorW.PrintLast
set_option linter.unusedVariables false
set_option linter.unusedSimpArgs false
theorem srcP_len (s : Bool) (l : L) (hl : l.length ≤ 1073741824) : (srcP l.length [] (lexS s l)).1.length ≤ 1073741824 := by
  cases hs : lexS s l with
  | error p => exact Nat.zero_le _
  | ok ts =>
    have hc := lex_count l ts hs
    show ([] ++ ts.map (tok36 l.length)).length ≤ _
    rw [List.nil_append, List.length_map]
    omega
theorem LexReads (a0 : ByteArray) (a1 : Bool) (h : a0.size + 1 + 1 + 0 ≤ 1048576) : ∃ k, gussetlaw04_LexReads.f k a0 a1 = some true := by
  obtain ⟨l, rfl⟩ : ∃ l, a0 = B l := ⟨_, (B_of a0).symm⟩
  rw [B_size] at h
  have hl : l.length ≤ 1073741824 := by omega
  apply Ev.rounds
  unfold gussetlaw04_LexReads.f
  refine Ev.bind (f := fun k bt383 => _) (lex_ev a1 l hl) ?_
  refine Ev.bind (f := fun k bt388 => _) (ref_ev a1 l hl) ?_
  refine Ev.bind (f := fun k t393 => _) (same_ev _ (srcP_len a1 l hl)) ?_
  simp only [if_true]
  exact sure_bind
end Go.Proofs.YtbnpgobjbokboaaDoor.Pure
