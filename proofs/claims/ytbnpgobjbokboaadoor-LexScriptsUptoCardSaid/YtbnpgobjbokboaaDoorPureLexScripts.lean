/- The pure statement of LexScripts: what is read as a module's source is read alike as a script's. -/
import Derived.Test.YtbnpgobjbokboaaDoorPLexx26
import Derived.Test.YtbnpgobjbokboaaDoorBri
namespace Go.Proofs.YtbnpgobjbokboaaDoor.Pure
open Go.RowKit Go.Proofs.YtbnpgobjbokboaaDoor.PLex Go.Proofs.YtbnpgobjbokboaaDoor.Lx Go.Proofs.YtbnpgobjbokboaaDoorW.PrintWords Go.Proofs.YtbnpgobjbokboaaDoorW.PrintLast
theorem LexScripts (a0 : ByteArray) (h : a0.size + 1 + 0 ≤ 1048576) : ∃ k, gussetlaw04_LexScripts.f k a0 = some true := by
  obtain ⟨l, rfl⟩ : ∃ l, a0 = B l := ⟨_, (B_of a0).symm⟩
  rw [B_size] at h
  have hl : l.length ≤ 1073741824 := by omega
  apply Ev.rounds
  unfold gussetlaw04_LexScripts.f
  refine Ev.bind (f := fun k bt549 => _) (lex_ev false l hl) ?_
  cases hs : lexS false l with
  | error p =>
    obtain ⟨m, e⟩ := p
    have he := (lex_err l m e hs).1
    show Ev (fun k => if ((e : Nat) : Int) = 0 then _ else _) true
    simp only [if_neg (show ¬ ((e : Nat) : Int) = 0 by omega)]
    exact sure_bind
  | ok ts =>
    have hs2 := lex_script l ts hs
    have hc := lex_count l ts hs
    show Ev (fun k => if (0 : Int) = 0 then _ else _) true
    simp only [if_true]
    have h2 := lex_ev true l hl
    rw [hs2] at h2
    refine Ev.bind (f := fun k bt554 => _) h2 ?_
    show Ev (fun k => if (0 : Int) = 0 then (if (0 : Int) = 0 then _ else _) else _) true
    simp only [if_true]
    refine Ev.bind (f := fun k t559 => _) (same_ev _ (by simp [srcP]; omega)) ?_
    simp only [if_true]
    exact sure_bind
end Go.Proofs.YtbnpgobjbokboaaDoor.Pure
