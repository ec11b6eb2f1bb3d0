/- The pure statement of LexBack: tokens that may be are read as they are shown; what is read may be. -/
import Derived.Test.YtbnpgobjbokboaaDoorPLexx5
import Derived.Test.YtbnpgobjbokboaaDoorPLexx6
import Derived.Test.YtbnpgobjbokboaaDoorPLexx8
import Derived.Test.YtbnpgobjbokboaaDoorPLexx9
import Derived.Test.YtbnpgobjbokboaaDoorPLexx23
import Derived.Test.YtbnpgobjbokboaaDoorBri
import Derived.Test.YtbnpgobjbokboaaDoorBack
namespace Go.Proofs.YtbnpgobjbokboaaDoor.Pure
open Go.RowKit Go.Proofs.YtbnpgobjbokboaaDoor.PLex Go.Proofs.YtbnpgobjbokboaaDoor.Lx Go.Proofs.YtbnpgobjbokboaaDoorW.PrintWords Go.Proofs.YtbnpgobjbokboaaDoorW.PrintLast
set_option linter.unusedVariables false
set_option linter.unusedSimpArgs false
theorem back_j0 (l : L) (h : l.length ≤ 1048576) : Ev (fun k => gussetlaw04_LexBack.j0 k (B l)) true := by
  refine Ev.step (f := fun k => (lex_Lex.f k (B l) false).bind fun bt512 => (if bt512.2.2 = 0 then ((lex_Show.f k bt512.1).bind fun t518 => ((lex_Lex.f k t518 true).bind fun bt519 => (if bt519.2.2 = 0 then ((gussetref04_Same.f k bt512.1 bt519.1).bind fun t524 => (if t524 = true then ((gussetlaw04_sure.f k).bind fun t525 => (some t525)) else (some false))) else (some false)))) else (if (bt512.1.length : Int) = 0 then ((gussetlaw04_sure.f k).bind fun t517 => (some t517)) else (some false)))) (fun k => by rw [gussetlaw04_LexBack.j0]) ?_
  refine Ev.bind (f := fun k bt512 => _) (lex_ev false l (by omega)) ?_
  cases hs : lexS false l with
  | error p =>
    obtain ⟨m, e⟩ := p
    obtain ⟨he, _, _⟩ := lex_err l m e hs
    show Ev (fun k => if ((e : Nat) : Int) = 0 then _ else (if ((([] : List S36).length : Nat) : Int) = 0 then _ else _)) true
    simp only [if_neg (show ¬ ((e : Nat) : Int) = 0 by omega), List.length_nil]
    exact sure_bind
  | ok ts =>
    have hst := lex_script l ts hs
    have hwh := lex_whole l ts hst
    obtain ⟨hwt, htl⟩ := lex_wt l l.length ts hs
    have hcount := lex_count l ts hs
    have hgood := goodAll_read l.length ts hwh (fun t ht => by have := htl t ht; omega)
    have hlen : (ts.map (tok36 l.length)).length ≤ 1073741824 := by rw [List.length_map]; omega
    obtain ⟨ts', hl', ht'⟩ := lex_join ((toks ts).map fun t => (textL t, t)) (goodAll_whole _ _ hgood)
    have hsnd : ((toks ts).map fun t => (textL t, t)).map (·.2) = toks ts := by
      rw [List.map_map]
      exact List.map_id _
    rw [hsnd] at ht'
    have hW : W (((toks ts).map fun t => (textL t, t)).map (·.1)) ≤ 1073741824 := by
      have := W_read l.length ts hwh
      omega
    have hJ := joinS_le (((toks ts).map fun t => (textL t, t)).map (·.1))
    have hshow : Ev (fun k => lex_Show.f k (ts.map (tok36 l.length))) (B (joinS (((toks ts).map fun t => (textL t, t)).map (·.1)))) := by
      have := show_good (ts.map (tok36 l.length)) hlen _ 0 [] _ rfl (Nat.zero_le _) hgood (by rw [List.nil_append]; exact hW)
      rw [List.nil_append] at this
      exact this
    show Ev (fun k => if (0 : Int) = 0 then ((lex_Show.f k ([] ++ ts.map (tok36 l.length))).bind fun t518 => ((lex_Lex.f k t518 true).bind fun bt519 => (if bt519.2.2 = 0 then ((gussetref04_Same.f k ([] ++ ts.map (tok36 l.length)) bt519.1).bind fun t524 => (if t524 = true then ((gussetlaw04_sure.f k).bind fun t525 => (some t525)) else (some false))) else (some false)))) else _) true
    simp only [if_true, List.nil_append]
    refine Ev.bind (f := fun k t518 => _) hshow ?_
    refine Ev.bind (f := fun k bt519 => _) (lex_ev true _ (by omega)) ?_
    rw [hl']
    show Ev (fun k => if (0 : Int) = 0 then ((gussetref04_Same.f k (ts.map (tok36 l.length)) ([] ++ ts'.map (tok36 (joinS (((toks ts).map fun t => (textL t, t)).map (·.1))).length))).bind fun t524 => (if t524 = true then ((gussetlaw04_sure.f k).bind fun t525 => (some t525)) else (some false))) else _) true
    simp only [if_true, List.nil_append]
    refine Ev.bind (f := fun k t524 => _) (Same_toks _ _ ts ts' (by omega) ht'.symm) ?_
    simp only [if_true]
    exact sure_bind
theorem LexBack (l0 : List S36) (a1 : ByteArray) (hf : ∀ e ∈ l0, Fit e) (hw : wt l0 ≤ 1073741824) (hlen : l0.length ≤ 1073741824) (hs : a1.size ≤ 1048576) : ∃ k, gussetlaw04_LexBack.f k l0 a1 = some true := by
  obtain ⟨l, rfl⟩ : ∃ l, a1 = B l := ⟨_, (B_of a1).symm⟩
  rw [B_size] at hs
  apply Ev.rounds
  have hj := back_j0 l hs
  unfold gussetlaw04_LexBack.f
  obtain ⟨r, hr, hcase⟩ := show_any l0 hlen hf l0.length 0 [] rfl (Nat.zero_le _) (by rw [List.drop_zero]; exact (by simpa [W] using hw))
  refine Ev.bind (f := fun k t505 => _) (show Ev (fun k => lex_Show.f k l0) r from hr) ?_
  rw [List.drop_zero] at hcase
  rcases hcase with rfl | ⟨ps, hg, rfl, hW⟩
  · simp only [B_toList, if_true]
    exact hj
  · rw [List.nil_append] at hW ⊢
    have hJ := joinS_le (ps.map (·.1))
    by_cases hz : joinS (ps.map (·.1)) = []
    · simp only [B_toList, hz, if_true]
      exact hj
    · simp only [B_toList, if_neg hz]
      obtain ⟨ts, hl, ht⟩ := lex_join ps (goodAll_whole _ _ hg)
      have hgl := goodAll_len _ _ hg
      refine Ev.bind (f := fun k bt506 => _) (lex_ev true _ (by omega)) ?_
      rw [hl]
      have htl : ts.length = ps.length := by
        have := congrArg List.length ht
        unfold toks at this
        rw [List.length_map, List.length_map] at this
        exact this
      show Ev (fun k => if (0 : Int) = 0 then ((gussetref04_Same.f k ([] ++ ts.map (tok36 (joinS (ps.map (·.1))).length)) l0).bind fun t511 => (if t511 = true then (gussetlaw04_LexBack.j0 k (B l)) else (some false))) else _) true
      simp only [if_true, List.nil_append]
      have hsame := Same_ev (ts.map (tok36 (joinS (ps.map (·.1))).length)) l0 (by rw [List.length_map]; omega) (by rw [List.length_map]; omega) (fun j h1 h2 => by
        have h3 : j < ps.length := by omega
        have h4 : j < ts.length := by omega
        obtain ⟨_, _, g1, g2, g3⟩ := goodAll_at _ _ hg j h2 h3
        have hj2 : (toks ts)[j]? = (ps.map (·.2))[j]? := by rw [ht]
        unfold toks at hj2
        rw [List.getElem?_map, List.getElem?_map, List.getElem?_eq_getElem h4, List.getElem?_eq_getElem h3] at hj2
        have hj2 : ts[j].1 = ps[j].2 := Option.some.inj hj2
        rw [List.getElem_map]
        unfold tok36
        simp only
        rw [g1, g2, g3, hj2]
        exact ⟨rfl, rfl, rfl⟩)
      refine Ev.bind (f := fun k t511 => _) hsame ?_
      simp only [if_true]
      exact hj
end Go.Proofs.YtbnpgobjbokboaaDoor.Pure
