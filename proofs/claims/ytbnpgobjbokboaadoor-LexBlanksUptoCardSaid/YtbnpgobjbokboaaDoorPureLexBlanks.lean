/- The pure statement of LexBlanks: more blanks and notes where a token begins change nothing but places. -/
import Derived.Test.YtbnpgobjbokboaaDoorPLexx5
import Derived.Test.YtbnpgobjbokboaaDoorPLexx8
import Derived.Test.YtbnpgobjbokboaaDoorPLexx9
import Derived.Test.YtbnpgobjbokboaaDoorPLexx25
import Derived.Test.YtbnpgobjbokboaaDoorBri
namespace Go.Proofs.YtbnpgobjbokboaaDoor.Pure
open Go.RowKit Go.Proofs.YtbnpgobjbokboaaDoor.PLex Go.Proofs.YtbnpgobjbokboaaDoor.Lx Go.Proofs.YtbnpgobjbokboaaDoorW.PrintWords Go.Proofs.YtbnpgobjbokboaaDoorW.PrintLast Go.Proofs.YtbnpgobjbokboaaDoorW.PrintMore
set_option linter.unusedVariables false
set_option linter.unusedSimpArgs false
theorem B_app (l m : L) : B l ++ B m = B (l ++ m) := by
  apply ByteArray.ext
  apply Array.toList_inj.1
  rw [ByteArray.data_append, Array.toList_append]
  rfl
/-- Where tokens begin: bytes are left. -/
theorem lex_rem {s : Bool} (l : L) : ∀ ts, lexS s l = .ok ts → ∀ t ∈ ts, 0 < t.2 ∧ t.2 ≤ l.length := by
  refine lex_ind s (P := fun l => ∀ ts, lexS s l = .ok ts → ∀ t ∈ ts, 0 < t.2 ∧ t.2 ≤ l.length) ?_ ?_ ?_ ?_ _ l (Nat.le_refl _)
  · intro l r h ts h2
    rw [lex_open h] at h2
    cases h2
  · intro l h ts h2
    rw [lex_done h] at h2
    obtain rfl := Except.ok.inj h2
    intro t ht
    cases ht
  · intro l r e h hr ht ts h2
    rw [lex_bad h hr ht] at h2
    cases h2
  · intro l r t n h hr ht ih ts h2
    rw [lex_step h hr ht] at h2
    obtain ⟨ts', h3, rfl⟩ := map_ok h2
    have h6 := skip_le l
    rw [h] at h6
    simp only at h6
    intro t' ht'
    rcases List.mem_cons.1 ht' with rfl | ht'
    · exact ⟨List.length_pos_iff.2 hr, h6⟩
    · have := ih ts' h3 t' ht'
      rw [List.length_drop] at this
      exact ⟨this.1, by omega⟩
def moreOf (note : L) : L := 32 :: 9 :: 10 :: 47 :: 42 :: (note ++ [42, 47])
/-- What is asked behind the loop. -/
theorem blanks_end (s : L) (xs : List S36) (w : Nat) (hw : w < xs.length) (at_ : Nat) (hat : (rd_T36 xs (w : Int)).f3 = (at_ : Int)) (hal : at_ ≤ s.length) (hs : s.length ≤ 1048576) (note : L) (hn : note.length ≤ 1048576) (i : Nat) (hi : note.length ≤ i)
    (ts : List S36) (p : Int) (hl : Ev (fun k => lex_Lex.f k (B (s.take at_ ++ (moreOf note ++ s.drop at_))) true) (ts, p, 0)) (hsame : Ev (fun k => gussetref04_Same.f k ts xs) true) :
    Ev (fun k => gussetlaw04_LexBlanks.l0 k (B s) (w : Int) (B note) xs (⟨#[32, 9, 10]⟩ : ByteArray) (i : Int)) true := by
  have e1 : ((⟨#[32, 9, 10]⟩ : ByteArray) ++ (⟨#[47, 42]⟩ : ByteArray)) = B [32, 9, 10, 47, 42] := rfl
  have e2 : ((B [32, 9, 10, 47, 42] ++ B note) ++ (⟨#[42, 47]⟩ : ByteArray)) = B (moreOf note) := by
    rw [B_app, show (⟨#[42, 47]⟩ : ByteArray) = B [42, 47] from rfl, B_app]
    exact congrArg B (by simp [moreOf])
  have s1 : (B [32, 9, 10, 47, 42]).size = 5 := rfl
  have s2 : (B [32, 9, 10, 47, 42] ++ B note).size = 5 + note.length := by rw [B_app, B_size, List.length_append]; rfl
  have s3 : (B (moreOf note)).size = 7 + note.length := by rw [B_size]; simp [moreOf]; omega
  have e3 : (B s).extract 0 at_ ++ B (moreOf note) = B (s.take at_ ++ moreOf note) := by rw [B_take, B_app]
  have s4 : ((B s).extract 0 at_).size = at_ := by rw [B_take, B_size, List.length_take]; omega
  have s5 : ((B s).extract at_ (B s).size).size = s.length - at_ := by rw [B_drop, B_size, List.length_drop]
  have s6 : (B (s.take at_ ++ moreOf note)).size = at_ + (7 + note.length) := by rw [B_size, List.length_append, List.length_take]; simp [moreOf]; omega
  have e4 : B (s.take at_ ++ moreOf note) ++ (B s).extract at_ (B s).size = B (s.take at_ ++ (moreOf note ++ s.drop at_)) := by rw [B_drop, B_app, List.append_assoc]
  refine Ev.step (f := fun k => (lex_Lex.f k (B (s.take at_ ++ (moreOf note ++ s.drop at_))) true).bind fun bt542 => (if bt542.2.2 = 0 then ((gussetref04_Same.f k bt542.1 xs).bind fun t547 => (if t547 = true then ((gussetlaw04_sure.f k).bind fun t548 => (some t548)) else (some false))) else (some false))) (fun k => ?_) ?_
  · have c1 : (⟨#[32, 9, 10]⟩ : ByteArray).size + 2 ≤ 9223372036854775807 := by decide
    rw [gussetlaw04_LexBlanks.l0, if_neg (by rw [B_size]; omega), if_pos c1, e1, s1, if_pos (by rw [B_size]; omega), s2, if_pos (by omega), if_pos (by omega), if_pos (by omega), hat, if_pos (by omega), if_pos (by rw [B_size]; omega), Int.toNat_natCast, e2, s3, s4, if_pos (by omega), e3, s6, s5, if_pos (by omega), e4]
  · refine Ev.bind (f := fun k bt542 => _) hl ?_
    show Ev (fun k => if (0 : Int) = 0 then _ else _) true
    simp only [if_true]
    refine Ev.bind (f := fun k t547 => _) hsame ?_
    simp only [if_true]
    exact sure_bind
/-- The loop over the note's bytes. -/
theorem blanks_l0 (s : L) (xs : List S36) (w : Int) (hfin : ∀ (note : L) (i : Nat), note.length ≤ 1048576 → note.length ≤ i → (42 : UInt8) ∉ note → (47 : UInt8) ∉ note → Ev (fun k => gussetlaw04_LexBlanks.l0 k (B s) w (B note) xs (⟨#[32, 9, 10]⟩ : ByteArray) (i : Int)) true) (r : L) :
    ∀ a : L, (a ++ r).length ≤ 1048576 → (42 : UInt8) ∉ a → (47 : UInt8) ∉ a → Ev (fun k => gussetlaw04_LexBlanks.l0 k (B s) w (B (a ++ r)) xs (⟨#[32, 9, 10]⟩ : ByteArray) (a.length : Int)) true := by
  induction r with
  | nil =>
    intro a hl h1 h2
    rw [List.append_nil] at hl ⊢
    exact hfin a a.length hl (Nat.le_refl _) h1 h2
  | cons c r ih =>
    intro a hl h1 h2
    have hlt : ((a.length : Nat) : Int) < ((B (a ++ c :: r)).size : Int) := by rw [B_size, List.length_append, List.length_cons]; omega
    have hb : bt (B (a ++ c :: r)) (a.length : Int) = (c.toNat : Int) := by rw [B_bt, nb_app]
    have hal : a.length ≤ 1048576 := by rw [List.length_append] at hl; omega
    have hw := wrap_1 a.length (by omega)
    by_cases c42 : c = 42
    · refine Ev.step (f := fun k => gussetlaw04_LexBlanks.l0 k (B s) w (B []) xs (⟨#[32, 9, 10]⟩ : ByteArray) ((a.length + 1 : Nat) : Int)) (fun k => ?_) (hfin [] _ (by simp) (by simp) (by simp) (by simp))
      rw [gussetlaw04_LexBlanks.l0, if_pos hlt, if_pos (by omega), hb, if_pos (by rw [c42]; rfl), hw]
      rfl
    · have n42 : ¬ ((c.toNat : Int) = 42) := fun e => c42 (UInt8.toNat_inj.1 (show c.toNat = 42 by omega))
      by_cases c47 : c = 47
      · refine Ev.step (f := fun k => gussetlaw04_LexBlanks.l0 k (B s) w (B []) xs (⟨#[32, 9, 10]⟩ : ByteArray) ((a.length + 1 : Nat) : Int)) (fun k => ?_) (hfin [] _ (by simp) (by simp) (by simp) (by simp))
        rw [gussetlaw04_LexBlanks.l0, if_pos hlt, if_pos (by omega), hb, if_neg n42, if_pos (by rw [c47]; rfl), hw]
        rfl
      · have n47 : ¬ ((c.toNat : Int) = 47) := fun e => c47 (UInt8.toNat_inj.1 (show c.toNat = 47 by omega))
        refine Ev.step (f := fun k => gussetlaw04_LexBlanks.l0 k (B s) w (B (a ++ c :: r)) xs (⟨#[32, 9, 10]⟩ : ByteArray) ((a.length + 1 : Nat) : Int)) (fun k => ?_) ?_
        · rw [gussetlaw04_LexBlanks.l0, if_pos hlt, if_pos (by omega), hb, if_neg n42, if_neg n47, hw]
        · have := ih (a ++ [c]) (by simpa using hl) (by simp [h1, Ne.symm c42]) (by simp [h2, Ne.symm c47])
          rw [show a ++ [c] ++ r = a ++ c :: r by simp, @List.length_append _ a [c]] at this
          exact this
theorem LexBlanks (a0 : ByteArray) (a1 : Int) (a2 : ByteArray) (h : a0.size + 1 + (1 + (a2.size + 1 + 0)) ≤ 1048576) : ∃ k, gussetlaw04_LexBlanks.f k a0 a1 a2 = some true := by
  obtain ⟨l, rfl⟩ : ∃ l, a0 = B l := ⟨_, (B_of a0).symm⟩
  obtain ⟨note, rfl⟩ : ∃ l, a2 = B l := ⟨_, (B_of a2).symm⟩
  rw [B_size, B_size] at h
  have hl : l.length ≤ 1073741824 := by omega
  have hsure : ∀ (xs : List S36), Ev (fun k => gussetlaw04_LexBlanks.j0 k (B l) a1 (B note) xs true) true := fun xs => Ev.step (fun k => by rw [gussetlaw04_LexBlanks.j0, if_pos rfl]) sure_bind
  apply Ev.rounds
  unfold gussetlaw04_LexBlanks.f
  refine Ev.bind (f := fun k bt535 => _) (lex_ev true l hl) ?_
  cases hs : lexS true l with
  | error p =>
    obtain ⟨m, e⟩ := p
    have he := (lex_err l m e hs).1
    show Ev (fun k => if ((e : Nat) : Int) = 0 then _ else _) true
    simp only [if_neg (show ¬ ((e : Nat) : Int) = 0 by omega)]
    exact hsure _
  | ok ts =>
    have hc := lex_count l ts hs
    have hsrc : srcP l.length [] (.ok ts) = (ts.map (tok36 l.length), 0, 0) := by simp [srcP]
    rw [hsrc]
    show Ev (fun k => if (0 : Int) = 0 then _ else _) true
    simp only [if_true]
    by_cases h0 : ts = []
    · subst h0
      exact hsure _
    · have hpos := List.length_pos_iff.2 h0
      have hne : (((ts.map (tok36 l.length)).length : Int) == 0) = false := by rw [beq_eq_false_iff_ne, List.length_map]; omega
      rw [hne]
      have hw1 : wrap64 (((ts.map (tok36 l.length)).length : Int) - 1) = ((ts.length - 1 : Nat) : Int) := by rw [List.length_map]; unfold wrap64; omega
      obtain ⟨w, hw, hwl⟩ : ∃ w : Nat, mx 0 (mn a1 ((ts.length - 1 : Nat) : Int)) = (w : Int) ∧ w < ts.length := by
        refine ⟨(mx 0 (mn a1 ((ts.length - 1 : Nat) : Int))).toNat, ?_, ?_⟩
        · unfold mx mn
          repeat' split
          all_goals omega
        · unfold mx mn
          repeat' split
          all_goals omega
      refine Ev.step (f := fun k => gussetlaw04_LexBlanks.l0 k (B l) (w : Int) (B note) (ts.map (tok36 l.length)) (⟨#[32, 9, 10]⟩ : ByteArray) 0) (fun k => by rw [gussetlaw04_LexBlanks.j0, if_neg (by decide), hw1, hw]) ?_
      have hxw : w < (ts.map (tok36 l.length)).length := by simpa using hwl
      obtain ⟨hr0, hr1⟩ := lex_rem l ts hs ts[w] (List.getElem_mem _)
      have hat : (rd_T36 (ts.map (tok36 l.length)) (w : Int)).f3 = ((l.length - ts[w].2 : Nat) : Int) := by rw [rd_nat _ w hxw, List.getElem_map]; rfl
      have hdl : (l.drop (l.length - ts[w].2)).length = ts[w].2 := by rw [List.length_drop]; omega
      refine blanks_l0 l (ts.map (tok36 l.length)) (w : Int) (fun nt i hn hi h42 h47 => ?_) note [] (by simp; omega) (by simp) (by simp)
      obtain ⟨ts', k1, k2⟩ := lex_blanks (s := true) (b := l.drop (l.length - ts[w].2)) (more := moreOf nt) (by
        have := skip_more nt (l.drop (l.length - ts[w].2)) ⟨h42, h47⟩
        unfold moreOf
        simpa using this) (Or.inr ⟨_, rfl⟩) l (l.take (l.length - ts[w].2)) ts (by rw [List.take_append_drop]) hs (fun e => by rw [e] at hdl; simp at hdl; omega) ⟨ts[w], List.getElem_mem _, hdl.symm⟩
      have hlen : (l.take (l.length - ts[w].2) ++ (moreOf nt ++ l.drop (l.length - ts[w].2))).length ≤ 1073741824 := by
        simp only [List.length_append, List.length_take, hdl, moreOf, List.length_cons, List.length_nil]
        omega
      have hev := lex_ev true _ hlen
      rw [k1] at hev
      refine blanks_end l (ts.map (tok36 l.length)) w hxw (l.length - ts[w].2) hat (by omega) (by omega) nt hn i hi (ts'.map (tok36 _)) 0 (by simpa [srcP] using hev) (Same_toks _ _ _ _ ?_ k2)
      have := lex_count _ ts' k1
      omega
end Go.Proofs.YtbnpgobjbokboaaDoor.Pure
