/- The pure statement of LexRises: tokens begin one behind the other, within the source, none at a blank; a name's, word's and sign's text stands there. -/
import Derived.Test.YtbnpgobjbokboaaDoorPLexx8
import Derived.Test.YtbnpgobjbokboaaDoorPLexx24
import Derived.Test.YtbnpgobjbokboaaDoorBri
namespace Go.Proofs.YtbnpgobjbokboaaDoor.Pure
open Go.RowKit Go.Proofs.YtbnpgobjbokboaaDoor.PLex Go.Proofs.YtbnpgobjbokboaaDoor.Lx Go.Proofs.YtbnpgobjbokboaaDoorW.PrintWords Go.Proofs.YtbnpgobjbokboaaDoorW.PrintLast
set_option linter.unusedVariables false
set_option linter.unusedSimpArgs false
/-- What a token's text is, by its kind. -/
theorem tok_kind {s : Bool} {l : L} {t : T} {n : Nat} (h : tokS s l = .ok (t, n)) : ((t.kind = 1 ∨ t.kind = 2 ∨ t.kind = 5) ∧ t.text = l.take n) ∨ t.kind = 3 ∨ t.kind = 4 := by
  rcases tok_cases h with ⟨h0, rfl, rfl⟩ | ⟨h0, ⟨d, r, hl, hdg⟩, h1, h2, rfl, rfl⟩ | ⟨h0, d, r, z', rfl, hdg, hc, hu, ht, rfl⟩ | ⟨h0, d, r, g, rfl, hdg, hc, hf, rfl, rfl⟩
  · refine Or.inl ⟨?_, rfl⟩
    show (if _ then 2 else 1) = 1 ∨ (if _ then 2 else 1) = 2 ∨ (if _ then 2 else 1) = 5
    split
    · exact Or.inr (Or.inl rfl)
    · exact Or.inl rfl
  · exact Or.inr (Or.inl rfl)
  · rw [ht]
    exact Or.inr (Or.inr rfl)
  · obtain ⟨hp, _⟩ := List.find?_eq_some_iff_append.1 hf
    rw [List.isPrefixOf_iff_prefix, List.prefix_iff_eq_take] at hp
    exact Or.inl ⟨Or.inr (Or.inr rfl), hp⟩
theorem wsub (n m : Nat) (h : n ≤ 1073741824) (hm : m ≤ n) : wrap64 ((n : Int) - (m : Int)) = ((n - m : Nat) : Int) := by unfold wrap64; omega
theorem wsub1 (n : Nat) (h : n ≤ 2147483648) (h0 : 0 < n) : wrap64 ((n : Int) - 1) = ((n - 1 : Nat) : Int) := by unfold wrap64; omega
theorem wadd (n m : Nat) (h : n ≤ 1073741824) (hm : m ≤ 1073741824) : wrap64 ((n : Int) + (m : Int)) = ((n + m : Nat) : Int) := by unfold wrap64; omega
theorem ev_shift3 {α : Type} {g f : Nat → Option α} {r : α} (h : ∀ k, g (k + 3) = f k) (k : Ev f r) : Ev g r := by
  obtain ⟨K, k⟩ := k
  exact ⟨K + 3, fun m hm => by
    obtain ⟨q, rfl⟩ : ∃ q, m = q + 3 := ⟨m - 3, by omega⟩
    rw [h]
    exact k q (by omega)⟩
theorem rises_j1 (k : Nat) (xs : List S36) (s : L) (p j : Nat) (kd : Int) (tx : ByteArray) (tn last : Int) (c : Int) (hb : bt (B s) (p : Int) = c) (hc : 32 < c) (hp : p < s.length) (hlast : last < (p : Int)) (hj : j < xs.length) (hx : rd_T36 xs (j : Int) = ⟨kd, tx, tn, (p : Int)⟩) :
    gussetlaw04_LexRises.l0 (k + 2) (B s) xs 0 last (j : Int) = (if kd = 1 then gussetlaw04_LexRises.j2 k (B s) xs 0 (j : Int) true kd tx tn (p : Int) else if kd = 2 then gussetlaw04_LexRises.j2 k (B s) xs 0 (j : Int) true kd tx tn (p : Int) else gussetlaw04_LexRises.j2 k (B s) xs 0 (j : Int) (kd == 5) kd tx tn (p : Int)) := by
  have h1 : ¬ ((p : Int) ≤ last) := by omega
  have h2 : ¬ ((p : Int) ≥ ((B s).size : Int)) := by rw [B_size]; omega
  have h3 : (p : Int) < ((B s).size : Int) := by rw [B_size]; omega
  have h4 : decide (c ≤ 32) = false := decide_eq_false (by omega)
  rw [gussetlaw04_LexRises.l0, if_pos (by omega), if_pos (by omega), hx]
  dsimp only
  rw [if_neg h1, if_neg h2, if_pos (by omega), if_pos h3, hb, h4, gussetlaw04_LexRises.j1, if_neg (by decide)]
theorem rises_far (k : Nat) (xs : List S36) (s : L) (p j : Nat) (kd : Int) (tx : ByteArray) (tn : Int) (hj : j ≤ 1073741824) : gussetlaw04_LexRises.j2 (k + 1) (B s) xs 0 (j : Int) false kd tx tn (p : Int) = gussetlaw04_LexRises.l0 k (B s) xs 0 (p : Int) ((j + 1 : Nat) : Int) := by
  rw [gussetlaw04_LexRises.j2, if_neg (by decide), wrap_1 _ (by omega)]
theorem rises_near (k : Nat) (xs : List S36) (s : L) (p n j : Nat) (kd : Int) (tx : ByteArray) (tn : Int) (hj : j ≤ 1073741824) (hs : s.length ≤ 1073741824) (hn : 0 < n) (hpn : p + n ≤ s.length) (htl : tx.size = n) (hext : ((B s).extract p (p + n)).toList = tx.toList) :
    gussetlaw04_LexRises.j2 (k + 1) (B s) xs 0 (j : Int) true kd tx tn (p : Int) = gussetlaw04_LexRises.l0 k (B s) xs 0 ((p + n - 1 : Nat) : Int) ((j + 1 : Nat) : Int) := by
  have w1 : wrap64 (((B s).size : Int) - (p : Int)) = ((s.length - p : Nat) : Int) := by rw [B_size, wsub _ _ hs (by omega)]
  have w2 : wrap64 ((p : Int) + (tx.size : Int)) = ((p + n : Nat) : Int) := by rw [htl, wadd _ _ (by omega) (by omega)]
  have w3 : wrap64 (((p + n : Nat) : Int) - 1) = ((p + n - 1 : Nat) : Int) := wsub1 _ (by omega) (by omega)
  have h1 : ¬ (((s.length - p : Nat) : Int) < (tx.size : Int)) := by omega
  have h2 : ((p + n : Nat) : Int) ≤ ((B s).size : Int) := by rw [B_size]; omega
  rw [gussetlaw04_LexRises.j2, if_pos rfl, w1, w2, if_neg h1, if_pos (by omega), if_pos (by omega), if_pos h2, Int.toNat_natCast, Int.toNat_natCast, if_pos hext, w3, wrap_1 _ (by omega)]
theorem rises_l0 (sc : Bool) (xs : List S36) (s : L) (hn : s.length ≤ 1073741824) (hxl : xs.length ≤ 1073741824) (l : L) : ∀ (a : L) (ts : List (T × Nat)) (j : Nat) (last : Int), s = a ++ l → lexS sc l = .ok ts → xs.drop j = ts.map (tok36 s.length) → j ≤ xs.length → -1 ≤ last → last < a.length →
    Ev (fun k => gussetlaw04_LexRises.l0 k (B s) xs 0 last (j : Int)) true := by
  refine lex_ind sc (P := fun l => ∀ (a : L) (ts : List (T × Nat)) (j : Nat) (last : Int), s = a ++ l → lexS sc l = .ok ts → xs.drop j = ts.map (tok36 s.length) → j ≤ xs.length → -1 ≤ last → last < a.length →
    Ev (fun k => gussetlaw04_LexRises.l0 k (B s) xs 0 last (j : Int)) true) ?_ ?_ ?_ ?_ _ l (Nat.le_refl _)
  · intro l r h a ts j last hs h2
    rw [lex_open h] at h2
    cases h2
  · intro l h a ts j last hs h2 hd hj hl1 hl2
    rw [lex_done h] at h2
    obtain rfl := Except.ok.inj h2
    have hj2 : xs.length ≤ j := by
      have := congrArg List.length hd
      simp at this
      omega
    refine Ev.step (f := fun k => (gussetlaw04_sure.f k).bind fun t => some t) (fun k => ?_) sure_bind
    rw [gussetlaw04_LexRises.l0, if_neg (by omega), if_pos rfl]
  · intro l r e h hr ht a ts j last hs h2
    rw [lex_bad h hr ht] at h2
    cases h2
  · intro l r t n h hr ht ih a ts j last hs h2 hd hj hl1 hl2
    rw [lex_step h hr ht] at h2
    obtain ⟨ts', h3, rfl⟩ := map_ok h2
    obtain ⟨x, hx⟩ := skip_split h
    obtain ⟨t1, t2, t3⟩ := tok_len ht
    have hs2 : s = (a ++ x) ++ r := by rw [hs, hx, List.append_assoc]
    have hsl : s.length = (a ++ x).length + r.length := by rw [hs2]; simp only [List.length_append]
    have hjl : j < xs.length := by
      have := congrArg List.length hd
      simp at this
      omega
    rw [List.drop_eq_getElem_cons hjl, List.map_cons] at hd
    injection hd with hd1 hd2
    have hx1 : xs[j] = ⟨(t.kind : Int), B t.text, (t.n : Int), (((a ++ x).length : Nat) : Int)⟩ := by
      rw [hd1]
      unfold tok36
      simp only
      rw [show s.length - r.length = (a ++ x).length by omega]
    have hs3 : s = (a ++ x ++ r.take n) ++ r.drop n := by rw [hs2, List.append_assoc (a ++ x), List.take_append_drop]
    have hl3 : ((a ++ x ++ r.take n).length : Int) = (((a ++ x).length : Nat) : Int) + (n : Int) := by simp only [List.length_append, List.length_take]; omega
    obtain ⟨c, r', hr', hc⟩ := t3
    have hb : bt (B s) (((a ++ x).length : Nat) : Int) = (c.toNat : Int) := by rw [hs2, hr', B_bt, nb_app]
    have hal : last < (((a ++ x).length : Nat) : Int) := by rw [List.length_append]; omega
    have hrd : rd_T36 xs (j : Int) = ⟨(t.kind : Int), B t.text, (t.n : Int), (((a ++ x).length : Nat) : Int)⟩ := by rw [rd_nat xs j hjl, hx1]
    have hone := fun k => rises_j1 (k + 1) xs s (a ++ x).length j _ _ _ last _ hb (by omega) (by omega) hal hjl hrd
    have hpn : (a ++ x).length + n ≤ s.length := by omega
    have hjm : j ≤ 1073741824 := by omega
    have htk : B (r.take n) = (B s).extract (a ++ x).length ((a ++ x).length + n) := by
      rw [B_extract, hs2, drop_len, Nat.add_sub_cancel_left]
    have htn : (B (r.take n)).size = n := by rw [B_size, List.length_take]; omega
    clear hx1 hd1 hrd hb hr' hc hsl
    generalize (a ++ x).length = p at *
    by_cases hk : t.kind = 3 ∨ t.kind = 4
    · have key : ∀ k, gussetlaw04_LexRises.l0 (k + 3) (B s) xs 0 last (j : Int) = gussetlaw04_LexRises.l0 k (B s) xs 0 (p : Int) ((j + 1 : Nat) : Int) := by
        intro k
        have hne : (((t.kind : Nat) : Int) == 5) = false := by rw [beq_eq_false_iff_ne]; omega
        rw [hone, if_neg (by omega), if_neg (by omega), hne, rises_far k xs s p j _ _ _ hjm]
      exact ev_shift3 key (ih _ ts' (j + 1) (p : Int) hs3 h3 hd2 (by omega) (by omega) (by rw [hl3]; omega))
    · obtain ⟨hk1, htx⟩ := (tok_kind ht).resolve_right hk
      have hj2 : ∀ k, gussetlaw04_LexRises.j2 (k + 1) (B s) xs 0 (j : Int) true (t.kind : Int) (B t.text) (t.n : Int) (p : Int) = gussetlaw04_LexRises.l0 k (B s) xs 0 ((p + n - 1 : Nat) : Int) ((j + 1 : Nat) : Int) := fun k =>
        rises_near k xs s p n j _ _ _ hjm hn t1 hpn (by rw [htx]; exact htn) (by rw [htx, htk])
      have key : ∀ k, gussetlaw04_LexRises.l0 (k + 3) (B s) xs 0 last (j : Int) = gussetlaw04_LexRises.l0 k (B s) xs 0 ((p + n - 1 : Nat) : Int) ((j + 1 : Nat) : Int) := by
        intro k
        rw [hone]
        rcases hk1 with hk1 | hk1 | hk1
        · rw [if_pos (by omega), hj2]
        · rw [if_neg (by omega), if_pos (by omega), hj2]
        · rw [if_neg (by omega), if_neg (by omega), show (((t.kind : Nat) : Int) == 5) = true by rw [hk1]; rfl, hj2]
      exact ev_shift3 key (ih _ ts' (j + 1) ((p + n - 1 : Nat) : Int) hs3 h3 hd2 (by omega) (by omega) (by rw [hl3]; omega))
theorem LexRises (a0 : ByteArray) (a1 : Bool) (h : a0.size + 1 + 1 + 0 ≤ 1048576) : ∃ k, gussetlaw04_LexRises.f k a0 a1 = some true := by
  obtain ⟨l, rfl⟩ : ∃ l, a0 = B l := ⟨_, (B_of a0).symm⟩
  rw [B_size] at h
  have hl : l.length ≤ 1073741824 := by omega
  apply Ev.rounds
  unfold gussetlaw04_LexRises.f
  refine Ev.bind (f := fun k bt526 => _) (lex_ev a1 l hl) ?_
  cases hs : lexS a1 l with
  | error p =>
    obtain ⟨m, e⟩ := p
    obtain ⟨he, hm1, hm2⟩ := lex_err l m e hs
    show Ev (fun k => if ((e : Nat) : Int) = 0 then _ else (if ((l.length - m : Nat) : Int) ≥ 0 then (if ((l.length - m : Nat) : Int) < ((B l).size : Int) then _ else _) else _)) true
    simp only [if_neg (show ¬ ((e : Nat) : Int) = 0 by omega), if_pos (show ((l.length - m : Nat) : Int) ≥ 0 by omega), if_pos (show ((l.length - m : Nat) : Int) < ((B l).size : Int) by rw [B_size]; omega)]
    exact sure_bind
  | ok ts =>
    have hc := lex_count l ts hs
    show Ev (fun k => if (0 : Int) = 0 then gussetlaw04_LexRises.l0 k (B l) ([] ++ ts.map (tok36 l.length)) 0 (-1) 0 else _) true
    simp only [if_true, List.nil_append]
    exact rises_l0 a1 (ts.map (tok36 l.length)) l hl (by simp; omega) l [] ts 0 (-1) rfl hs (by simp) (by omega) (by omega) (by simp)
end Go.Proofs.YtbnpgobjbokboaaDoor.Pure
