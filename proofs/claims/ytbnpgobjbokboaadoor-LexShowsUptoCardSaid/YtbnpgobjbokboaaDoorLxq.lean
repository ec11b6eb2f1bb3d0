/- Lx, as this claim needs it. -/
import Derived.Lib.DecodeN
import Derived.Lib.RuneBytes
namespace Go.Proofs.YtbnpgobjbokboaaDoor.Lx
set_option linter.unusedVariables false
set_option linter.unusedSimpArgs false
abbrev L := List UInt8
def nb (l : L) (j : Nat) : Nat := (l.getD j 0).toNat
def dec (l : L) : Nat × Nat := Lib.decodeN l.length (nb l 0) (nb l 1) (nb l 2) (nb l 3)
def letter (r : Nat) : Bool := (97 ≤ r && r ≤ 122) || (65 ≤ r && r ≤ 90) || (192 ≤ r && r ≤ 591 && r != 215 && r != 247) || (913 ≤ r && r ≤ 969 && r != 930) || (1040 ≤ r && r ≤ 1103)
def okR (script first : Bool) (r : Nat) : Bool := letter r || r == 95 || (script && r == 36) || (!first && 48 ≤ r && r ≤ 57)
def sgn (script first : Bool) : L → Nat
  | [] => 0
  | c :: r => if c.toNat < 128 then (if okR script first c.toNat = true then 1 else 0) else
    match r with
    | [] => 0
    | d :: _ => if c.toNat / 32 = 6 ∧ d.toNat / 64 = 2 ∧ 128 ≤ c.toNat % 32 * 64 + d.toNat % 64 ∧ okR script first (c.toNat % 32 * 64 + d.toNat % 64) = true then 2 else 0
theorem sgn_a {s f : Bool} {c : UInt8} {r : L} (h : c.toNat < 128) : sgn s f (c :: r) = if okR s f c.toNat = true then 1 else 0 := by
  cases r <;> (unfold sgn; exact if_pos h)
theorem sgn_h1 {s f : Bool} {c : UInt8} (h : ¬ c.toNat < 128) : sgn s f [c] = 0 := by
  unfold sgn
  exact if_neg h
theorem sgn_h2 {s f : Bool} {c d : UInt8} {r : L} (h : ¬ c.toNat < 128) : sgn s f (c :: d :: r) = if c.toNat / 32 = 6 ∧ d.toNat / 64 = 2 ∧ 128 ≤ c.toNat % 32 * 64 + d.toNat % 64 ∧ okR s f (c.toNat % 32 * 64 + d.toNat % 64) = true then 2 else 0 := by
  unfold sgn
  exact if_neg h
theorem okR_le {s f : Bool} {r : Nat} (h : okR s f r = true) : r ≤ 1103 ∧ 36 ≤ r := by
  unfold okR letter at h
  simp only [Bool.or_eq_true, Bool.and_eq_true, decide_eq_true_eq, beq_iff_eq, bne_iff_ne] at h
  omega
theorem nb_lt (l : L) (j : Nat) : nb l j < 256 := (l.getD j 0).toNat_lt
theorem sgn_dec (s f : Bool) (l : L) : sgn s f l = if okR s f (dec l).1 = true then (dec l).2 else 0 := by
  have h36 : ∀ r, okR s f r = true → r ≤ 1103 ∧ 36 ≤ r := fun r => okR_le
  match l with
  | [] =>
    have : dec [] = (0, 1) := rfl
    rw [this]
    have h0 : ¬ okR s f 0 = true := fun h => by have := h36 0 h; omega
    rw [if_neg h0]
    rfl
  | c :: r =>
    by_cases hc : c.toNat < 128
    ·
     have : dec (c :: r) = (c.toNat, 1) := by
       unfold dec Lib.decodeN
       rw [if_pos (by simpa [nb] using hc)]
       rfl
     rw [sgn_a hc, this]
    match r with
    | [] =>
      have : dec [c] = (65533, 1) := by
        unfold dec Lib.decodeN
        have e0 : nb [c] 0 = c.toNat := rfl
        have e1 : [c].length = 1 := rfl
        rw [e0, e1]
        simp only [show ¬ (1 : Nat) < 1 from by omega, show ¬ (2 : Nat) < 1 from by omega, show ¬ (3 : Nat) < 1 from by omega, false_and, and_false, if_false, if_neg hc]
      rw [sgn_h1 hc, this]
      have h0 : ¬ okR s f 65533 = true := fun h => by have := h36 _ h; omega
      rw [if_neg h0]
    | d :: t =>
      rw [sgn_h2 hc]
      have e0 : nb (c :: d :: t) 0 = c.toNat := rfl
      have e1 : nb (c :: d :: t) 1 = d.toNat := rfl
      have hl : 1 < (c :: d :: t).length := by simp
      have hc2 : c.toNat < 256 := c.toNat_lt
      unfold dec Lib.decodeN
      rw [e0, e1, if_neg hc]
      by_cases h6 : c.toNat / 32 = 6 ∧ d.toNat / 64 = 2
      rotate_left
      ·
       rw [if_neg (show ¬ (c.toNat / 32 = 6 ∧ (1 < (c :: d :: t).length ∧ d.toNat / 64 = 2)) from fun h => h6 ⟨h.1, h.2.2⟩), if_neg (fun h => h6 ⟨h.1, h.2.1⟩)]
       have hk : ∀ x : Nat × Nat, 1103 < x.1 → 0 = if okR s f x.1 = true then x.2 else 0 := fun x hx => by
         rw [if_neg (fun h => by have := h36 _ h; omega)]
       apply hk
       repeat' split
       all_goals first | (show 1103 < 65533; omega) | (simp only; omega)
      rw [if_pos (show c.toNat / 32 = 6 ∧ (1 < (c :: d :: t).length ∧ d.toNat / 64 = 2) from ⟨h6.1, hl, h6.2⟩)]
      by_cases h8 : c.toNat % 32 * 64 + d.toNat % 64 ≥ 128
      rotate_left
      ·
       rw [if_neg h8, if_neg (fun h => h8 h.2.2.1)]
       have h0 : ¬ okR s f 65533 = true := fun h => by have := h36 _ h; omega
       rw [if_neg h0]
      rw [if_pos h8]
      by_cases ho : okR s f (c.toNat % 32 * 64 + d.toNat % 64) = true
      ·
       rw [if_pos ⟨h6.1, h6.2, h8, ho⟩, if_pos ho]
      rw [if_neg (fun h => ho h.2.2.2), if_neg ho]
theorem sgn_pos {s f : Bool} {l : L} (h : 0 < sgn s f l) : (∃ c r, l = c :: r ∧ c.toNat < 128 ∧ okR s f c.toNat = true ∧ sgn s f l = 1) ∨ (∃ c d r, l = c :: d :: r ∧ 128 ≤ c.toNat ∧ c.toNat / 32 = 6 ∧ d.toNat / 64 = 2 ∧ 128 ≤ c.toNat % 32 * 64 + d.toNat % 64 ∧ okR s f (c.toNat % 32 * 64 + d.toNat % 64) = true ∧ sgn s f l = 2) := by
  match l with
  | [] => simp [sgn] at h
  | c :: r =>
    by_cases hc : c.toNat < 128
    ·
     by_cases ho : okR s f c.toNat = true
     rotate_left
     ·
      rw [sgn_a hc, if_neg ho] at h
      omega
     exact Or.inl ⟨c, r, rfl, hc, ho, by rw [sgn_a hc, if_pos ho]⟩
    match r with
    | [] => rw [sgn_h1 hc] at h; omega
    | d :: t =>
      by_cases hh : c.toNat / 32 = 6 ∧ d.toNat / 64 = 2 ∧ 128 ≤ c.toNat % 32 * 64 + d.toNat % 64 ∧ okR s f (c.toNat % 32 * 64 + d.toNat % 64) = true
      rotate_left
      ·
       rw [sgn_h2 hc, if_neg hh] at h
       omega
      exact Or.inr ⟨c, d, t, rfl, by omega, hh.1, hh.2.1, hh.2.2.1, hh.2.2.2, by rw [sgn_h2 hc]; exact if_pos hh⟩
theorem sgn_le (s f : Bool) (l : L) : sgn s f l ≤ l.length := by
  rcases Nat.eq_zero_or_pos (sgn s f l) with h | h
  ·
   omega
  rcases sgn_pos h with ⟨c, r, rfl, _, _, e⟩ | ⟨c, d, r, rfl, _, _, _, _, _, e⟩ <;> rw [e] <;> simp
theorem sgn_local {s f : Bool} {l : L} (h : 0 < sgn s f l) (y : L) : sgn s f (l.take (sgn s f l) ++ y) = sgn s f l := by
  rcases sgn_pos h with ⟨c, r, rfl, h1, h2, e⟩ | ⟨c, d, r, rfl, h0, h1, h2, h3, h4, e⟩
  ·
   rw [e]
   show sgn s f (c :: y) = 1
   rw [sgn_a h1, if_pos h2]
  rw [e]
  show sgn s f (c :: d :: y) = 2
  rw [sgn_h2 (by omega)]
  exact if_pos ⟨h1, h2, h3, h4⟩
def Cut (y : L) : Prop := y = [] ∨ ∃ r, y = 32 :: r
theorem okR32 (s f : Bool) : okR s f 32 = false := by cases s <;> cases f <;> decide
theorem sgn_cut {s f : Bool} {c z y : L} (h : sgn s f (c ++ z) = 0) (hy : Cut y) : sgn s f (c ++ y) = 0 := by
  match c with
  | [] =>
    rcases hy with rfl | ⟨r, rfl⟩
    ·
     rfl
    show sgn s f (32 :: r) = 0
    rw [sgn_a (by decide), if_neg (by rw [show (32 : UInt8).toNat = 32 from rfl, okR32]; decide)]
  | [a] =>
    by_cases ha : a.toNat < 128
    rotate_left
    ·
     show sgn s f (a :: y) = 0
     rcases hy with rfl | ⟨r, rfl⟩
     ·
      exact sgn_h1 ha
     rw [sgn_h2 ha]
     exact if_neg (fun hh => by have := hh.2.1; revert this; decide)
    have : sgn s f ([a] ++ z) = if okR s f a.toNat = true then 1 else 0 := by
      show sgn s f (a :: z) = _
      rw [sgn_a ha]
    rw [this] at h
    show sgn s f (a :: y) = 0
    rw [sgn_a ha]
    exact h
  | a :: d :: t =>
    have e : ∀ x, sgn s f ((a :: d :: t) ++ x) = sgn s f (a :: d :: t) := fun x => by
      show sgn s f (a :: d :: (t ++ x)) = _
      by_cases ha : a.toNat < 128
      ·
       rw [sgn_a ha, sgn_a ha]
      rw [sgn_h2 ha, sgn_h2 ha]
    rw [e] at h ⊢
    exact h
def tail (s : Bool) (l : L) : Nat := if h : sgn s false l = 0 then 0 else sgn s false l + tail s (l.drop (sgn s false l))
termination_by l.length
decreasing_by
  have := sgn_le s false l
  rw [List.length_drop]
  omega
def nameS (s : Bool) (l : L) : Nat := if sgn s true l = 0 then 0 else sgn s true l + tail s (l.drop (sgn s true l))
theorem tail_zero {s : Bool} {l : L} (h : sgn s false l = 0) : tail s l = 0 := by rw [tail, dif_pos h]
theorem tail_step {s : Bool} {l : L} (h : ¬ sgn s false l = 0) : tail s l = sgn s false l + tail s (l.drop (sgn s false l)) := by rw [tail, dif_neg h]
theorem tail_ind (s : Bool) {P : L → Prop} (h0 : ∀ l, sgn s false l = 0 → P l) (h1 : ∀ l, ¬ sgn s false l = 0 → P (l.drop (sgn s false l)) → P l) : ∀ (n : Nat) (l : L), l.length ≤ n → P l := by
  intro n
  induction n with
  | zero =>
    intro l hl
    refine h0 l ?_
    have := sgn_le s false l
    omega
  | succ n ih =>
    intro l hl
    by_cases h : sgn s false l = 0
    ·
     exact h0 l h
    refine h1 l h (ih _ ?_)
    rw [List.length_drop]
    omega
theorem tail_le (s : Bool) (l : L) : tail s l ≤ l.length := by
  refine tail_ind s (P := fun l => tail s l ≤ l.length) ?_ ?_ _ l (Nat.le_refl _)
  ·
   intro l h
   rw [tail_zero h]
   omega
  intro l h ih
  rw [tail_step h]
  have := sgn_le s false l
  rw [List.length_drop] at ih
  omega
theorem tail_stop (s : Bool) (l : L) : sgn s false (l.drop (tail s l)) = 0 := by
  refine tail_ind s (P := fun l => sgn s false (l.drop (tail s l)) = 0) ?_ ?_ _ l (Nat.le_refl _)
  ·
   intro l h
   rw [tail_zero h]
   exact h
  intro l h ih
  rw [tail_step h, ← List.drop_drop]
  exact ih
theorem take_split (a b : Nat) (l : L) : l.take (a + b) = l.take a ++ (l.drop a).take b := by rw [List.take_add]
theorem tail_local (s : Bool) (l : L) (y : L) (h : sgn s false y = 0) : tail s (l.take (tail s l) ++ y) = tail s l := by
  refine tail_ind s (P := fun l => tail s (l.take (tail s l) ++ y) = tail s l) ?_ ?_ _ l (Nat.le_refl _)
  ·
   intro l h0
   rw [tail_zero h0]
   exact tail_zero h
  intro l h0 ih
  have hl := sgn_local (y := (l.drop (sgn s false l)).take (tail s (l.drop (sgn s false l))) ++ y) (Nat.pos_of_ne_zero h0)
  have hle := sgn_le s false l
  rw [tail_step h0, take_split, List.append_assoc]
  rw [tail_step (by rw [hl]; exact h0), hl]
  rw [List.drop_append_of_le_length (by rw [List.length_take]; omega), List.drop_of_length_le (by rw [List.length_take]; omega), List.nil_append, ih]
theorem nameS_le (s : Bool) (l : L) : nameS s l ≤ l.length := by
  unfold nameS
  split
  ·
   omega
  have h1 := sgn_le s true l
  have h2 := tail_le s (l.drop (sgn s true l))
  rw [List.length_drop] at h2
  omega
theorem nameS_pos {s : Bool} {l : L} : nameS s l = 0 ↔ sgn s true l = 0 := by
  unfold nameS
  split <;> omega
theorem sgn_first {s : Bool} {l : L} (h : 0 < sgn s true l) : sgn s false l = sgn s true l := by
  have mono : ∀ r, okR s true r = true → okR s false r = true := fun r hr => by
    unfold okR at hr ⊢
    simp only [Bool.not_true, Bool.false_and, Bool.or_false] at hr
    rw [hr]
    simp
  rcases sgn_pos h with ⟨c, r, rfl, h1, h2, e⟩ | ⟨c, d, r, rfl, h0, h1, h2, h3, h4, e⟩
  ·
   rw [e, sgn_a h1, if_pos (mono _ h2)]
  rw [e, sgn_h2 (by omega)]
  exact if_pos ⟨h1, h2, h3, mono _ h4⟩
theorem nameS_local (s : Bool) (l : L) (y : L) (h0 : nameS s l ≠ 0) (h : sgn s false y = 0) : nameS s (l.take (nameS s l) ++ y) = nameS s l := by
  have hs : ¬ sgn s true l = 0 := fun e => h0 (nameS_pos.2 e)
  have hn : nameS s l = sgn s true l + tail s (l.drop (sgn s true l)) := by unfold nameS; rw [if_neg hs]
  have hl := sgn_local (y := (l.drop (sgn s true l)).take (tail s (l.drop (sgn s true l))) ++ y) (Nat.pos_of_ne_zero hs)
  have hle := sgn_le s true l
  rw [hn, take_split, List.append_assoc]
  unfold nameS
  rw [hl, if_neg hs]
  rw [List.drop_append_of_le_length (by rw [List.length_take]; omega), List.drop_of_length_le (by rw [List.length_take]; omega), List.nil_append, tail_local s _ y h]
theorem nameS_stop (s : Bool) (l : L) (h0 : nameS s l ≠ 0) : sgn s false (l.drop (nameS s l)) = 0 := by
  have hs : ¬ sgn s true l = 0 := fun e => h0 (nameS_pos.2 e)
  have hn : nameS s l = sgn s true l + tail s (l.drop (sgn s true l)) := by unfold nameS; rw [if_neg hs]
  rw [hn, ← List.drop_drop]
  exact tail_stop s _
def blank (c : UInt8) : Bool := c.toNat == 9 || c.toNat == 10 || c.toNat == 13 || c.toNat == 32
def close : L → Option L
  | [] => none
  | c :: r => if c = 42 ∧ r.head? = some 47 then some r.tail else close r
theorem close_le : ∀ {l t : L}, close l = some t → t.length ≤ l.length
  | [], t, h => by simp [close] at h
  | c :: r, t, h => by
    rw [close] at h
    split at h
    · obtain rfl := Option.some.inj h
      rw [List.length_tail, List.length_cons]
      omega
    · have := close_le h
      rw [List.length_cons]
      omega
theorem dropWhile_all_nil {p : UInt8 → Bool} : ∀ {l : L}, (∀ x ∈ l, p x = true) → l.dropWhile p = []
  | [], _ => rfl
  | c :: r, h => by
    rw [List.dropWhile_cons_of_pos (h c (by simp))]
    exact dropWhile_all_nil (fun x hx => h x (by simp [hx]))
theorem dropWhile_le (p : UInt8 → Bool) (l : L) : (l.dropWhile p).length ≤ l.length := (List.dropWhile_sublist p).length_le
def skipS (l : L) : L × Bool :=
  match l with
  | [] => ([], true)
  | c :: r =>
    if blank c = true then skipS r
    else if c = 47 ∧ r.head? = some 47 then skipS (r.dropWhile (· != 10))
    else if c = 47 ∧ r.head? = some 42 then (match h : close r.tail with | none => (c :: r, false) | some t => skipS t)
    else (c :: r, true)
termination_by l.length
decreasing_by
  · simp
  · have := dropWhile_le (· != 10) r
    rw [List.length_cons]
    omega
  · have := close_le h
    rw [List.length_tail] at this
    rw [List.length_cons]
    omega
theorem skip_nil : skipS [] = ([], true) := by rw [skipS]
theorem skip_blank {c : UInt8} {r : L} (h : blank c = true) : skipS (c :: r) = skipS r := by rw [skipS, if_pos h]
theorem skip_line {r : L} (h : r.head? = some 47) : skipS (47 :: r) = skipS (r.dropWhile (· != 10)) := by rw [skipS, if_neg (by decide), if_pos ⟨rfl, h⟩]
theorem skip_note {r t : L} (h : r.head? = some 42) (ht : close r.tail = some t) : skipS (47 :: r) = skipS t := by
  rw [skipS, if_neg (by decide), if_neg (by rw [h]; decide), if_pos ⟨rfl, h⟩]
  split
  ·
   rename_i h2
   rw [ht] at h2
   cases h2
  rename_i h2
  rw [ht] at h2
  obtain rfl := Option.some.inj h2
  rfl
theorem skip_open {r : L} (h : r.head? = some 42) (ht : close r.tail = none) : skipS (47 :: r) = (47 :: r, false) := by
  rw [skipS, if_neg (by decide), if_neg (by rw [h]; decide), if_pos ⟨rfl, h⟩]
  split
  ·
   rfl
  rename_i h2
  rw [ht] at h2
  cases h2
def Stay (l : L) : Prop := ∃ c r, l = c :: r ∧ blank c = false ∧ ¬ (c = 47 ∧ (r.head? = some 47 ∨ r.head? = some 42))
theorem skip_stay {l : L} (h : Stay l) : skipS l = (l, true) := by
  obtain ⟨c, r, rfl, h1, h2⟩ := h
  rw [skipS, if_neg (by simp [h1]), if_neg (fun h => h2 ⟨h.1, Or.inl h.2⟩), if_neg (fun h => h2 ⟨h.1, Or.inr h.2⟩)]
theorem blank47 : blank 47 = false := by decide
theorem skip_ind {P : L → Prop} (h0 : P []) (hb : ∀ c r, blank c = true → P r → P (c :: r)) (hl : ∀ r, r.head? = some 47 → P (r.dropWhile (· != 10)) → P (47 :: r)) (hn : ∀ r t, r.head? = some 42 → close r.tail = some t → P t → P (47 :: r))
    (ho : ∀ r, r.head? = some 42 → close r.tail = none → P (47 :: r)) (hs : ∀ l, Stay l → P l) : ∀ (n : Nat) (l : L), l.length ≤ n → P l := by
  intro n
  induction n with
  | zero =>
    intro l hl
    obtain rfl := List.eq_nil_of_length_eq_zero (Nat.le_zero.1 hl)
    exact h0
  | succ n ih =>
    intro l hle
    match l with
    | [] => exact h0
    | c :: r =>
      rw [List.length_cons] at hle
      by_cases h1 : blank c = true
      ·
       exact hb c r h1 (ih r (by omega))
      by_cases h2 : c = 47 ∧ r.head? = some 47
      ·
       obtain ⟨rfl, h2⟩ := h2
       exact hl r h2 (ih _ (by have := dropWhile_le (· != 10) r; omega))
      by_cases h3 : c = 47 ∧ r.head? = some 42
      rotate_left
      ·
       exact hs _ ⟨c, r, rfl, by simpa using h1, fun h => h.2.elim (fun h4 => h2 ⟨h.1, h4⟩) (fun h4 => h3 ⟨h.1, h4⟩)⟩
      obtain ⟨rfl, h3⟩ := h3
      cases hc : close r.tail with
      | none => exact ho r h3 hc
      | some t => exact hn r t h3 hc (ih t (by have := close_le hc; rw [List.length_tail] at this; omega))
theorem close_suffix : ∀ {l t : L}, close l = some t → ∃ a, l = a ++ t
  | [], t, h => by simp [close] at h
  | c :: r, t, h => by
    rw [close] at h
    split at h
    · obtain rfl := Option.some.inj h
      match r with
      | [] => exact ⟨[c], rfl⟩
      | d :: r => exact ⟨[c, d], rfl⟩
    · obtain ⟨a, rfl⟩ := close_suffix h
      exact ⟨c :: a, rfl⟩
theorem skip_suffix (l : L) : (∃ a, l = a ++ (skipS l).1) ∧ ((skipS l).2 = true → (skipS l).1 = [] ∨ Stay (skipS l).1) ∧ ((skipS l).2 = false → (skipS l).1 ≠ []) := by
  refine skip_ind (P := fun l => (∃ a, l = a ++ (skipS l).1) ∧ ((skipS l).2 = true → (skipS l).1 = [] ∨ Stay (skipS l).1) ∧ ((skipS l).2 = false → (skipS l).1 ≠ [])) ?_ ?_ ?_ ?_ ?_ ?_ _ l (Nat.le_refl _)
  ·
   rw [skip_nil]
   exact ⟨⟨[], rfl⟩, fun _ => Or.inl rfl, fun h => by cases h⟩
  ·
   intro c r h ⟨⟨a, ha⟩, h2⟩
   rw [skip_blank h]
   exact ⟨⟨c :: a, by rw [List.cons_append, ← ha]⟩, h2⟩
  ·
   intro r h ⟨⟨a, ha⟩, h2⟩
   rw [skip_line h]
   refine ⟨⟨47 :: r.takeWhile (· != 10) ++ a, ?_⟩, h2⟩
   rw [List.append_assoc, ← ha, List.cons_append, List.takeWhile_append_dropWhile]
  ·
   intro r t h ht ⟨⟨a, ha⟩, h2⟩
   rw [skip_note h ht]
   obtain ⟨x, hx⟩ := close_suffix ht
   match r with
   | [] => cases h
   | d :: r =>
     refine ⟨⟨47 :: d :: x ++ a, ?_⟩, h2⟩
     rw [List.append_assoc, ← ha]
     show _ = 47 :: d :: (x ++ t)
     rw [← hx]
     rfl
  ·
   intro r h ht
   rw [skip_open h ht]
   exact ⟨⟨[], rfl⟩, fun h => by (cases h), fun _ => by simp⟩
  intro l h
  rw [skip_stay h]
  exact ⟨⟨[], rfl⟩, fun _ => Or.inr h, fun h => by (cases h)⟩
theorem skip_le (l : L) : (skipS l).1.length ≤ l.length := by
  obtain ⟨⟨a, ha⟩, _⟩ := skip_suffix l
  have := congrArg List.length ha
  rw [List.length_append] at this
  omega
theorem dec_1 {c : UInt8} {r : L} (h : c.toNat < 128) : dec (c :: r) = (c.toNat, 1) := by
  unfold dec Lib.decodeN
  rw [if_pos (by simpa [nb] using h)]
  rfl
theorem dec_2 {c d : UInt8} {r : L} (h1 : c.toNat / 32 = 6) (h2 : d.toNat / 64 = 2) (h3 : 128 ≤ c.toNat % 32 * 64 + d.toNat % 64) : dec (c :: d :: r) = (c.toNat % 32 * 64 + d.toNat % 64, 2) := by
  have e0 : nb (c :: d :: r) 0 = c.toNat := rfl
  have e1 : nb (c :: d :: r) 1 = d.toNat := rfl
  have hl : 1 < (c :: d :: r).length := by simp
  unfold dec Lib.decodeN
  rw [e0, e1, if_neg (by omega), if_pos ⟨h1, hl, h2⟩, if_pos h3]
def validN (n : Nat) : Prop := n < 55296 ∨ 57344 ≤ n ∧ n ≤ 1114111
instance (n : Nat) : Decidable (validN n) := by unfold validN; infer_instance
theorem dec_3 {c d e : UInt8} {r : L} (h1 : c.toNat / 16 = 14) (h2 : d.toNat / 64 = 2) (h3 : e.toNat / 64 = 2) (h4 : 2048 ≤ c.toNat % 16 * 4096 + d.toNat % 64 * 64 + e.toNat % 64) (h5 : validN (c.toNat % 16 * 4096 + d.toNat % 64 * 64 + e.toNat % 64)) :
    dec (c :: d :: e :: r) = (c.toNat % 16 * 4096 + d.toNat % 64 * 64 + e.toNat % 64, 3) := by
  have e0 : nb (c :: d :: e :: r) 0 = c.toNat := rfl
  have e1 : nb (c :: d :: e :: r) 1 = d.toNat := rfl
  have e2 : nb (c :: d :: e :: r) 2 = e.toNat := rfl
  have hl : 2 < (c :: d :: e :: r).length := by simp
  unfold dec Lib.decodeN
  rw [e0, e1, e2, if_neg (by omega), if_neg (by omega), if_pos ⟨h1, ⟨by omega, h2⟩, hl, h3⟩, if_pos ⟨h4, h5⟩]
theorem dec_4 {c d e f : UInt8} {r : L} (h1 : c.toNat / 8 = 30) (h2 : d.toNat / 64 = 2) (h3 : e.toNat / 64 = 2) (h3' : f.toNat / 64 = 2) (h4 : 65536 ≤ c.toNat % 8 * 262144 + d.toNat % 64 * 4096 + e.toNat % 64 * 64 + f.toNat % 64) (h5 : validN (c.toNat % 8 * 262144 + d.toNat % 64 * 4096 + e.toNat % 64 * 64 + f.toNat % 64)) :
    dec (c :: d :: e :: f :: r) = (c.toNat % 8 * 262144 + d.toNat % 64 * 4096 + e.toNat % 64 * 64 + f.toNat % 64, 4) := by
  have e0 : nb (c :: d :: e :: f :: r) 0 = c.toNat := rfl
  have e1 : nb (c :: d :: e :: f :: r) 1 = d.toNat := rfl
  have e2 : nb (c :: d :: e :: f :: r) 2 = e.toNat := rfl
  have e3 : nb (c :: d :: e :: f :: r) 3 = f.toNat := rfl
  have hl : 3 < (c :: d :: e :: f :: r).length := by simp
  unfold dec Lib.decodeN
  rw [e0, e1, e2, e3, if_neg (by omega), if_neg (by omega), if_neg (by omega), if_pos ⟨h1, ⟨by omega, h2⟩, ⟨by omega, h3⟩, hl, h3'⟩, if_pos ⟨h4, h5⟩]
theorem two_more {l : L} (h : 2 ≤ l.length) : ∃ d e r, l = d :: e :: r := by
  match l with
  | [] => simp at h
  | [d] => simp at h
  | d :: e :: r => exact ⟨d, e, r, rfl⟩
theorem three_more {l : L} (h : 3 ≤ l.length) : ∃ d e f r, l = d :: e :: f :: r := by
  match l with
  | [] => simp at h
  | [d] => simp at h
  | [d, e] => simp at h
  | d :: e :: f :: r => exact ⟨d, e, f, r, rfl⟩
theorem dec_cases (c : UInt8) (l : L) : (c.toNat < 128 ∧ dec (c :: l) = (c.toNat, 1)) ∨
    (∃ d r, l = d :: r ∧ c.toNat / 32 = 6 ∧ d.toNat / 64 = 2 ∧ 128 ≤ c.toNat % 32 * 64 + d.toNat % 64) ∨
    (∃ d e r, l = d :: e :: r ∧ c.toNat / 16 = 14 ∧ d.toNat / 64 = 2 ∧ e.toNat / 64 = 2 ∧ 2048 ≤ c.toNat % 16 * 4096 + d.toNat % 64 * 64 + e.toNat % 64 ∧ validN (c.toNat % 16 * 4096 + d.toNat % 64 * 64 + e.toNat % 64)) ∨
    (∃ d e f r, l = d :: e :: f :: r ∧ c.toNat / 8 = 30 ∧ d.toNat / 64 = 2 ∧ e.toNat / 64 = 2 ∧ f.toNat / 64 = 2 ∧ 65536 ≤ c.toNat % 8 * 262144 + d.toNat % 64 * 4096 + e.toNat % 64 * 64 + f.toNat % 64 ∧ validN (c.toNat % 8 * 262144 + d.toNat % 64 * 4096 + e.toNat % 64 * 64 + f.toNat % 64)) ∨
    (128 ≤ c.toNat ∧ dec (c :: l) = (65533, 1)) := by
  by_cases h0 : c.toNat < 128
  ·
   exact Or.inl ⟨h0, dec_1 h0⟩
  refine Or.inr ?_
  have g0 : nb (c :: l) 0 = c.toNat := rfl
  by_cases h1 : c.toNat / 32 = 6 ∧ (1 < (c :: l).length ∧ nb (c :: l) 1 / 64 = 2)
  ·
   by_cases h2 : nb (c :: l) 0 % 32 * 64 + nb (c :: l) 1 % 64 ≥ 128
   ·
    match l with
    | [] => exact absurd h1.2.1 (by simp)
    | d :: r => exact Or.inl ⟨d, r, rfl, h1.1, h1.2.2, h2⟩
   refine Or.inr (Or.inr (Or.inr ⟨by omega, ?_⟩))
   unfold dec Lib.decodeN
   rw [g0, if_neg h0, if_pos h1]
   rw [g0] at h2
   rw [if_neg h2]
  by_cases h2 : c.toNat / 16 = 14 ∧ (1 < (c :: l).length ∧ nb (c :: l) 1 / 64 = 2) ∧ (2 < (c :: l).length ∧ nb (c :: l) 2 / 64 = 2)
  ·
   by_cases h3 : c.toNat % 16 * 4096 + nb (c :: l) 1 % 64 * 64 + nb (c :: l) 2 % 64 ≥ 2048 ∧ validN (c.toNat % 16 * 4096 + nb (c :: l) 1 % 64 * 64 + nb (c :: l) 2 % 64)
   rotate_left
   ·
    refine Or.inr (Or.inr (Or.inr ⟨by omega, ?_⟩))
    unfold dec Lib.decodeN
    rw [g0, if_neg h0, if_neg h1, if_pos h2]
    unfold validN at h3
    rw [if_neg h3]
   obtain ⟨d, e, r, rfl⟩ := two_more (l := l) (by have := h2.2.2.1; rw [List.length_cons] at this; omega)
   have e1 : nb (c :: d :: e :: r) 1 = d.toNat := rfl
   have e2 : nb (c :: d :: e :: r) 2 = e.toNat := rfl
   rw [e1, e2] at h2 h3
   exact Or.inr (Or.inl ⟨d, e, r, rfl, h2.1, h2.2.1.2, h2.2.2.2, h3.1, h3.2⟩)
  by_cases h3 : c.toNat / 8 = 30 ∧ (1 < (c :: l).length ∧ nb (c :: l) 1 / 64 = 2) ∧ (2 < (c :: l).length ∧ nb (c :: l) 2 / 64 = 2) ∧ (3 < (c :: l).length ∧ nb (c :: l) 3 / 64 = 2)
  rotate_left
  ·
   refine Or.inr (Or.inr (Or.inr ⟨by omega, ?_⟩))
   unfold dec Lib.decodeN
   rw [g0, if_neg h0, if_neg h1, if_neg h2, if_neg h3]
  by_cases h4 : c.toNat % 8 * 262144 + nb (c :: l) 1 % 64 * 4096 + nb (c :: l) 2 % 64 * 64 + nb (c :: l) 3 % 64 ≥ 65536 ∧ validN (c.toNat % 8 * 262144 + nb (c :: l) 1 % 64 * 4096 + nb (c :: l) 2 % 64 * 64 + nb (c :: l) 3 % 64)
  rotate_left
  ·
   refine Or.inr (Or.inr (Or.inr ⟨by omega, ?_⟩))
   unfold dec Lib.decodeN
   rw [g0, if_neg h0, if_neg h1, if_neg h2, if_pos h3]
   unfold validN at h4
   rw [if_neg h4]
  obtain ⟨d, e, f, r, rfl⟩ := three_more (l := l) (by have := h3.2.2.2.1; rw [List.length_cons] at this; omega)
  have e1 : nb (c :: d :: e :: f :: r) 1 = d.toNat := rfl
  have e2 : nb (c :: d :: e :: f :: r) 2 = e.toNat := rfl
  have e3 : nb (c :: d :: e :: f :: r) 3 = f.toNat := rfl
  rw [e1, e2, e3] at h3 h4
  exact Or.inr (Or.inr (Or.inl ⟨d, e, f, r, rfl, h3.1, h3.2.1.2, h3.2.2.1.2, h3.2.2.2.2, h4.1, h4.2⟩))
def Bad (l : L) : Prop := dec l = (65533, 1)
instance (l : L) : Decidable (Bad l) := by unfold Bad; infer_instance
theorem dec_local {l : L} (hne : l ≠ []) (hb : ¬ Bad l) (y : L) : dec (l.take (dec l).2 ++ y) = dec l ∧ (dec l).2 ≤ l.length ∧ 1 ≤ (dec l).2 := by
  match l with
  | [] => exact absurd rfl hne
  | c :: l =>
    rcases dec_cases c l with ⟨h, e⟩ | ⟨d, r, rfl, h1, h2, h3⟩ | ⟨d, e, r, rfl, h1, h2, h3, h4, h5⟩ | ⟨d, e, f, r, rfl, h1, h2, h3, h4, h5, h6⟩ | ⟨_, e⟩
    ·
     rw [e]
     exact ⟨dec_1 h, by simp, by simp⟩
    ·
     rw [dec_2 h1 h2 h3]
     exact ⟨dec_2 h1 h2 h3, by simp, by simp⟩
    ·
     rw [dec_3 h1 h2 h3 h4 h5]
     exact ⟨dec_3 h1 h2 h3 h4 h5, by simp, by simp⟩
    ·
     rw [dec_4 h1 h2 h3 h4 h5 h6]
     exact ⟨dec_4 h1 h2 h3 h4 h5 h6, by simp, by simp⟩
    exact absurd e hb
theorem dec_width {l : L} (hne : l ≠ []) : 1 ≤ (dec l).2 ∧ (dec l).2 ≤ l.length := by
  by_cases hb : Bad l
  rotate_left
  ·
   have := dec_local hne hb []
   exact ⟨this.2.2, this.2.1⟩
  have : dec l = (65533, 1) := hb
  rw [this]
  exact ⟨Nat.le_refl _, List.length_pos_iff.2 hne⟩
def enc (n : Nat) : L :=
  if n < 128 then [UInt8.ofNat n]
  else if n < 2048 then [UInt8.ofNat (192 + n / 64), UInt8.ofNat (128 + n % 64)]
  else if n < 65536 then [UInt8.ofNat (224 + n / 4096), UInt8.ofNat (128 + n / 64 % 64), UInt8.ofNat (128 + n % 64)]
  else [UInt8.ofNat (240 + n / 262144), UInt8.ofNat (128 + n / 4096 % 64), UInt8.ofNat (128 + n / 64 % 64), UInt8.ofNat (128 + n % 64)]
theorem on (n : Nat) (h : n < 256) : (UInt8.ofNat n).toNat = n := by rw [UInt8.toNat_ofNat']; omega
theorem dec_enc {n : Nat} (h : validN n) (y : L) : dec (enc n ++ y) = (n, (enc n).length) := by
  unfold validN at h
  unfold enc
  split
  ·
   have e := on n (by omega)
   show dec (UInt8.ofNat n :: y) = _
   rw [dec_1 (by rw [e]; omega), e]
   rfl
  split
  ·
   have e1 := on (192 + n / 64) (by omega)
   have e2 := on (128 + n % 64) (by omega)
   show dec (UInt8.ofNat (192 + n / 64) :: UInt8.ofNat (128 + n % 64) :: y) = _
   rw [dec_2 (by rw [e1]; omega) (by rw [e2]; omega) (by rw [e1, e2]; omega), e1, e2]
   simp only [List.length_cons, List.length_nil, Prod.mk.injEq, and_true]
   omega
  split
  ·
   have e1 := on (224 + n / 4096) (by omega)
   have e2 := on (128 + n / 64 % 64) (by omega)
   have e3 := on (128 + n % 64) (by omega)
   have ev : (224 + n / 4096) % 16 * 4096 + (128 + n / 64 % 64) % 64 * 64 + (128 + n % 64) % 64 = n := by omega
   show dec (UInt8.ofNat (224 + n / 4096) :: UInt8.ofNat (128 + n / 64 % 64) :: UInt8.ofNat (128 + n % 64) :: y) = _
   rw [dec_3 (by rw [e1]; omega) (by rw [e2]; omega) (by rw [e3]; omega) (by rw [e1, e2, e3]; omega) (by rw [e1, e2, e3, ev]; unfold validN; omega), e1, e2, e3, ev]
   rfl
  have e1 := on (240 + n / 262144) (by omega)
  have e2 := on (128 + n / 4096 % 64) (by omega)
  have e3 := on (128 + n / 64 % 64) (by omega)
  have e4 := on (128 + n % 64) (by omega)
  have ev : (240 + n / 262144) % 8 * 262144 + (128 + n / 4096 % 64) % 64 * 4096 + (128 + n / 64 % 64) % 64 * 64 + (128 + n % 64) % 64 = n := by omega
  show dec (UInt8.ofNat (240 + n / 262144) :: UInt8.ofNat (128 + n / 4096 % 64) :: UInt8.ofNat (128 + n / 64 % 64) :: UInt8.ofNat (128 + n % 64) :: y) = _
  rw [dec_4 (by rw [e1]; omega) (by rw [e2]; omega) (by rw [e3]; omega) (by rw [e4]; omega) (by rw [e1, e2, e3, e4]; omega) (by rw [e1, e2, e3, e4, ev]; unfold validN; omega), e1, e2, e3, e4, ev]
  rfl
theorem ofNat_eq {c : UInt8} {n : Nat} (h : n = c.toNat) : UInt8.ofNat n = c := by subst h; exact UInt8.ofNat_toNat
theorem enc_dec {l : L} (hne : l ≠ []) (hb : ¬ Bad l) : enc (dec l).1 = l.take (dec l).2 ∧ validN (dec l).1 := by
  match l with
  | [] => exact absurd rfl hne
  | c :: l =>
    have hc := c.toNat_lt
    rcases dec_cases c l with ⟨h, e⟩ | ⟨d, r, rfl, h1, h2, h3⟩ | ⟨d, e, r, rfl, h1, h2, h3, h4, h5⟩ | ⟨d, e, f, r, rfl, h1, h2, h3, h4, h5, h6⟩ | ⟨_, e⟩
    ·
     rw [e]
     refine ⟨?_, Or.inl (show c.toNat < 55296 by omega)⟩
     unfold enc
     rw [if_pos h]
     show [UInt8.ofNat c.toNat] = [c]
     rw [UInt8.ofNat_toNat]
    ·
     rw [dec_2 h1 h2 h3]
     have hd := d.toNat_lt
     refine ⟨?_, Or.inl (show _ < 55296 by omega)⟩
     unfold enc
     simp only
     rw [if_neg (by omega), if_pos (by omega)]
     show _ = [c, d]
     rw [ofNat_eq (c := c) (by omega), ofNat_eq (c := d) (by omega)]
    ·
     rw [dec_3 h1 h2 h3 h4 h5]
     have hd := d.toNat_lt
     have he := e.toNat_lt
     refine ⟨?_, h5⟩
     unfold enc
     simp only
     rw [if_neg (by omega), if_neg (by omega), if_pos (by omega)]
     show _ = [c, d, e]
     rw [ofNat_eq (c := c) (by omega), ofNat_eq (c := d) (by omega), ofNat_eq (c := e) (by omega)]
    ·
     rw [dec_4 h1 h2 h3 h4 h5 h6]
     have hd := d.toNat_lt
     have he := e.toNat_lt
     have hf := f.toNat_lt
     refine ⟨?_, h6⟩
     unfold enc
     simp only
     rw [if_neg (by omega), if_neg (by omega), if_neg (by omega)]
     show _ = [c, d, e, f]
     rw [ofNat_eq (c := c) (by omega), ofNat_eq (c := d) (by omega), ofNat_eq (c := e) (by omega), ofNat_eq (c := f) (by omega)]
    exact absurd e hb
theorem enc_ne (n : Nat) : enc n ≠ [] := by
  unfold enc
  repeat' split
  all_goals simp
theorem not_bad_enc {n : Nat} (h : validN n) (y : L) : ¬ Bad (enc n ++ y) := by
  unfold Bad
  rw [dec_enc h]
  intro e
  injection e with e1 e2
  subst e1
  revert e2
  decide
def hx (c : UInt8) : Bool := (48 ≤ c.toNat && c.toNat ≤ 57) || (65 ≤ c.toNat && c.toNat ≤ 70) || (97 ≤ c.toNat && c.toNat ≤ 102)
def hv (c : UInt8) : Nat := if c.toNat ≤ 57 then c.toNat - 48 else if c.toNat ≤ 70 then c.toNat - 55 else c.toNat - 87
def hnum (l : L) : Nat := l.foldl (fun n c => 16 * n + hv c) 0
def escU (l : L) : Option (L × L) :=
  match l with
  | [] => none
  | c :: t => if c = 123 ∧ t.takeWhile hx ≠ [] ∧ (t.takeWhile hx).length ≤ 6 ∧ (t.dropWhile hx).head? = some 125 ∧ validN (hnum (t.takeWhile hx)) then some (enc (hnum (t.takeWhile hx)), (t.dropWhile hx).tail) else none
def escS (l : L) : Option (L × L) :=
  match l with
  | [] => none
  | c :: r => if c = 110 then some ([10], r) else if c = 116 then some ([9], r) else if c = 34 ∨ c = 39 ∨ c = 92 then some ([c], r) else if c = 117 then escU r else none
theorem escU_cons (c : UInt8) (t : L) : escU (c :: t) = if c = 123 ∧ t.takeWhile hx ≠ [] ∧ (t.takeWhile hx).length ≤ 6 ∧ (t.dropWhile hx).head? = some 125 ∧ validN (hnum (t.takeWhile hx)) then some (enc (hnum (t.takeWhile hx)), (t.dropWhile hx).tail) else none := rfl
theorem takeWhile_end {p : UInt8 → Bool} {l t : L} (h : l.dropWhile p = t) : l = l.takeWhile p ++ t := by rw [← h, List.takeWhile_append_dropWhile]
theorem takeWhile_hex {p : UInt8 → Bool} {a : L} {c : UInt8} (ha : ∀ x ∈ a, p x = true) (hc : p c = false) (y : L) : (a ++ c :: y).takeWhile p = a ∧ (a ++ c :: y).dropWhile p = c :: y := by
  induction a with
  | nil =>
    rw [List.nil_append, List.takeWhile_cons_of_neg (by simp [hc]), List.dropWhile_cons_of_neg (by simp [hc])]
    exact ⟨rfl, rfl⟩
  | cons d a ih =>
    have hd : p d = true := ha d (by simp)
    obtain ⟨i1, i2⟩ := ih (fun x hx => ha x (by simp [hx]))
    rw [List.cons_append, List.takeWhile_cons_of_pos hd, List.dropWhile_cons_of_pos hd, i1]
    exact ⟨rfl, i2⟩
theorem takeWhile_all {p : UInt8 → Bool} : ∀ (l : L), ∀ x ∈ l.takeWhile p, p x = true
  | [], x, h => by cases h
  | c :: r, x, h => by
    by_cases hc : p c = true
    · rw [List.takeWhile_cons_of_pos hc] at h
      rcases List.mem_cons.1 h with rfl | h
      · exact hc
      · exact takeWhile_all r x h
    · rw [List.takeWhile_cons_of_neg hc] at h
      cases h
theorem escU_local {l t z : L} (h : escU l = some (t, z)) : ∃ a, l = a ++ z ∧ (∀ y, escU (a ++ y) = some (t, y)) ∧ ∃ n, validN n ∧ t = enc n := by
  match l with
  | [] => cases h
  | c :: l =>
    rw [escU_cons] at h
    split at h
    rotate_left
    ·
     cases h
    rename_i hc
    obtain ⟨rfl, h1, h2, h3, h4⟩ := hc
    simp only [Option.some.injEq, Prod.mk.injEq] at h
    obtain ⟨h5, h6⟩ := h
    match hd : l.dropWhile hx with
    | [] => rw [hd] at h3; cases h3
    | d :: r =>
      rw [hd] at h3 h6
      obtain rfl : d = 125 := by simpa using h3
      obtain rfl : r = z := h6
      have hl := takeWhile_end hd
      refine ⟨123 :: (l.takeWhile hx ++ [125]), ?_, fun y => ?_, _, h4, h5.symm⟩
      ·
       rw [List.cons_append, List.append_assoc]
       exact congrArg _ hl
      have := takeWhile_hex (p := hx) (a := l.takeWhile hx) (c := 125) (takeWhile_all l) (by decide) y
      rw [List.cons_append, List.append_assoc, escU_cons]
      rw [List.singleton_append, this.1, this.2, if_pos ⟨rfl, h1, h2, rfl, h4⟩, h5]
      rfl
theorem escS_local {l t z : L} (h : escS l = some (t, z)) : ∃ a, l = a ++ z ∧ a ≠ [] ∧ (∀ y, escS (a ++ y) = some (t, y)) ∧ ∃ n, validN n ∧ t = enc n := by
  match l with
  | [] => cases h
  | c :: l =>
    unfold escS at h
    simp only at h
    split at h
    ·
     rename_i hc
     simp only [Option.some.injEq, Prod.mk.injEq] at h
     obtain ⟨rfl, rfl⟩ := h
     subst hc
     exact ⟨[110], rfl, by simp, fun y => rfl, 10, by decide, rfl⟩
    split at h
    ·
     rename_i hc
     simp only [Option.some.injEq, Prod.mk.injEq] at h
     obtain ⟨rfl, rfl⟩ := h
     subst hc
     exact ⟨[116], rfl, by simp, fun y => rfl, 9, by decide, rfl⟩
    split at h
    rotate_left
    ·
     split at h
     rotate_left
     ·
      cases h
     rename_i hc
     subst hc
     obtain ⟨a, rfl, h1, h2⟩ := escU_local h
     refine ⟨117 :: a, rfl, by simp, fun y => ?_, h2⟩
     exact h1 y
    rename_i hc
    simp only [Option.some.injEq, Prod.mk.injEq] at h
    obtain ⟨rfl, rfl⟩ := h
    rcases hc with rfl | rfl | rfl
    ·
     exact ⟨[34], rfl, by simp, fun y => rfl, 34, by decide, rfl⟩
    ·
     exact ⟨[39], rfl, by simp, fun y => rfl, 39, by decide, rfl⟩
    exact ⟨[92], rfl, by simp, fun y => rfl, 92, by decide, rfl⟩
theorem escS_lt {l t z : L} (h : escS l = some (t, z)) : z.length < l.length := by
  obtain ⟨a, rfl, h1, _⟩ := escS_local h
  have := List.length_pos_iff.2 h1
  rw [List.length_append]
  omega
def unqS (q : UInt8) (l : L) : Option (L × L) :=
  match l with
  | [] => none
  | c :: r =>
    if c = q then some ([], r)
    else if c = 92 then (match h : escS r with | none => none | some (t, z) => (unqS q z).map fun p => (t ++ p.1, p.2))
    else if (dec (c :: r)).1 = 10 ∨ (dec (c :: r)).1 = 13 ∨ Bad (c :: r) then none
    else (unqS q ((c :: r).drop (dec (c :: r)).2)).map fun p => ((c :: r).take (dec (c :: r)).2 ++ p.1, p.2)
termination_by l.length
decreasing_by
  · have := escS_lt h
    rw [List.length_cons]
    omega
  · have := dec_width (l := c :: r) (by simp)
    rw [List.length_drop]
    omega
theorem unq_nil (q : UInt8) : unqS q [] = none := by rw [unqS]
theorem unq_end (q : UInt8) (r : L) : unqS q (q :: r) = some ([], r) := by rw [unqS, if_pos rfl]
theorem unq_esc {q : UInt8} {r t z : L} (hq : q ≠ 92) (h : escS r = some (t, z)) : unqS q (92 :: r) = (unqS q z).map fun p => (t ++ p.1, p.2) := by
  rw [unqS, if_neg (Ne.symm hq), if_pos rfl]
  split
  ·
   rename_i h2
   rw [h] at h2
   cases h2
  rename_i h2
  rw [h] at h2
  obtain ⟨rfl, rfl⟩ := Prod.mk.inj (Option.some.inj h2)
  rfl
theorem unq_esc_none {q : UInt8} {r : L} (hq : q ≠ 92) (h : escS r = none) : unqS q (92 :: r) = none := by
  rw [unqS, if_neg (Ne.symm hq), if_pos rfl]
  split
  ·
   rfl
  rename_i h2
  rw [h] at h2
  cases h2
def BadQ (l : L) : Prop := (dec l).1 = 10 ∨ (dec l).1 = 13 ∨ Bad l
instance (l : L) : Decidable (BadQ l) := by unfold BadQ; infer_instance
theorem unq_none {q c : UInt8} {r : L} (h1 : c ≠ q) (h2 : c ≠ 92) (h3 : BadQ (c :: r)) : unqS q (c :: r) = none := by
  unfold BadQ at h3
  rw [unqS, if_neg h1, if_neg h2, if_pos h3]
theorem unq_step {q c : UInt8} {r : L} (h1 : c ≠ q) (h2 : c ≠ 92) (h3 : ¬ BadQ (c :: r)) : unqS q (c :: r) = (unqS q ((c :: r).drop (dec (c :: r)).2)).map fun p => ((c :: r).take (dec (c :: r)).2 ++ p.1, p.2) := by
  unfold BadQ at h3
  rw [unqS, if_neg h1, if_neg h2, if_neg h3]
theorem unq_ind {q : UInt8} {P : L → Prop} (h0 : P []) (hend : ∀ r, P (q :: r)) (hesc : ∀ r t z, q ≠ 92 → escS r = some (t, z) → P z → P (92 :: r)) (hescn : ∀ r, q ≠ 92 → escS r = none → P (92 :: r))
    (hn : ∀ c r, c ≠ q → c ≠ 92 → BadQ (c :: r) → P (c :: r)) (hs : ∀ c r, c ≠ q → c ≠ 92 → ¬ BadQ (c :: r) → P ((c :: r).drop (dec (c :: r)).2) → P (c :: r)) : ∀ (n : Nat) (l : L), l.length ≤ n → P l := by
  intro n
  induction n with
  | zero =>
    intro l hl
    obtain rfl := List.eq_nil_of_length_eq_zero (Nat.le_zero.1 hl)
    exact h0
  | succ n ih =>
    intro l hl
    match l with
    | [] => exact h0
    | c :: r =>
      rw [List.length_cons] at hl
      by_cases h1 : c = q
      ·
       subst h1
       exact hend r
      by_cases h2 : c = 92
      rotate_left
      ·
       by_cases h3 : BadQ (c :: r)
       ·
        exact hn c r h1 h2 h3
       refine hs c r h1 h2 h3 (ih _ ?_)
       have := dec_width (l := c :: r) (by simp)
       rw [List.length_drop, List.length_cons]
       omega
      subst h2
      cases he : escS r with
      | none => exact hescn r (fun e => h1 e.symm) he
      | some p => exact hesc r p.1 p.2 (fun e => h1 e.symm) he (ih _ (by have := escS_lt (t := p.1) (z := p.2) he; omega))
inductive Val : L → Prop
  | nil : Val []
  | rune {n : Nat} {r : L} (h : validN n) (hr : Val r) : Val (enc n ++ r)
theorem unq_local {q : UInt8} (l : L) : ∀ t z, unqS q l = some (t, z) → (∃ a, l = a ++ z ∧ a ≠ [] ∧ ∀ y, unqS q (a ++ y) = some (t, y)) ∧ Val t := by
  refine unq_ind (q := q) (P := fun l => ∀ t z, unqS q l = some (t, z) → (∃ a, l = a ++ z ∧ a ≠ [] ∧ ∀ y, unqS q (a ++ y) = some (t, y)) ∧ Val t) ?_ ?_ ?_ ?_ ?_ ?_ _ l (Nat.le_refl _)
  ·
   intro t z h
   rw [unq_nil] at h
   cases h
  ·
   intro r t z h
   rw [unq_end] at h
   obtain ⟨rfl, rfl⟩ := Prod.mk.inj (Option.some.inj h)
   exact ⟨⟨[q], rfl, by simp, fun y => unq_end q y⟩, Val.nil⟩
  ·
   intro r t z hq he ih t' z' h
   rw [unq_esc hq he] at h
   cases hu : unqS q z with
   | none => rw [hu] at h; cases h
   | some p =>
     rw [hu] at h
     obtain ⟨rfl, rfl⟩ := Prod.mk.inj (Option.some.inj h)
     obtain ⟨⟨a, ha, _, hl⟩, hv⟩ := ih p.1 p.2 hu
     obtain ⟨e, rfl, h1, h2, n, hn, rfl⟩ := escS_local he
     refine ⟨⟨92 :: (e ++ a), by rw [List.cons_append, List.append_assoc, ← ha], by simp, fun y => ?_⟩, Val.rune hn hv⟩
     rw [List.cons_append, List.append_assoc, unq_esc hq (h2 (a ++ y)), hl y]
     rfl
  ·
   intro r hq he t z h
   rw [unq_esc_none hq he] at h
   cases h
  ·
   intro c r h1 h2 h3 t z h
   rw [unq_none h1 h2 h3] at h
   cases h
  intro c r h1 h2 h3 ih t z h
  rw [unq_step h1 h2 h3] at h
  cases hu : unqS q ((c :: r).drop (dec (c :: r)).2) with
  | none => rw [hu] at h; cases h
  | some p =>
    rw [hu] at h
    obtain ⟨rfl, rfl⟩ := Prod.mk.inj (Option.some.inj h)
    obtain ⟨⟨a, ha, _, hl⟩, hv⟩ := ih p.1 p.2 hu
    have hb : ¬ Bad (c :: r) := fun hb => h3 (Or.inr (Or.inr hb))
    obtain ⟨d1, d2, d3⟩ := dec_local (l := c :: r) (by simp) hb (a)
    obtain ⟨e1, e2⟩ := enc_dec (l := c :: r) (by simp) hb
    have hw : ∃ k, (dec (c :: r)).2 = k + 1 := ⟨(dec (c :: r)).2 - 1, by omega⟩
    obtain ⟨k, hk⟩ := hw
    refine ⟨⟨(c :: r).take (dec (c :: r)).2 ++ a, ?_, ?_, fun y => ?_⟩, ?_⟩
    ·
     rw [List.append_assoc, ← ha, List.take_append_drop]
    ·
     rw [hk]
     simp
    ·
     have hd := (dec_local (l := c :: r) (by simp) hb (a ++ y)).1
     have hc : (c :: r).take (dec (c :: r)).2 ++ (a ++ y) = c :: (r.take k ++ (a ++ y)) := by rw [hk]; rfl
     rw [List.append_assoc]
     rw [hc] at hd ⊢
     rw [unq_step h1 h2 (by unfold BadQ Bad; rw [hd]; exact h3), hd]
     rw [← hc, List.drop_append_of_le_length (by rw [List.length_take]; omega), List.drop_of_length_le (by rw [List.length_take]; omega), List.nil_append, hl y]
     rw [List.take_append_of_le_length (by rw [List.length_take]; omega), List.take_of_length_le (by rw [List.length_take]; omega)]
     rfl
    show Val ((c :: r).take (dec (c :: r)).2 ++ p.1)
    rw [← e1]
    exact Val.rune e2 hv
def dig (c : UInt8) : Bool := 48 ≤ c.toNat && c.toNat ≤ 57
def val (l : L) : Nat := l.foldl (fun n c => 10 * n + (c.toNat - 48)) 0
structure T where
  kind : Nat
  text : L
  n : Nat
deriving DecidableEq
def numS (s : Bool) (l : L) : Except Nat (T × Nat) :=
  if (1 < (l.takeWhile dig).length ∧ l.head? = some 48) ∨ sgn s true (l.dropWhile dig) ≠ 0 then .error 40
  else if 9007199254740991 < val (l.takeWhile dig) then .error 41
  else .ok (⟨3, [], val (l.takeWhile dig)⟩, (l.takeWhile dig).length)
def words : List L := [[99, 108, 97, 115, 115], [99, 111, 110, 115, 116], [100, 101, 102, 97, 117, 108, 116], [101, 108, 115, 101], [101, 120, 112, 111, 114, 116], [102, 97, 108, 115, 101], [102, 117, 110, 99, 116, 105, 111, 110], [105, 102], [105, 109, 112, 111, 114, 116], [108, 101, 116], [110, 101, 119], [110, 117, 108, 108], [114, 101, 116, 117, 114, 110], [116, 104, 105, 115], [116, 104, 114, 111, 119], [116, 114, 117, 101], [116, 121, 112, 101, 111, 102], [117, 110, 100, 101, 102, 105, 110, 101, 100], [119, 104, 105, 108, 101]]
def signs : List L := [[61, 61, 61], [33, 61, 61], [60, 61], [62, 61], [38, 38], [124, 124], [61, 62], [123], [125], [40], [41], [91], [93], [59], [44], [58], [46], [63], [61], [43], [45], [42], [47], [37], [60], [62], [33], [124]]
def tokS (s : Bool) (l : L) : Except Nat (T × Nat) :=
  if nameS s l ≠ 0 then .ok (⟨if l.take (nameS s l) ∈ words then 2 else 1, l.take (nameS s l), 0⟩, nameS s l)
  else match l with
    | [] => .error 40
    | c :: r =>
      if dig c = true then numS s (c :: r)
      else if c = 34 ∨ c = 39 then (match unqS c r with | none => .error 40 | some (t, z) => .ok (⟨4, t, 0⟩, (c :: r).length - z.length))
      else match signs.find? (fun g => g.isPrefixOf (c :: r)) with | none => .error 40 | some g => .ok (⟨5, g, 0⟩, g.length)
theorem tok_name {s : Bool} {l : L} (h : nameS s l ≠ 0) : tokS s l = .ok (⟨if l.take (nameS s l) ∈ words then 2 else 1, l.take (nameS s l), 0⟩, nameS s l) := by
  unfold tokS
  rw [if_pos h]
theorem tok_nil (s : Bool) : tokS s [] = .error 40 := by
  have := nameS_le s []
  unfold tokS
  rw [if_neg (by simp at this; omega)]
theorem tok_num {s : Bool} {c : UInt8} {r : L} (h : nameS s (c :: r) = 0) (hd : dig c = true) : tokS s (c :: r) = numS s (c :: r) := by
  unfold tokS
  rw [if_neg (by omega)]
  simp only
  rw [if_pos hd]
theorem tok_text {s : Bool} {c : UInt8} {r : L} (h : nameS s (c :: r) = 0) (hd : dig c = false) (hc : c = 34 ∨ c = 39) : tokS s (c :: r) = (match unqS c r with | none => .error 40 | some (t, z) => .ok (⟨4, t, 0⟩, (c :: r).length - z.length)) := by
  unfold tokS
  rw [if_neg (by omega)]
  simp only
  rw [if_neg (by simp [hd]), if_pos hc]
theorem tok_sign {s : Bool} {c : UInt8} {r : L} (h : nameS s (c :: r) = 0) (hd : dig c = false) (hc : ¬ (c = 34 ∨ c = 39)) : tokS s (c :: r) = (match signs.find? (fun g => g.isPrefixOf (c :: r)) with | none => .error 40 | some g => .ok (⟨5, g, 0⟩, g.length)) := by
  unfold tokS
  rw [if_neg (by omega)]
  simp only
  rw [if_neg (by simp [hd]), if_neg hc]
theorem name_head {s : Bool} {l : L} (h : nameS s l ≠ 0) : ∃ c r, l = c :: r ∧ 35 < c.toNat ∧ c ≠ 47 ∧ ¬ (c = 34 ∨ c = 39) ∧ dig c = false := by
  have hs : 0 < sgn s true l := Nat.pos_of_ne_zero fun e => h (nameS_pos.2 e)
  rcases sgn_pos hs with ⟨c, r, rfl, h1, h2, e⟩ | ⟨c, d, r, rfl, h0, h1, h2, h3, h4, e⟩
  rotate_left
  ·
   refine ⟨c, d :: r, rfl, by omega, fun e => ?_, fun e => ?_, ?_⟩
   ·
    rw [e] at h0
    revert h0
    decide
   ·
    rcases e with e | e <;> (rw [e] at h0; revert h0; decide)
   unfold dig
   rw [Bool.and_eq_false_iff]
   simp only [decide_eq_false_iff_not]
   omega
  have hr := okR_le h2
  have ho : okR s true c.toNat = true → c.toNat ≠ 39 ∧ c.toNat ≠ 47 ∧ dig c = false := by
    intro ho
    unfold okR letter at ho
    unfold dig
    simp only [Bool.or_eq_true, Bool.and_eq_true, decide_eq_true_eq, beq_iff_eq, bne_iff_ne, Bool.not_true, Bool.false_eq_true, false_and, or_false] at ho
    rw [Bool.and_eq_false_iff]
    simp only [decide_eq_false_iff_not]
    omega
  have ho := ho h2
  refine ⟨c, r, rfl, by omega, fun e => ho.2.1 (by rw [e]; rfl), fun e => ?_, ho.2.2⟩
  rcases e with e | e
  rotate_left
  ·
   exact ho.1 (by rw [e]; rfl)
  rw [e] at hr
  have := hr.2
  revert this
  decide
theorem signs_ne : ∀ g ∈ signs, g ≠ [] ∧ (32 : UInt8) ∉ g ∧ ∀ c ∈ g.head?, 32 < c.toNat ∧ c.toNat < 128 ∧ sgn true true g = 0 := by decide
theorem tok_cases {s : Bool} {l : L} {t : T} {n : Nat} (h : tokS s l = .ok (t, n)) :
    (nameS s l ≠ 0 ∧ n = nameS s l ∧ t = ⟨if l.take n ∈ words then 2 else 1, l.take n, 0⟩) ∨
    (nameS s l = 0 ∧ (∃ c r, l = c :: r ∧ dig c = true) ∧ ¬ ((1 < (l.takeWhile dig).length ∧ l.head? = some 48) ∨ sgn s true (l.dropWhile dig) ≠ 0) ∧ val (l.takeWhile dig) ≤ 9007199254740991 ∧ t = ⟨3, [], val (l.takeWhile dig)⟩ ∧ n = (l.takeWhile dig).length) ∨
    (nameS s l = 0 ∧ ∃ c r z, l = c :: r ∧ dig c = false ∧ (c = 34 ∨ c = 39) ∧ unqS c r = some (t.text, z) ∧ t = ⟨4, t.text, 0⟩ ∧ n = l.length - z.length) ∨
    (nameS s l = 0 ∧ ∃ c r g, l = c :: r ∧ dig c = false ∧ ¬ (c = 34 ∨ c = 39) ∧ signs.find? (fun g => g.isPrefixOf l) = some g ∧ t = ⟨5, g, 0⟩ ∧ n = g.length) := by
  by_cases h0 : nameS s l = 0
  rotate_left
  ·
   rw [tok_name h0] at h
   obtain ⟨rfl, rfl⟩ := Prod.mk.inj (Except.ok.inj h)
   exact Or.inl ⟨h0, rfl, rfl⟩
  match l with
  | [] => rw [tok_nil] at h; cases h
  | c :: r =>
    by_cases hd : dig c = true
    ·
     rw [tok_num h0 hd, numS] at h
     split at h
     ·
      cases h
     rename_i h1
     split at h
     ·
      cases h
     rename_i h2
     obtain ⟨rfl, rfl⟩ := Prod.mk.inj (Except.ok.inj h)
     exact Or.inr (Or.inl ⟨h0, ⟨c, r, rfl, hd⟩, h1, Nat.le_of_not_lt h2, rfl, rfl⟩)
    have hd : dig c = false := by simpa using hd
    by_cases hc : c = 34 ∨ c = 39
    ·
     rw [tok_text h0 hd hc] at h
     cases hu : unqS c r with
     | none => rw [hu] at h; cases h
     | some p =>
       rw [hu] at h
       obtain ⟨rfl, rfl⟩ := Prod.mk.inj (Except.ok.inj h)
       exact Or.inr (Or.inr (Or.inl ⟨h0, c, r, p.2, rfl, hd, hc, hu, rfl, rfl⟩))
    rw [tok_sign h0 hd hc] at h
    cases hf : signs.find? (fun g => g.isPrefixOf (c :: r)) with
    | none => rw [hf] at h; cases h
    | some g =>
      rw [hf] at h
      obtain ⟨rfl, rfl⟩ := Prod.mk.inj (Except.ok.inj h)
      exact Or.inr (Or.inr (Or.inr ⟨h0, c, r, g, rfl, hd, hc, rfl, rfl, rfl⟩))
theorem takeWhile_len (p : UInt8 → Bool) (l : L) : (l.takeWhile p).length ≤ l.length := (List.takeWhile_sublist p).length_le
theorem take_takeWhile (p : UInt8 → Bool) : ∀ l : L, l.take (l.takeWhile p).length = l.takeWhile p ∧ l.drop (l.takeWhile p).length = l.dropWhile p
  | [] => ⟨rfl, rfl⟩
  | c :: r => by
    by_cases hc : p c = true
    · rw [List.takeWhile_cons_of_pos hc, List.dropWhile_cons_of_pos hc, List.length_cons, List.take_succ_cons, List.drop_succ_cons]
      exact ⟨congrArg _ (take_takeWhile p r).1, (take_takeWhile p r).2⟩
    · rw [List.takeWhile_cons_of_neg hc, List.dropWhile_cons_of_neg hc]
      exact ⟨rfl, rfl⟩
theorem tok_len {s : Bool} {l : L} {t : T} {n : Nat} (h : tokS s l = .ok (t, n)) : 0 < n ∧ n ≤ l.length ∧ ∃ c r, l = c :: r ∧ 32 < c.toNat := by
  rcases tok_cases h with ⟨h0, rfl, _⟩ | ⟨h0, ⟨c, r, rfl, hc⟩, _, _, _, rfl⟩ | ⟨h0, c, r, z, rfl, hd, hc, hu, _, rfl⟩ | ⟨h0, c, r, g, rfl, hd, hc, hf, _, rfl⟩
  ·
   obtain ⟨c, r, hl, h35, _⟩ := name_head h0
   exact ⟨Nat.pos_of_ne_zero h0, nameS_le s l, c, r, hl, by omega⟩
  ·
   refine ⟨?_, takeWhile_len _ _, c, r, rfl, ?_⟩
   ·
    rw [List.takeWhile_cons_of_pos hc]
    simp
   unfold dig at hc
   simp only [Bool.and_eq_true, decide_eq_true_eq] at hc
   omega
  ·
   obtain ⟨⟨a, ha, h1, _⟩, _⟩ := unq_local r _ _ hu
   have := congrArg List.length ha
   have h2 := List.length_pos_iff.2 h1
   rw [List.length_append] at this
   refine ⟨?_, ?_, c, r, rfl, ?_⟩
   ·
    rw [List.length_cons]
    omega
   ·
    omega
   rcases hc with rfl | rfl <;> decide
  have hm := List.mem_of_find?_eq_some hf
  have hp := List.find?_some hf
  obtain ⟨h1, _, h2⟩ := signs_ne g hm
  rw [List.isPrefixOf_iff_prefix] at hp
  refine ⟨List.length_pos_iff.2 h1, hp.length_le, c, r, rfl, ?_⟩
  obtain ⟨y, hy⟩ := hp
  match g with
  | [] => exact absurd rfl h1
  | d :: g =>
    injection hy with hy
    subst hy
    exact (h2 d rfl).1
theorem prefix_cut {a x y : L} (h : a <+: x ++ y) (hy : Cut y) (ha : (32 : UInt8) ∉ a) : a <+: x := by
  rcases hy with rfl | ⟨r, rfl⟩
  ·
   simpa using h
  rcases Nat.lt_or_ge x.length a.length with hl | hl
  rotate_left
  ·
   exact List.prefix_of_prefix_length_le h ⟨32 :: r, rfl⟩ hl
  exfalso
  have h2 : x ++ [32] <+: x ++ 32 :: r := ⟨r, by simp⟩
  have h3 := List.prefix_of_prefix_length_le h2 h (by simp; omega)
  exact ha (h3.subset (by simp))
theorem name0_head {s : Bool} {c : UInt8} {r : L} (r' : L) (hc : c.toNat < 128) (h : nameS s (c :: r) = 0) : nameS s (c :: r') = 0 := by
  have h := nameS_pos.1 h
  refine nameS_pos.2 ?_
  rw [sgn_a hc] at h ⊢
  exact h
theorem head_not {p : UInt8 → Bool} {l : L} {c : UInt8} {r : L} (h : l.dropWhile p = c :: r) : p c = false := by
  have := List.head_dropWhile_not p (l := l) (by rw [h]; simp)
  simp only [h, List.head_cons] at this
  exact this
theorem dig32 : dig 32 = false := by decide
theorem dig_lt {c : UInt8} (h : dig c = true) : c.toNat < 128 := by
  unfold dig at h
  simp only [Bool.and_eq_true, decide_eq_true_eq] at h
  omega
theorem takeWhile_app {p : UInt8 → Bool} {a y : L} (ha : ∀ x ∈ a, p x = true) (hy : ∀ c r, y = c :: r → p c = false) : (a ++ y).takeWhile p = a ∧ (a ++ y).dropWhile p = y := by
  match y with
  | [] =>
    rw [List.append_nil]
    have h := dropWhile_all_nil ha
    refine ⟨?_, h⟩
    have := List.takeWhile_append_dropWhile (p := p) (l := a)
    rw [h, List.append_nil] at this
    exact this
  | c :: r => exact takeWhile_hex ha (hy c r rfl) r
theorem tok_local {s : Bool} {l : L} {t : T} {n : Nat} (h : tokS s l = .ok (t, n)) {c z y : L} (hz : l.drop n = c ++ z) (hy : Cut y) : tokS s (l.take n ++ (c ++ y)) = .ok (t, n) := by
  rcases tok_cases h with ⟨h0, rfl, rfl⟩ | ⟨h0, ⟨d, r, hl, hd⟩, h1, h2, rfl, rfl⟩ | ⟨h0, d, r, z', rfl, hd, hc, hu, ht, rfl⟩ | ⟨h0, d, r, g, hl, hd, hc, hf, rfl, rfl⟩
  ·
   have hs := nameS_stop s l h0
   rw [hz] at hs
   have hn := nameS_local s l (c ++ y) h0 (sgn_cut hs hy)
   have hle := nameS_le s l
   have htk : (l.take (nameS s l) ++ (c ++ y)).take (nameS s l) = l.take (nameS s l) := by
     rw [List.take_append_of_le_length (by rw [List.length_take]; omega), List.take_of_length_le (by rw [List.length_take]; omega)]
   rw [tok_name (by rw [hn]; exact h0), hn, htk]
  ·
   obtain ⟨e1, e2⟩ := take_takeWhile dig l
   rw [e2] at hz
   rw [e1]
   have hnot : ∀ a r, c ++ y = a :: r → dig a = false := by
     intro a r' e
     match c with
     | [] =>
       rcases hy with rfl | ⟨q, rfl⟩
       ·
        cases e
       injection e with e
       rw [← e]
       exact dig32
     | b :: c =>
       injection e with e
       rw [← e]
       exact head_not (r := c ++ z) hz
   obtain ⟨k1, k2⟩ := takeWhile_app (p := dig) (a := l.takeWhile dig) (takeWhile_all l) hnot
   have h3 : sgn s true (c ++ y) = 0 := by
     refine sgn_cut (z := z) ?_ hy
     rw [← hz]
     exact Nat.eq_zero_of_not_pos fun hp => h1 (Or.inr (by omega))
   have hcons : ∃ r', l.takeWhile dig ++ (c ++ y) = d :: r' := by
     rw [hl, List.takeWhile_cons_of_pos hd]
     exact ⟨_, rfl⟩
   obtain ⟨r', hr'⟩ := hcons
   have hhead : (l.takeWhile dig ++ (c ++ y)).head? = l.head? := by rw [hr', hl]; rfl
   rw [hr', tok_num (name0_head r' (dig_lt hd) (by rw [← hl]; exact h0)) hd, ← hr', numS, k1, k2, hhead, if_neg, if_neg (by omega)]
   intro hh
   rcases hh with hh | hh
   rotate_left
   ·
    exact hh h3
   exact h1 (Or.inl hh)
  ·
   obtain ⟨⟨a, ha, h1, h2⟩, _⟩ := unq_local r _ _ hu
   subst ha
   have e : (d :: (a ++ z')).length - z'.length = (d :: a).length := by
     simp only [List.length_cons, List.length_append]
     omega
   have hcl : (d :: (a ++ z')) = (d :: a) ++ z' := rfl
   have htk : (d :: (a ++ z')).take ((d :: (a ++ z')).length - z'.length) = d :: a := by rw [e, hcl, List.take_append_of_le_length (Nat.le_refl _), List.take_length]
   have hlt : d.toNat < 128 := by rcases hc with rfl | rfl <;> decide
   rw [htk, e]
   show tokS s (d :: (a ++ (c ++ y))) = _
   rw [tok_text (name0_head _ hlt h0) hd hc, h2]
   simp only
   rw [ht]
   simp only [List.length_cons, List.length_append, Except.ok.injEq, Prod.mk.injEq, true_and]
   omega
  have hm := List.mem_of_find?_eq_some hf
  obtain ⟨hp, as, bs, hsig, hno⟩ := List.find?_eq_some_iff_append.1 hf
  obtain ⟨g1, g2, g3⟩ := signs_ne g hm
  rw [List.isPrefixOf_iff_prefix] at hp
  obtain ⟨y0, hy0⟩ := hp
  have htk : l.take g.length = g := by rw [← hy0, List.take_append_of_le_length (Nat.le_refl _), List.take_length]
  have hdr : y0 = c ++ z := by rw [← hz, ← hy0, List.drop_append_of_le_length (Nat.le_refl _), List.drop_length, List.nil_append]
  rw [htk]
  match g with
  | [] => exact absurd rfl g1
  | b :: g =>
    have hdb : d = b := by rw [hl] at hy0; injection hy0 with hy0; exact hy0.symm
    subst hdb
    obtain ⟨_, hlt, _⟩ := g3 d rfl
    show tokS s (d :: (g ++ (c ++ y))) = _
    rw [tok_sign (name0_head _ hlt (by rw [← hl]; exact h0)) hd hc]
    have : signs.find? (fun q => q.isPrefixOf (d :: (g ++ (c ++ y)))) = some (d :: g) := by
      refine List.find?_eq_some_iff_append.2 ⟨?_, as, bs, hsig, fun a ha => ?_⟩
      ·
       rw [List.isPrefixOf_iff_prefix]
       exact ⟨c ++ y, rfl⟩
      have hna := hno a ha
      have hma : a ∈ signs := by rw [hsig]; exact List.mem_append_left _ ha
      simp only [Bool.not_eq_true', ← Bool.not_eq_true, List.isPrefixOf_iff_prefix] at hna ⊢
      intro hpa
      refine hna ?_
      have hpa : a <+: ((d :: g) ++ c) ++ y := by rw [List.append_assoc]; exact hpa
      have := prefix_cut hpa hy (signs_ne a hma).2.1
      refine this.trans ?_
      rw [← hy0, hdr, ← List.append_assoc]
      exact ⟨z, rfl⟩
    rw [this]
def lexS (s : Bool) (l : L) : Except (Nat × Nat) (List (T × Nat)) :=
  if (skipS l).2 = false then .error ((skipS l).1.length, 40)
  else if (skipS l).1 = [] then .ok []
  else match h : tokS s (skipS l).1 with
    | .error e => .error ((skipS l).1.length, e)
    | .ok (t, n) => (lexS s ((skipS l).1.drop n)).map fun ts => (t, (skipS l).1.length) :: ts
termination_by l.length
decreasing_by
  have h1 := tok_len h
  have h2 := skip_le l
  rw [List.length_drop]
  omega
theorem lex_open {s : Bool} {l r : L} (h : skipS l = (r, false)) : lexS s l = .error (r.length, 40) := by
  rw [lexS, if_pos (by rw [h]), h]
theorem lex_done {s : Bool} {l : L} (h : skipS l = ([], true)) : lexS s l = .ok [] := by
  rw [lexS, if_neg (by rw [h]; simp), if_pos (by rw [h])]
theorem lex_bad {s : Bool} {l r : L} {e : Nat} (h : skipS l = (r, true)) (hr : r ≠ []) (ht : tokS s r = .error e) : lexS s l = .error (r.length, e) := by
  rw [lexS, if_neg (by rw [h]; simp), if_neg (by rw [h]; exact hr)]
  split
  rotate_left
  ·
   rename_i h2
   rw [h] at h2
   simp only at h2
   rw [ht] at h2
   cases h2
  rename_i e2 h2
  rw [h] at h2
  simp only at h2
  rw [ht] at h2
  rw [Except.error.inj h2, h]
theorem lex_step {s : Bool} {l r : L} {t : T} {n : Nat} (h : skipS l = (r, true)) (hr : r ≠ []) (ht : tokS s r = .ok (t, n)) : lexS s l = (lexS s (r.drop n)).map fun ts => (t, r.length) :: ts := by
  rw [lexS, if_neg (by rw [h]; simp), if_neg (by rw [h]; exact hr)]
  split
  ·
   rename_i h2
   rw [h] at h2
   simp only at h2
   rw [ht] at h2
   cases h2
  rename_i h2
  rw [h] at h2
  simp only at h2
  rw [ht] at h2
  obtain ⟨rfl, rfl⟩ := Prod.mk.inj (Except.ok.inj h2)
  rw [h]
theorem lex_ind (s : Bool) {P : L → Prop} (h1 : ∀ l r, skipS l = (r, false) → P l) (h2 : ∀ l, skipS l = ([], true) → P l) (h3 : ∀ l r e, skipS l = (r, true) → r ≠ [] → tokS s r = .error e → P l)
    (h4 : ∀ l r t n, skipS l = (r, true) → r ≠ [] → tokS s r = .ok (t, n) → P (r.drop n) → P l) : ∀ (n : Nat) (l : L), l.length ≤ n → P l := by
  intro n
  induction n with
  | zero =>
    intro l hl
    obtain rfl := List.eq_nil_of_length_eq_zero (Nat.le_zero.1 hl)
    exact h2 [] skip_nil
  | succ n ih =>
    intro l hl
    rcases hs : skipS l with ⟨r, b⟩
    cases b with
    | false => exact h1 l r hs
    | true =>
      by_cases hr : r = []
      ·
       subst hr
       exact h2 l hs
      cases ht : tokS s r with
      | error e => exact h3 l r e hs hr ht
      | ok p =>
        refine h4 l r p.1 p.2 hs hr ht (ih _ ?_)
        have h5 := tok_len (t := p.1) (n := p.2) ht
        have h6 := skip_le l
        rw [hs] at h6
        simp only at h6
        rw [List.length_drop]
        omega
theorem map_ok {α β ε : Type} {f : α → β} {x : Except ε α} {y : β} (h : x.map f = .ok y) : ∃ a, x = .ok a ∧ y = f a := by
  cases x with
  | error e => cases h
  | ok a => exact ⟨a, rfl, (Except.ok.inj h).symm⟩
theorem map_err {α β ε : Type} {f : α → β} {x : Except ε α} {e : ε} (h : x.map f = .error e) : x = .error e := by
  cases x with
  | error e => exact congrArg _ (Except.error.inj h)
  | ok a => cases h
theorem skip_split {l r : L} (h : skipS l = (r, true)) : ∃ a, l = a ++ r := by
  obtain ⟨⟨a, ha⟩, _⟩ := skip_suffix l
  rw [h] at ha
  exact ⟨a, ha⟩
end Go.Proofs.YtbnpgobjbokboaaDoor.Lx
