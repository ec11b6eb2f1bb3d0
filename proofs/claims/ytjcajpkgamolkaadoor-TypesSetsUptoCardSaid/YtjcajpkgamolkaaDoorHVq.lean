/- HV, as this claim needs it. -/
import Derived.Test.YtjcajpkgamolkaaDoorHAq
import Derived.Test.YtjcajpkgamolkaaDoorHBq
import Derived.Test.YtjcajpkgamolkaaDoorHHq
import Derived.Test.YtjcajpkgamolkaaDoorHIq
namespace Go.Proofs.YtjcajpkgamolkaaDoor.Ty
open Go.RowKit Go.Proofs.YtjcajpkgamolkaaDoor.PTyp
set_option linter.unusedVariables false
set_option linter.unusedSimpArgs false
theorem any_same {α : Type} {p : α → Bool} {l m : List α} (h : ∀ t, t ∈ l ↔ t ∈ m) : l.any p = m.any p := by
  rw [Bool.eq_iff_iff, List.any_eq_true, List.any_eq_true]
  exact ⟨fun ⟨x, hx, hp⟩ => ⟨x, (h x).1 hx, hp⟩, fun ⟨x, hx, hp⟩ => ⟨x, (h x).2 hx, hp⟩⟩
theorem mayTs_same {l m : List Ty} (h : ∀ t, t ∈ l ↔ t ∈ m) : mayTs l = mayTs m := by
  rw [Bool.eq_iff_iff, mayTs_iff, mayTs_iff]
  exact ⟨fun q t ht => q t ((h t).2 ht), fun q t ht => q t ((h t).1 ht)⟩
theorem unionT_same {l m : List Ty} (h : ∀ t, t ∈ l ↔ t ∈ m) : unionT l = unionT m := by
  have h0 : l.length = 0 ↔ m.length = 0 := by
    rw [List.length_eq_zero_iff, List.length_eq_zero_iff, List.eq_nil_iff_forall_not_mem, List.eq_nil_iff_forall_not_mem]
    exact ⟨fun q t ht => q t ((h t).2 ht), fun q t ht => q t ((h t).1 ht)⟩
  have h1 : normT (l.flatMap partsOf) = normT (m.flatMap partsOf) := normT_same fun t => by
    rw [List.mem_flatMap, List.mem_flatMap]
    exact ⟨fun ⟨x, hx, ht⟩ => ⟨x, (h x).1 hx, ht⟩, fun ⟨x, hx, ht⟩ => ⟨x, (h x).2 hx, ht⟩⟩
  unfold unionT
  rw [mayTs_same h, any_same (p := fun t : Ty => t.k == 1) h, any_same (p := fun t => decide (300 < sizeT t)) h, h1]
  by_cases hz : l.length = 0
  · rw [if_pos hz, if_pos (h0.1 hz)]
  · rw [if_neg hz, if_neg (fun q => hz (h0.2 q))]
def hasAny (l : List Ty) : Bool := l.any (fun t => t.k == 1)
def hasGreat (l : List Ty) : Bool := l.any (fun t => decide (300 < sizeT t))
theorem union_zero {l : List Ty} (h : (unionT l).2 = 0) : l ≠ [] ∧ mayTs l = true ∧ ((hasAny l = true ∧ unionT l = (anyT, 0)) ∨ (hasAny l = false ∧ hasGreat l = false ∧ sizeT (joinT (normT (l.flatMap partsOf))) ≤ 300 ∧ unionT l = (joinT (normT (l.flatMap partsOf)), 0))) := by
  have hu : unionT l = (if l.length = 0 then (zeroT, 1)
    else if mayTs l = false then (zeroT, 1)
    else if hasAny l then (anyT, 0)
    else if hasGreat l || decide (300 < sizeT (joinT (normT (l.flatMap partsOf)))) then (zeroT, 3)
    else (joinT (normT (l.flatMap partsOf)), 0)) := rfl
  rw [hu] at h ⊢
  by_cases h1 : l.length = 0
  · rw [if_pos h1] at h; cases h
  rw [if_neg h1] at h ⊢
  by_cases h2 : mayTs l = false
  · rw [if_pos h2] at h; cases h
  rw [if_neg h2] at h ⊢
  refine ⟨fun e => h1 (by rw [e]; rfl), by simpa using h2, ?_⟩
  cases h3 : hasAny l with
  | true => exact Or.inl ⟨rfl, by rw [if_pos rfl]⟩
  | false =>
    rw [h3, if_neg (by simp)] at h
    cases h4 : hasGreat l with
    | true => rw [h4, Bool.true_or, if_pos rfl] at h; cases h
    | false =>
      rw [h4, Bool.false_or] at h
      by_cases h5 : 300 < sizeT (joinT (normT (l.flatMap partsOf)))
      · rw [decide_eq_true h5, if_pos rfl] at h; cases h
      · exact Or.inr ⟨rfl, rfl, by omega, by rw [if_neg (by simp), Bool.false_or, decide_eq_false h5, if_neg (by simp)]⟩
theorem union_any {m : List Ty} (hne : m ≠ []) (hm : mayTs m = true) (ha : hasAny m = true) : unionT m = (anyT, 0) := by
  have h1 : ¬ m.length = 0 := fun e => hne (List.eq_nil_of_length_eq_zero e)
  unfold unionT
  rw [if_neg h1, if_neg (by rw [hm]; simp)]
  exact if_pos ha
theorem union_of {m u : List Ty} (hne : m ≠ []) (hm : mayTs m = true) (ha : hasAny m = false) (hg : hasGreat m = false) (hu : ∀ x, x ∈ u ↔ x ∈ m.flatMap partsOf) (hr : Rises u) (hs : sizeT (joinT u) ≤ 300) : unionT m = (joinT u, 0) := by
  have h1 : ¬ m.length = 0 := fun e => hne (List.eq_nil_of_length_eq_zero e)
  unfold unionT
  rw [if_neg h1, if_neg (by rw [hm]; simp), ← normT_eq hr hu]
  show (if hasAny m then _ else if hasGreat m || _ then _ else _) = _
  rw [ha, hg, if_neg (by simp), Bool.false_or, decide_eq_false (by omega), if_neg (by simp)]
theorem either_parts {t : Ty} (h : mayT t = true) (hk : t.k = 10) : 2 ≤ t.l.length ∧ ∀ x ∈ t.l, x.k ≠ 1 := by
  obtain ⟨k, n, ns, l⟩ := t
  obtain rfl : k = 10 := hk
  rw [mayT_mk, Bool.and_eq_true] at h
  have hs : (if (1 : Int) ≤ 10 ∧ (10 : Int) ≤ 6 then ns.length == 0 && l.length == 0 && n == 0
    else if (10 : Int) = 7 then ns.length == 0 && l.length == 1 && n == 0
    else if (10 : Int) = 8 then risesB ns && l.length == ns.length && n == 0
    else if (10 : Int) = 9 then ns.length == 0 && decide (1 ≤ l.length) && n == 0
    else if (10 : Int) = 10 then partsOk l && ns.length == 0 && decide (2 ≤ l.length) && n == 0
    else if 11 ≤ (10 : Int) ∧ (10 : Int) ≤ 13 then ns.length == 0 && l.length == 0 && decide (0 ≤ n)
    else false) = true := h.1
  rw [if_neg (by omega), if_neg (by omega), if_neg (by omega), if_neg (by omega), if_pos rfl] at hs
  simp only [Bool.and_eq_true, beq_iff_eq, decide_eq_true_eq] at hs
  exact ⟨hs.1.2, fun x hx => (((partsOk_iff l).1 hs.1.1.1).2 x hx).2⟩
theorem join_of {l : List Ty} (hne : l ≠ []) (hm : mayTs l = true) (ha : hasAny l = false) : normT (l.flatMap partsOf) ≠ [] ∧ ∀ t ∈ normT (l.flatMap partsOf), mayT t = true ∧ t.k ≠ 10 ∧ t.k ≠ 1 := by
  rw [mayTs_iff] at hm
  have ha' : ∀ t ∈ l, t.k ≠ 1 := fun t ht e => by
    have : hasAny l = true := List.any_eq_true.2 ⟨t, ht, by simp [e]⟩
    rw [ha] at this; cases this
  constructor
  · obtain ⟨t, r, rfl⟩ : ∃ t r, l = t :: r := by cases l with | nil => exact absurd rfl hne | cons a r => exact ⟨a, r, rfl⟩
    obtain ⟨x, hx⟩ : ∃ x, x ∈ partsOf t := by
      unfold partsOf
      by_cases hk : t.k = 10
      · rw [if_pos hk]
        have := (either_parts (hm t (by simp)) hk).1
        exact ⟨t.l[0], List.getElem_mem (by omega)⟩
      · rw [if_neg hk]; exact ⟨t, by simp⟩
    intro e
    have : x ∈ normT ((t :: r).flatMap partsOf) := normT_mem.2 (List.mem_flatMap.2 ⟨t, by simp, hx⟩)
    rw [e] at this; cases this
  · intro x hx
    obtain ⟨t, ht, hx⟩ := List.mem_flatMap.1 (normT_mem.1 hx)
    have h1 := mayT_parts (hm t ht) x hx
    refine ⟨h1.1, h1.2, ?_⟩
    unfold partsOf at hx
    by_cases hk : t.k = 10
    · rw [if_pos hk] at hx; exact (either_parts (hm t ht) hk).2 x hx
    · rw [if_neg hk] at hx
      rw [List.mem_singleton.1 hx]; exact ha' t ht
theorem join_may {u : List Ty} (hne : u ≠ []) (h : ∀ t ∈ u, mayT t = true ∧ t.k ≠ 10 ∧ t.k ≠ 1) (hr : Rises u) : mayT (joinT u) = true ∧ partsOf (joinT u) = u ∧ (joinT u).k ≠ 1 := by
  by_cases h1 : u.length = 1
  · obtain ⟨x, rfl⟩ := List.length_eq_one_iff.1 h1
    have hx := h x (by simp)
    have e : joinT [x] = x := rfl
    rw [e]
    exact ⟨hx.1, by unfold partsOf; rw [if_neg hx.2.1], hx.2.2⟩
  · have h2 : 2 ≤ u.length := by
      have : ¬ u.length = 0 := fun e => hne (List.eq_nil_of_length_eq_zero e)
      omega
    have e : joinT u = ⟨10, 0, [], u⟩ := if_neg h1
    rw [e]
    refine ⟨?_, rfl, by show (10 : Int) ≠ 1; decide⟩
    rw [mayT_mk, Bool.and_eq_true, mayTs_iff]
    refine ⟨?_, fun t ht => (h t ht).1⟩
    show (if (1 : Int) ≤ 10 ∧ (10 : Int) ≤ 6 then ([] : List ByteArray).length == 0 && u.length == 0 && (0 : Int) == 0
    else if (10 : Int) = 7 then ([] : List ByteArray).length == 0 && u.length == 1 && (0 : Int) == 0
    else if (10 : Int) = 8 then risesB [] && u.length == ([] : List ByteArray).length && (0 : Int) == 0
    else if (10 : Int) = 9 then ([] : List ByteArray).length == 0 && decide (1 ≤ u.length) && (0 : Int) == 0
    else if (10 : Int) = 10 then partsOk u && ([] : List ByteArray).length == 0 && decide (2 ≤ u.length) && (0 : Int) == 0
    else if 11 ≤ (10 : Int) ∧ (10 : Int) ≤ 13 then ([] : List ByteArray).length == 0 && u.length == 0 && decide (0 ≤ (0 : Int))
    else false) = true
    rw [if_neg (by omega), if_neg (by omega), if_neg (by omega), if_neg (by omega), if_pos rfl, (partsOk_iff u).2 ⟨hr, fun t ht => (h t ht).2⟩, decide_eq_true h2]
    rfl
theorem any_mayT : mayT anyT = true := by decide +kernel
theorem any_size1 : sizeT anyT = 1 := by decide +kernel
structure Whole (l : List Ty) (a : Ty) : Prop where
  ne : l ≠ []
  may : mayTs l = true
  mayA : mayT a = true
  size : sizeT a ≤ 300
  how : (hasAny l = true ∧ a = anyT) ∨ (hasAny l = false ∧ hasGreat l = false ∧ a = joinT (normT (l.flatMap partsOf)) ∧ partsOf a = normT (l.flatMap partsOf) ∧ a.k ≠ 1)
theorem whole_of {l : List Ty} {a : Ty} (h : unionT l = (a, 0)) : Whole l a := by
  obtain ⟨h1, h2, h3⟩ := union_zero (l := l) (by rw [h])
  rcases h3 with ⟨h4, h5⟩ | ⟨h4, h5, h6, h7⟩
  · rw [h] at h5
    obtain rfl : a = anyT := (Prod.mk.inj h5).1
    exact ⟨h1, h2, any_mayT, by rw [any_size1]; omega, Or.inl ⟨h4, rfl⟩⟩
  · rw [h] at h7
    obtain rfl := (Prod.mk.inj h7).1
    have j := join_of h1 h2 h4
    have k := join_may j.1 j.2 (normT_rises _)
    exact ⟨h1, h2, k.1, h6, Or.inr ⟨h4, h5, rfl, k.2.1, k.2.2⟩⟩
theorem any_two (a b : Ty) : hasAny [a, b] = (a.k == 1 || b.k == 1) := by simp [hasAny]
theorem great_two (a b : Ty) : hasGreat [a, b] = (decide (300 < sizeT a) || decide (300 < sizeT b)) := by simp [hasGreat]
theorem may_two (a b : Ty) (ha : mayT a = true) (hb : mayT b = true) : mayTs [a, b] = true := by rw [mayTs_cons, mayTs_cons, mayTs_nil, ha, hb]; rfl
theorem union_more {l : List Ty} {a t : Ty} (h : unionT l = (a, 0)) (ht : t ∈ l) : unionT [a, t] = (a, 0) := by
  have w := whole_of h
  have mt : mayT t = true := (mayTs_iff l).1 w.may t ht
  rcases w.how with ⟨h1, rfl⟩ | ⟨h1, h2, h3, h4, h5⟩
  · exact union_any (by simp) (may_two _ _ w.mayA mt) (by rw [any_two]; rfl)
  · have ht1 : ¬ t.k = 1 := fun e => by have : hasAny l = true := List.any_eq_true.2 ⟨t, ht, by simp [e]⟩; rw [h1] at this; cases this
    have ht2 : ¬ 300 < sizeT t := fun e => by have : hasGreat l = true := List.any_eq_true.2 ⟨t, ht, by simp [e]⟩; rw [h2] at this; cases this
    have e : unionT [a, t] = (joinT (normT (l.flatMap partsOf)), 0) := by
      refine union_of (by simp) (may_two _ _ w.mayA mt) (by rw [any_two]; simp [h5, ht1]) (by rw [great_two, decide_eq_false ht2, decide_eq_false (by have := w.size; omega)]; rfl) (fun x => ?_) (normT_rises _) (by rw [← h3]; exact w.size)
      rw [List.flatMap_cons, List.flatMap_cons, List.flatMap_nil, List.append_nil, List.mem_append, h4]
      exact ⟨Or.inl, fun q => q.elim id fun q => normT_mem.2 (List.mem_flatMap.2 ⟨t, ht, q⟩)⟩
    rw [e, ← h3]
theorem union_self {l : List Ty} {a : Ty} (h : unionT l = (a, 0)) : unionT [a] = (a, 0) := by
  have w := whole_of h
  have hm : mayTs [a] = true := by rw [mayTs_cons, mayTs_nil, w.mayA]; rfl
  rcases w.how with ⟨h1, rfl⟩ | ⟨h1, h2, h3, h4, h5⟩
  · exact union_any (by simp) hm (by rfl)
  · have e : unionT [a] = (joinT (normT (l.flatMap partsOf)), 0) := by
      refine union_of (by simp) hm (by simp [hasAny, h5]) (by simp only [hasGreat, List.any_cons, List.any_nil, Bool.or_false]; exact decide_eq_false (by have := w.size; omega)) (fun x => ?_) (normT_rises _) (by rw [← h3]; exact w.size)
      rw [List.flatMap_cons, List.flatMap_nil, List.append_nil, h4]
    rw [e, ← h3]
theorem union_check {l : List Ty} {a : Ty} (h : unionT l = (a, 0)) : checkT a = 0 := by
  have w := whole_of h
  unfold checkT
  rw [if_neg (by rw [w.mayA]; simp), if_neg (by have := w.size; omega)]
theorem union_split {l1 l2 : List Ty} {a p q : Ty} (h : unionT (l1 ++ l2) = (a, 0)) (h1 : unionT l1 = (p, 0)) (h2 : unionT l2 = (q, 0)) : unionT [p, q] = (a, 0) := by
  have w := whole_of h
  have w1 := whole_of h1
  have w2 := whole_of h2
  have hm := may_two _ _ w1.mayA w2.mayA
  have hsplit : hasAny (l1 ++ l2) = (hasAny l1 || hasAny l2) := by unfold hasAny; rw [List.any_append]
  rcases w.how with ⟨g1, rfl⟩ | ⟨g1, g2, g3, g4, g5⟩
  · rw [hsplit, Bool.or_eq_true] at g1
    refine union_any (by simp) hm ?_
    rw [any_two]
    rcases g1 with g1 | g1
    · rcases w1.how with ⟨_, rfl⟩ | ⟨c, _⟩
      · rfl
      · rw [g1] at c; cases c
    · rcases w2.how with ⟨_, rfl⟩ | ⟨c, _⟩
      · simp [anyT, Ty.k]
      · rw [g1] at c; cases c
  · rw [hsplit, Bool.or_eq_false_iff] at g1
    rcases w1.how with ⟨c, _⟩ | ⟨_, _, a3, a4, a5⟩
    · rw [g1.1] at c; cases c
    rcases w2.how with ⟨c, _⟩ | ⟨_, _, b3, b4, b5⟩
    · rw [g1.2] at c; cases c
    have e : unionT [p, q] = (joinT (normT ((l1 ++ l2).flatMap partsOf)), 0) := by
      refine union_of (by simp) hm (by rw [any_two]; simp [a5, b5]) (by rw [great_two, decide_eq_false (by have := w1.size; omega), decide_eq_false (by have := w2.size; omega)]; rfl) (fun x => ?_) (normT_rises _) (by rw [← g3]; exact w.size)
      rw [List.flatMap_cons, List.flatMap_cons, List.flatMap_nil, List.append_nil, List.mem_append, a4, b4, normT_mem, normT_mem, normT_mem, List.flatMap_append, List.mem_append]
    rw [e, ← g3]
end Go.Proofs.YtjcajpkgamolkaaDoor.Ty
namespace Go.Proofs.YtjcajpkgamolkaaDoor.Ty
open Go.RowKit Go.Proofs.YtjcajpkgamolkaaDoor.PTyp Go.Proofs.YtjcajpkgamolkaaDoorW.PrintWords Go.Proofs.YtjcajpkgamolkaaDoorW.PrintLast Go.Proofs.YtjcajpkgamolkaaDoorW.PrintMore
attribute [local go_sem] max2_int min2_int max_two min_two max_three min_three max_four min_four
set_option linter.unusedVariables false
set_option linter.unusedSimpArgs false
theorem union_full {l : List Ty} {a : Ty} {E : Int} (hu : unionT l = (a, E)) {W : World} {A : Option Addr} {c : Nat} (hr : Kd.C k25 W A l.length l) (hc : l.length ≤ c) (hw : wTs l ≤ 1000000000000) :
    Calls Tryd.prog 24 #[.slice A l.length c] W fun e w' => ∃ A2 c2 A3 c3, e = .returned (.tuple #[.agg #[.int .i64 a.f0, .int .i64 a.f1, .slice A2 a.f2.length c2, .slice A3 a.f3.length c3], .int .i64 E]) ∧ RowsT w' a A2 c2 A3 c3 ∧ Below W.heap.size W w' := by
  refine (union_calls A c l W hr hc hw).mono ?_
  rw [hu]
  rintro e w' ⟨v2, v3, rfl, h2, h3, hB⟩
  obtain ⟨A2, c2, e2, l2, g2⟩ := Kd.R_reads h2
  obtain ⟨A3, c3, e3, l3, g3⟩ := Kd.R_reads h3
  subst e2
  subst e3
  exact ⟨A2, c2, A3, c3, rfl, ⟨l2, g2, l3, g3⟩, hB⟩
theorem keepB {α : Type} {d : Kd α} {e : Nat} {W : World} {b B o : Nat} {ok : Nat → Prop} {v : Value} {xs : List α} {u : Value} (hb : b < B) (h : d.R e W B ok v xs) : d.R e (W.setCell ⟨b, o, none⟩ u) B ok v xs :=
  Kd.R_mono (Kd.R_move (Kd.R_bound h) (fun k hk => by
    have hne : k ≠ b := by have := hk.2.1; omega
    rw [Below.heap_setCell _ ⟨b, o, none⟩ u k hne])) (fun _ hk => hk.1)
theorem reads_at {α : Type} {d : Kd α} {e : Nat} {W : World} {B : Nat} {ok : Nat → Prop} {A : Option Addr} {n c : Nat} {xs : List α} (h : d.R e W B ok (.slice A n c) xs) (hn : n = xs.length) : xs.length ≤ c ∧ d.C W A xs.length xs := by
  obtain ⟨A', c', e1, h1, h2⟩ := Kd.R_reads h
  injection e1 with e2 _ e3
  subst e2
  subst e3
  exact ⟨h1, h2⟩
theorem union_far {l : List Ty} {a : Ty} {E : Int} (hu : unionT l = (a, E)) {W : World} {A : Option Addr} {c : Nat} (hr : Kd.C k25 W A l.length l) (hc : l.length ≤ c) (hw : wTs l ≤ 1000000000000) :
    Calls Tryd.prog 24 #[.slice A l.length c] W fun e w' => ∃ A2 c2 A3 c3, e = .returned (.tuple #[.agg #[.int .i64 a.f0, .int .i64 a.f1, .slice A2 a.f2.length c2, .slice A3 a.f3.length c3], .int .i64 E]) ∧ RowsT w' a A2 c2 A3 c3 ∧ (∀ g, g < W.heap.size → ∀ u0 u1 u2 u3 : Value, RowsT ((((w'.setCell ⟨g, 0, none⟩ u0).setCell ⟨g, 1, none⟩ u1).setCell ⟨g, 2, none⟩ u2).setCell ⟨g, 3, none⟩ u3) a A2 c2 A3 c3) ∧ Below W.heap.size W w' := by
  refine (union_calls A c l W hr hc hw).mono ?_
  rw [hu]
  rintro e w' ⟨v2, v3, rfl, h2, h3, hB⟩
  obtain ⟨A2, c2, e2, l2, g2⟩ := Kd.R_reads h2
  obtain ⟨A3, c3, e3, l3, g3⟩ := Kd.R_reads h3
  subst e2
  subst e3
  refine ⟨A2, c2, A3, c3, rfl, ⟨l2, g2, l3, g3⟩, fun g hg u0 u1 u2 u3 => ?_, hB⟩
  have k2 := reads_at (keepB (o := 3) (u := u3) hg (keepB (o := 2) (u := u2) hg (keepB (o := 1) (u := u1) hg (keepB (o := 0) (u := u0) hg h2)))) rfl
  have k3 := reads_at (keepB (o := 3) (u := u3) hg (keepB (o := 2) (u := u2) hg (keepB (o := 1) (u := u1) hg (keepB (o := 0) (u := u0) hg h3)))) rfl
  exact ⟨k2.1, k2.2, k3.1, k3.2⟩
theorem row_single {W : World} {g : Nat} {t : Ty} {A2 A3 : Option Addr} {c2 c3 : Nat} (hr : RowsT W t A2 c2 A3 c3) (hb : W.heap[g]? = some (.cells #[.int .i64 t.f0, .int .i64 t.f1, .slice A2 t.f2.length c2, .slice A3 t.f3.length c3] 25 (0, 0))) : Kd.C k25 W (some ⟨g, 0, none⟩) [t].length [t] :=
  row_of (d := k25) hb (by simp) (fun j x hj => by
    have hj0 : j = 0 := by
      have := (List.getElem?_eq_some_iff.1 hj).1
      simp at this; omega
    subst hj0
    obtain rfl : t = x := by simpa using hj
    exact ⟨_, rfl, k25_mk _ t hr.1 hr.2.1 hr.2.2.1 hr.2.2.2, fun i u hu => by rw [show k25.sz = 4 from rfl]; simpa using (four_at (k := 0) hu)⟩)
theorem row_two {W : World} {g : Nat} {t u : Ty} {A2 A3 B2 B3 : Option Addr} {c2 c3 d2 d3 : Nat} (w0 : World) (hr : RowsT w0 t A2 c2 A3 c3) (hs : RowsT w0 u B2 d2 B3 d3) (hb : W.heap[g]? = some (.cells #[.int .i64 t.f0, .int .i64 t.f1, .slice A2 t.f2.length c2, .slice A3 t.f3.length c3, .int .i64 u.f0, .int .i64 u.f1, .slice B2 u.f2.length d2, .slice B3 u.f3.length d3] 25 (0, 0))) : ReadsRow (k25.K w0) k25.sz W (some ⟨g, 0, none⟩) [t, u].length [t, u] :=
  row_of (d := k25) hb (by simp) (fun j x hj => by
    have hj0 : j = 0 ∨ j = 1 := by
      have := (List.getElem?_eq_some_iff.1 hj).1
      simp at this; omega
    rcases hj0 with rfl | rfl
    · obtain rfl : t = x := by simpa using hj
      exact ⟨_, rfl, k25_mk _ t hr.1 hr.2.1 hr.2.2.1 hr.2.2.2, fun i u hu => by rw [show k25.sz = 4 from rfl]; simpa using (four_at (k := 0) hu)⟩
    · obtain rfl : u = x := by simpa using hj
      exact ⟨_, rfl, k25_mk _ u hs.1 hs.2.1 hs.2.2.1 hs.2.2.2, fun i u hu => by rw [show k25.sz = 4 from rfl]; simpa using (four_at (k := 4) hu)⟩)
def tl (l : List Ty) (j : Nat) : List Ty := (l.reverse.take j).flatMap fun t => [t, t]
theorem tl_next {l : List Ty} {j : Nat} (hj : j < l.length) : tl l (j + 1) = tl l j ++ [l[l.length - 1 - j]'(by omega), l[l.length - 1 - j]'(by omega)] := by
  unfold tl
  rw [List.take_succ_eq_append_getElem (by simpa using hj), List.flatMap_append, List.getElem_reverse]
  simp
theorem tl_mem (l : List Ty) : ∀ t, t ∈ tl l l.length ↔ t ∈ l := fun t => by
  unfold tl
  rw [List.take_of_length_le (by simp), List.mem_flatMap]
  constructor
  · rintro ⟨x, hx, ht⟩
    have : t = x := by simpa using ht
    subst this
    exact List.mem_reverse.1 hx
  · exact fun h => ⟨t, List.mem_reverse.2 h, by simp⟩
theorem tl_w (l : List Ty) : ∀ j, j ≤ l.length → wTs (tl l j) ≤ 2 * wTs l := by
  have h : ∀ m : List Ty, wTs (m.flatMap fun t => [t, t]) = 2 * wTs m := by
    intro m
    induction m with
    | nil => simp [wTs_nil]
    | cons a r ih => rw [List.flatMap_cons, wTs_append, ih, wTs_cons, wTs_cons, wTs_nil, wTs_cons]; omega
  intro j hj
  unfold tl
  rw [h]
  have h2 : wTs (l.reverse.take j) + wTs (l.reverse.drop j) = wTs l.reverse := by rw [← wTs_append, List.take_append_drop]
  have h3 : ∀ m : List Ty, wTs m.reverse = wTs m := by
    intro m
    induction m with
    | nil => rfl
    | cons a r ih => rw [List.reverse_cons, wTs_append, ih, wTs_cons, wTs_cons, wTs_nil]; omega
  have := h3 l
  omega
theorem union_w {l : List Ty} {a : Ty} {E : Int} (h : unionT l = (a, E)) : wT a ≤ 1 + wTs l := by
  have hz : wT zeroT = 1 := by decide +kernel
  have hy : wT anyT = 1 := by decide +kernel
  have ej : ∀ u : List Ty, wT (joinT u) ≤ 1 + wTs u := by
    intro u
    unfold joinT
    split
    · rename_i h1
      obtain ⟨x, rfl⟩ := List.length_eq_one_iff.1 h1
      show wT x ≤ _
      rw [wTs_cons, wTs_nil]; omega
    · rw [wT_mk]; show 1 + 0 + wTs u ≤ _; omega
  have h1 := ej (normT (l.flatMap partsOf))
  have h2 := wTs_norm (l.flatMap partsOf)
  have h3 := wTs_flat l
  unfold unionT at h
  repeat' split at h
  all_goals (obtain ⟨rfl, _⟩ := Prod.mk.inj h; omega)
theorem take_C {W : World} {A : Option Addr} {l : List Ty} (h : k25.C W A l.length l) (p : Nat) (hp : p ≤ l.length) : k25.C W A (l.take p).length (l.take p) := by
  obtain ⟨_, h2, hg⟩ := h
  have hl : (l.take p).length = p := by rw [List.length_take]; omega
  refine ⟨rfl, by omega, fun hp0 => ?_⟩
  obtain ⟨ad, e, hc⟩ := hg (by omega)
  refine ⟨ad, e, fun j x hj => hc j x ?_⟩
  have hj2 := (List.getElem?_eq_some_iff.1 hj).1
  rw [List.getElem?_take] at hj
  split at hj
  · exact hj
  · cases hj
theorem drop_C {W : World} {ad : Addr} {l : List Ty} (h : k25.C W (some ad) l.length l) (p : Nat) (hp : p ≤ l.length) : k25.C W (some (ad.add (p * 4))) (l.drop p).length (l.drop p) := by
  obtain ⟨_, h2, hg⟩ := h
  refine ⟨rfl, by rw [List.length_drop]; omega, fun hp0 => ⟨_, rfl, fun j x hj => ?_⟩⟩
  have hl : 0 < l.length := by rw [List.length_drop] at hp0; omega
  obtain ⟨ad', e, hc⟩ := hg hl
  obtain rfl : ad = ad' := by injection e
  rw [List.getElem?_drop] at hj
  obtain ⟨c, h3, h4, h5⟩ := hc (p + j) x hj
  refine ⟨c, h3, h4, fun i u hu => ?_⟩
  have := h5 i u hu
  rw [add_add]
  have e2 : p * 4 + (j * 4 + i) = (p + j) * 4 + i := by omega
  rw [show k25.sz = 4 from rfl] at this ⊢
  rw [e2]
  exact this
set_option maxHeartbeats 4000000 in
set_option maxRecDepth 100000 in
theorem sets_calls (A0 : Option Addr) (c0 : Nat) (l : List Ty) (at0 : Int) (w : World) [GW w] (hr : Kd.C k25 w A0 l.length l) (hc : l.length ≤ c0) (hw : wTs l ≤ 100000000000) (hat : -9223372036854775808 ≤ at0 ∧ at0 ≤ 9223372036854775807) :
    Calls Tryd.prog 8 #[.slice A0 l.length c0, .int .i64 at0] w fun e w' => e = .returned (.bool true) ∧ Below w.heap.size w w' := by
  have hu25 := Tryd.underlying25
  obtain ⟨a, E, hu⟩ : ∃ a E, unionT l = (a, E) := ⟨_, _, rfl⟩
  have HR := Aside0.mk hr
  have HU := Aside0.mk hu
  have HW := Aside0.mk hw
  have hn : l.length ≤ 100000000000 := by have := wTs_len l; omega
  have WA := Aside0.mk (union_w hu)
  clear hr hu hw
  go_enter Tryd.func8, Tryd.ntmps8
  have HB0 := Aside0.mk (Below.refl w.heap.size w)
  haveI := GW.of HB0.out
  go_wp2_with (go_at_call 24; refine holdT_ ?_)
  unfold HeldT
  refine (union_full HU.out (Kd.C_below HR.out HB0.out) hc (by have := HW.out; omega)).mono ?_
  rintro e w1 ⟨PA2, pa2, PA3, pa3, rfl, hra, hb⟩
  have HB1 := Aside0.mk (below_step HB0.out hb)
  clear HB0 hb
  have RA := Aside0.mk hra
  clear hra
  go_upto_region 2 with (fail)
  have N_ : Aside0 ((w1.alloc (.cells #[.int .i64 a.f0, .int .i64 a.f1, .slice PA2 a.f2.length pa2, .slice PA3 a.f3.length pa3] 25)).heap[w1.heap.size]? = some (.cells #[.int .i64 a.f0, .int .i64 a.f1, .slice PA2 a.f2.length pa2, .slice PA3 a.f3.length pa3] 25 (0, 0))) := ⟨heap_alloc_new w1 (.cells #[.int .i64 a.f0, .int .i64 a.f1, .slice PA2 a.f2.length pa2, .slice PA3 a.f3.length pa3] 25)⟩
  have nRA : Aside0 (RowsT (w1.alloc (.cells #[.int .i64 a.f0, .int .i64 a.f1, .slice PA2 a.f2.length pa2, .slice PA3 a.f3.length pa3] 25)) a PA2 pa2 PA3 pa3) := ⟨RA.out.below (below_alloc (Below.refl _ _) _)⟩
  have HB2 : Aside0 (Below w.heap.size w (w1.alloc (.cells #[.int .i64 a.f0, .int .i64 a.f1, .slice PA2 a.f2.length pa2, .slice PA3 a.f3.length pa3] 25))) := ⟨below_alloc HB1.out _⟩
  have hs2 := HB1.out.size
  clear RA HB1
  generalize (w1.alloc (.cells #[.int .i64 a.f0, .int .i64 a.f1, .slice PA2 a.f2.length pa2, .slice PA3 a.f3.length pa3] 25)) = w2 at *
  generalize w1.heap.size = ga at *
  have RA := nRA
  clear nRA
  have BA := N_
  clear N_
  go_wp2
  go_loopw [7, 8] (fun v7 v8 W => ∃ (j : Nat) (u7 : Value), v8 = .int .i64 ((l.length : Int) - 1 - j) ∧ j ≤ l.length ∧ v7 = u7 ∧ Aside0 (Below w2.heap.size w2 W) ∧ Aside0 ((kW w).R 25 W w2.heap.size (fun _ => True) u7 (tl l j))) (fun _ v8 _ => (RowKit.intOf v8 + 1).toNat)
  case atStart => exact ⟨0, .slice none 0 0, by simp, Nat.zero_le _, rfl, ⟨Below.refl _ _⟩, ⟨by simpa [tl] using Kd.R_nil (kW w) 25 _ _ _⟩⟩
  case round =>
    obtain ⟨j, u7, rfl, hjn, rfl, HW2, R7⟩ := hrel
    have HB := Aside0.mk (below_step HB2.out HW2.out)
    by_cases hj : j < l.length
    · have hi : l.length - 1 - j < l.length := by omega
      have hge : ((l.length : Int) - 1 - (j : Int) ≥ 0) = True := by simp; omega
      obtain ⟨i, hie⟩ : ∃ i : Nat, (l.length : Int) - 1 - (j : Int) = i := ⟨l.length - 1 - j, by omega⟩
      have hi2 : l.length - 1 - j = i := by omega
      have HN := Aside0.mk (tl_next hj)
      have HL7 : Aside0 ((tl l j).length ≤ 200000000000) := ⟨by have := tl_w l j hjn; have := wTs_len (tl l j); have := HW.out; omega⟩
      obtain ⟨ad, B2, b2, B3, b3, e, k0, k1, k2, k3, rows⟩ := at_ty HR.out (Below.refl w.heap.size w) hi
      have ROWS := Aside0.mk rows
      clear rows
      generalize l[l.length - 1 - j] = t at *
      rw [hi2] at k0 k1 k2 k3
      rw [hie] at hge
      have K0 := Aside0.mk k0
      have K1 := Aside0.mk k1
      have K2 := Aside0.mk k2
      have K3 := Aside0.mk k3
      have q0 := pw_cell_below HB.out k0
      have q1 := pw_cell_below HB.out k1
      have q2 := pw_cell_below HB.out k2
      have q3 := pw_cell_below HB.out k3
      clear k0 k1 k2 k3
      have hil : i < l.length := by omega
      have HIE := Aside0.mk hie
      rw [hie]
      clear hie hi2 hi
      subst e
      have hlt : ((i : Int) < (l.length : Int)) = True := by simp [hil]
      have hg0 : ((0 : Int) ≤ (i : Int)) = True := by simp
      obtain ⟨A7, c7, e7⟩ := Kd.R_slice R7.out
      subst e7
      have hown : ∀ k, (Value.slice A7 (tl l j).length c7).ownBlock = some k → w2.heap.size ≤ k ∧ k < wr.heap.size := fun k hk => by
        have := (Kd.R_bound R7.out).1 k hk
        exact ⟨this.2.1, this.2.2.1⟩
      generalize tl l j = P at *
      go_upto_region 6 with (fail)
      refine start_ (n := 12) (S := fun w' => w'.cell? (ad.add (i * 4)) = some (.int .i64 t.f0) ∧ w'.cell? ⟨(ad.add (i * 4)).block, (ad.add (i * 4)).off + 1, none⟩ = some (.int .i64 t.f1) ∧ w'.cell? ⟨(ad.add (i * 4)).block, (ad.add (i * 4)).off + 2, none⟩ = some (.slice B2 t.f2.length b2) ∧ w'.cell? ⟨(ad.add (i * 4)).block, (ad.add (i * 4)).off + 3, none⟩ = some (.slice B3 t.f3.length b3)) (ds := []) #[false, false, false, false, false, false, false, false, false, false, false, false] (by kernel_rfl) rfl rfl ⟨q0, q1, q2, q3⟩ (fun hHeld => ?_)
      refine pure_ (i := 0) (N := some 33) (v := ?_) (a' := ?_) #[true, false, false, false, false, false, false, false, false, false, false, false] rfl rfl (by kernel_rfl) (fun _ _ _ h => h) (Or.inl ⟨by rfl, ?_⟩) ?_ ?_
      rotate_left
      · intro w'
        go_simp
        with_reducible rfl
      rotate_left
      · simp only [Act.put, List.setIfInBounds_toArray, List.set_cons_zero, List.set_cons_succ, i64_w, i32_w]
        rfl
      refine pure_ (i := 1) (N := some 34) (v := ?_) (a' := ?_) #[true, true, false, false, false, false, false, false, false, false, false, false] rfl rfl (by kernel_rfl) (fun _ _ _ h => h) (Or.inl ⟨by rfl, ?_⟩) ?_ ?_
      rotate_left
      · intro w'
        go_simp
        with_reducible rfl
      rotate_left
      · simp only [Act.put, List.setIfInBounds_toArray, List.set_cons_zero, List.set_cons_succ, i64_w, i32_w]
        rfl
      refine pure_ (i := 2) (N := some 35) (v := ?_) (a' := ?_) #[true, true, true, false, false, false, false, false, false, false, false, false] rfl rfl (by kernel_rfl) (fun _ _ _ h => h) (Or.inl ⟨by rfl, ?_⟩) ?_ ?_
      rotate_left
      · intro w'
        go_simp
        with_reducible rfl
      rotate_left
      · simp only [Act.put, List.setIfInBounds_toArray, List.set_cons_zero, List.set_cons_succ, i64_w, i32_w]
        rfl
      refine pure_ (i := 3) (N := some 36) (v := ?_) (a' := ?_) #[true, true, true, true, false, false, false, false, false, false, false, false] rfl rfl (by kernel_rfl) (fun _ _ _ h => h) (Or.inl ⟨by rfl, ?_⟩) ?_ ?_
      rotate_left
      · intro w'
        go_simp
        with_reducible rfl
      rotate_left
      · simp only [Act.put, List.setIfInBounds_toArray, List.set_cons_zero, List.set_cons_succ, i64_w, i32_w]
        rfl
      refine pure_ (i := 5) (N := some 38) (v := ?_) (a' := ?_) #[true, true, true, true, false, true, false, false, false, false, false, false] rfl rfl (by kernel_rfl) (fun _ _ _ h => h) (Or.inl ⟨by rfl, ?_⟩) ?_ ?_
      rotate_left
      · intro w'
        go_simp
        with_reducible rfl
      rotate_left
      · simp only [Act.put, List.setIfInBounds_toArray, List.set_cons_zero, List.set_cons_succ, i64_w, i32_w]
        rfl
      refine pure_ (i := 6) (N := some 39) (v := ?_) (a' := ?_) #[true, true, true, true, false, true, true, false, false, false, false, false] rfl rfl (by kernel_rfl) (fun _ _ _ h => h) (Or.inl ⟨by rfl, ?_⟩) ?_ ?_
      rotate_left
      · intro w'
        go_simp
        with_reducible rfl
      rotate_left
      · simp only [Act.put, List.setIfInBounds_toArray, List.set_cons_zero, List.set_cons_succ, i64_w, i32_w]
        rfl
      refine pure_ (i := 7) (N := some 40) (v := ?_) (a' := ?_) #[true, true, true, true, false, true, true, true, false, false, false, false] rfl rfl (by kernel_rfl) (fun _ _ _ h => h) (Or.inl ⟨by rfl, ?_⟩) ?_ ?_
      rotate_left
      · intro w'
        go_simp
        with_reducible rfl
      rotate_left
      · simp only [Act.put, List.setIfInBounds_toArray, List.set_cons_zero, List.set_cons_succ, i64_w, i32_w]
        rfl
      refine take_ (i := 4) (N := some 37) (v := ?_) (a' := ?_) #[true, true, true, true, true, true, true, true, false, false, false, false] rfl rfl (by kernel_rfl) (fun _ _ _ h => h) (Or.inl ⟨by rfl, ?_⟩) hHeld ?_ ?_
      rotate_left
      · rintro w' ⟨s0, s1, s2, s3⟩
        go_simp
        with_reducible rfl
      rotate_left
      · simp only [Act.put, List.setIfInBounds_toArray, List.set_cons_zero, List.set_cons_succ, i64_w, i32_w]
        rfl
      refine take_ (i := 8) (N := some 41) (v := ?_) (a' := ?_) #[true, true, true, true, true, true, true, true, true, false, false, false] rfl rfl (by kernel_rfl) (fun _ _ _ h => h) (Or.inl ⟨by rfl, ?_⟩) hHeld ?_ ?_
      rotate_left
      · rintro w' ⟨s0, s1, s2, s3⟩
        go_simp
        with_reducible rfl
      rotate_left
      · simp only [Act.put, List.setIfInBounds_toArray, List.set_cons_zero, List.set_cons_succ, i64_w, i32_w]
        rfl
      refine one_ (i := 9) (N := some 42) #[true, true, true, true, true, true, true, true, true, true, false, false] rfl rfl (by kernel_rfl) (by decide) (fun K hK => ?_)
      refine value_ (w1 := ?_) (v := ?_) (by rfl) rfl ?_ ?_
      rotate_left 2
      · go_simp
        constructor
        · rfl
        · rfl
      have z_ := below_alloc (below_drew1 (Below.refl wr.heap.size wr)) (.cells #[.int .i64 t.f0, .int .i64 t.f1, .slice B2 t.f2.length b2, .slice B3 t.f3.length b3, .int .i64 t.f0, .int .i64 t.f1, .slice B2 t.f2.length b2, .slice B3 t.f3.length b3] 25)
      refine hK.out _ _ ⟨pw_cell_below z_ q0, pw_cell_below z_ q1, pw_cell_below z_ q2, pw_cell_below z_ q3⟩ (fun hHeld => ?_)
      clear hK K
      refine norm_ (a' := ?_) ?_ ?_
      rotate_left
      · show Act.put _ (some 42) _ = _
        simp only [Act.put, List.setIfInBounds_toArray, List.set_cons_zero, List.set_cons_succ, i64_w, i32_w]
        rfl
      clear z_
      refine one_ (i := 10) (N := some 43) #[true, true, true, true, true, true, true, true, true, true, true, false] rfl rfl (by kernel_rfl) (by decide) (fun K hK => ?_)
      have mR := Aside0.mk (Kd.R_alloc (Kd.R_drew R7.out) (.cells #[.int .i64 t.f0, .int .i64 t.f1, .slice B2 t.f2.length b2, .slice B3 t.f3.length b3, .int .i64 t.f0, .int .i64 t.f1, .slice B2 t.f2.length b2, .slice B3 t.f3.length b3] 25))
      have mB := Aside0.mk (below_alloc (below_drew1 HW2.out) (.cells #[.int .i64 t.f0, .int .i64 t.f1, .slice B2 t.f2.length b2, .slice B3 t.f3.length b3, .int .i64 t.f0, .int .i64 t.f1, .slice B2 t.f2.length b2, .slice B3 t.f3.length b3] 25))
      have mT := Aside0.mk (row_two w ROWS.out ROWS.out (heap_alloc_new wr.drew (.cells #[.int .i64 t.f0, .int .i64 t.f1, .slice B2 t.f2.length b2, .slice B3 t.f3.length b3, .int .i64 t.f0, .int .i64 t.f1, .slice B2 t.f2.length b2, .slice B3 t.f3.length b3] 25)))
      refine Kd.R_append_rows_step (kW w) (w0 := w2) w2.heap.size (by rfl) (.tmp 33) (.tmp 42) 23 25 (.agg #[.int .i64 0, .int .i64 0, .slice none 0 0, .slice none 0 0]) 64 rfl Tryd.underlying23 info25 rfl (Nat.zero_lt_succ 3) (by decide) (.slice A7 P.length c7) P [t, t] _ _ _ (fun _ => True) (fun _ => False) rfl rfl mR.out mT.out (fun _ _ h => h) (fun _ h => h.elim) (fun _ _ => trivial) mB.out mB.out.size (by have := HL7.out; omega) ?_
      intro v1 w5 ho hb5 hg _
      rw [← HN.out] at ho
      have p7 := Aside0.mk ho
      have pW := Aside0.mk hb5
      have pB := Aside0.mk (below_step HB2.out hb5)
      clear ho hb5 hg
      refine hK.out _ _ ⟨pw_cell_below pB.out K0.out, pw_cell_below pB.out K1.out, pw_cell_below pB.out K2.out, pw_cell_below pB.out K3.out⟩ (fun hHeld => ?_)
      clear hK K
      refine norm_ (a' := ?_) ?_ ?_
      rotate_left
      · show Act.put _ (some 43) _ = _
        simp only [Act.put, List.setIfInBounds_toArray, List.set_cons_zero, List.set_cons_succ, i64_w, i32_w]
        rfl
      refine pure_ (i := 11) (N := some 7) (v := ?_) (a' := ?_) #[true, true, true, true, true, true, true, true, true, true, true, true] rfl rfl (by kernel_rfl) (fun _ _ _ h => h) (Or.inl ⟨by rfl, ?_⟩) ?_ ?_
      rotate_left
      · intro w'
        go_simp
        with_reducible rfl
      rotate_left
      · simp only [Act.put, List.setIfInBounds_toArray, List.set_cons_zero, List.set_cons_succ, i64_w, i32_w]
        rfl
      refine done_ (by kernel_rfl) ?_
      try go_wp2
      go_roundw
      case measure => simp [RowKit.intOf]
      case rel => exact ⟨j + 1, _, (by have := HIE.out; congr 1; omega), hj, rfl, pW, p7⟩
    · obtain rfl : j = l.length := by omega
      have hge : ((l.length : Int) - 1 - (l.length : Int) ≥ 0) = False := by simp; omega
      have hgl : ((0 : Int) ≤ (l.length : Int) - 1 - (l.length : Int)) = False := by simp; omega
      obtain ⟨A7, c7, e7, hc7, hC7⟩ := Kd.R_reads R7.out
      subst e7
      have HC7 := Aside0.mk (kW_to hC7 HB.out)
      have HU2 : Aside0 (unionT (tl l l.length) = (a, E)) := ⟨by rw [unionT_same (tl_mem l)]; exact HU.out⟩
      have HT7 : Aside0 (wTs (tl l l.length) ≤ 1000000000000) := ⟨by have := tl_w l l.length (Nat.le_refl _); have := HW.out; omega⟩
      have nBA := Aside0.mk (blk_below BA.out HW2.out)
      have nRA := Aside0.mk (RA.out.below HW2.out)
      have HB3 := HB
      clear BA RA HB HB2 HW2 hC7 R7
      have BA := nBA
      have RA := nRA
      clear nBA nRA
      generalize tl l l.length = Q at *
      generalize wr = w3 at *
      haveI := GW.of HB3.out
      go_wp2_with (go_at_call 24; refine holdT_ ?_)
      unfold HeldT
      refine (union_full HU2.out HC7.out hc7 HT7.out).mono ?_
      rintro e w4 ⟨PB2, pb2, PB3, pb3, rfl, hrb, hb⟩
      have nBA := Aside0.mk (blk_below BA.out hb)
      have nRA := Aside0.mk (RA.out.below hb)
      have HB4 := Aside0.mk (below_step HB3.out hb)
      clear BA RA HB3 hb
      have BA := nBA
      clear nBA
      have RA := nRA
      clear nRA
      have RB := Aside0.mk hrb
      clear hrb
      go_upto_region 8 with (fail)
      have N_ : Aside0 ((w4.alloc (.cells #[.int .i64 a.f0, .int .i64 a.f1, .slice PB2 a.f2.length pb2, .slice PB3 a.f3.length pb3] 25)).heap[w4.heap.size]? = some (.cells #[.int .i64 a.f0, .int .i64 a.f1, .slice PB2 a.f2.length pb2, .slice PB3 a.f3.length pb3] 25 (0, 0))) := ⟨heap_alloc_new w4 (.cells #[.int .i64 a.f0, .int .i64 a.f1, .slice PB2 a.f2.length pb2, .slice PB3 a.f3.length pb3] 25)⟩
      have nBA : Aside0 ((w4.alloc (.cells #[.int .i64 a.f0, .int .i64 a.f1, .slice PB2 a.f2.length pb2, .slice PB3 a.f3.length pb3] 25)).heap[ga]? = some (.cells #[.int .i64 a.f0, .int .i64 a.f1, .slice PA2 a.f2.length pa2, .slice PA3 a.f3.length pa3] 25 (0, 0))) := ⟨blk_alloc BA.out _⟩
      have nRA : Aside0 (RowsT (w4.alloc (.cells #[.int .i64 a.f0, .int .i64 a.f1, .slice PB2 a.f2.length pb2, .slice PB3 a.f3.length pb3] 25)) a PA2 pa2 PA3 pa3) := ⟨RA.out.below (below_alloc (Below.refl _ _) _)⟩
      have nRB : Aside0 (RowsT (w4.alloc (.cells #[.int .i64 a.f0, .int .i64 a.f1, .slice PB2 a.f2.length pb2, .slice PB3 a.f3.length pb3] 25)) a PB2 pb2 PB3 pb3) := ⟨RB.out.below (below_alloc (Below.refl _ _) _)⟩
      have HB5 : Aside0 (Below w.heap.size w (w4.alloc (.cells #[.int .i64 a.f0, .int .i64 a.f1, .slice PB2 a.f2.length pb2, .slice PB3 a.f3.length pb3] 25))) := ⟨below_alloc HB4.out _⟩
      have hs5 := HB4.out.size
      clear BA RA RB HB4
      generalize (w4.alloc (.cells #[.int .i64 a.f0, .int .i64 a.f1, .slice PB2 a.f2.length pb2, .slice PB3 a.f3.length pb3] 25)) = w5 at *
      generalize w4.heap.size = gb at *
      have BA := nBA
      clear nBA
      have RA := nRA
      clear nRA
      have RB := nRB
      clear nRB
      have BB := N_
      clear N_
      obtain ⟨Kc, hKc⟩ := cmp_ev a a (by have := WA.out; have := HW.out; omega) (by have := WA.out; have := HW.out; omega)
      have EC := Aside0.mk (hKc Kc (Nat.le_refl _))
      rw [cmpT_self] at EC
      clear hKc
      have x0 : w5.cell? ⟨ga, 0, none⟩ = some (.int .i64 a.f0) := (blk_cell BA.out 0).trans rfl
      have x1 : w5.cell? ⟨ga, 1, none⟩ = some (.int .i64 a.f1) := (blk_cell BA.out 1).trans rfl
      have x2 : w5.cell? ⟨ga, 2, none⟩ = some (.slice PA2 a.f2.length pa2) := (blk_cell BA.out 2).trans rfl
      have x3 : w5.cell? ⟨ga, 3, none⟩ = some (.slice PA3 a.f3.length pa3) := (blk_cell BA.out 3).trans rfl
      have y0 : w5.cell? ⟨gb, 0, none⟩ = some (.int .i64 a.f0) := (blk_cell BB.out 0).trans rfl
      have y1 : w5.cell? ⟨gb, 1, none⟩ = some (.int .i64 a.f1) := (blk_cell BB.out 1).trans rfl
      have y2 : w5.cell? ⟨gb, 2, none⟩ = some (.slice PB2 a.f2.length pb2) := (blk_cell BB.out 2).trans rfl
      have y3 : w5.cell? ⟨gb, 3, none⟩ = some (.slice PB3 a.f3.length pb3) := (blk_cell BB.out 3).trans rfl
      have hEE : (E != E) = false := by simp
      haveI := GW.of HB5.out
      go_wp2_with (go_at_call 21; refine holdT_ ?_)
      unfold HeldT
      refine (types_Compare.calls Kc _ _ _ _ _ _ _ _ _ _ _ _ _ _ _ _ _ _ RA.out.2.1 RA.out.1 RA.out.2.2.2 RA.out.2.2.1 RB.out.2.1 RB.out.1 RB.out.2.2.2 RB.out.2.2.1 EC.out).mono ?_
      rintro e w6 ⟨rfl, hb⟩
      have nBA := Aside0.mk (blk_below BA.out hb)
      have nBB := Aside0.mk (blk_below BB.out hb)
      have nRA := Aside0.mk (RA.out.below hb)
      have nRB := Aside0.mk (RB.out.below hb)
      have HB6 := Aside0.mk (below_step HB5.out hb)
      clear BA BB RA RB HB5 hb
      have BA := nBA
      clear nBA
      have BB := nBB
      clear nBB
      have RA := nRA
      clear nRA
      have RB := nRB
      clear nRB
      clear x0 x1 x2 x3 y0 y1 y2 y3
      clear BB RB
      by_cases hE : E = 0
      · subst hE
        have HE0 := HU
        have hl0 : 0 < l.length := by
          have := (whole_of HU.out).ne
          cases l with
          | nil => exact absurd rfl this
          | cons x r => simp
        obtain ⟨x, hx⟩ : ∃ x : Int, (if (l.length : Int) - 1 < at0 then (l.length : Int) - 1 else at0) = x := ⟨_, rfl⟩
        obtain ⟨p, hp⟩ : ∃ p : Nat, (if 0 < x then x else 0) = (p : Int) := ⟨(if 0 < x then x else 0).toNat, by split <;> omega⟩
        have hpl : p < l.length := by split at hp <;> split at hx <;> omega
        have HX := Aside0.mk hx
        have HP := Aside0.mk hp
        go_upto_region 13 with (fail)
        clear hx hp
        obtain ⟨ad, B2, b2, B3, b3, e, k0, k1, k2, k3, rows⟩ := at_ty HR.out (Below.refl w.heap.size w) hpl
        have ROWS := Aside0.mk rows
        have HUM := Aside0.mk (union_more HU.out (List.getElem_mem hpl))
        have HWM : Aside0 (wTs [a, l[p]] ≤ 1000000000000) := ⟨by have h1 := wTs_mem (List.getElem_mem hpl); have := WA.out; have := HW.out; rw [wTs_cons, wTs_cons, wTs_nil]; omega⟩
        clear rows
        generalize l[p] = t at *
        subst e
        have q0 := pw_cell_below HB6.out k0
        have q1 := pw_cell_below HB6.out k1
        have q2 := pw_cell_below HB6.out k2
        have q3 := pw_cell_below HB6.out k3
        clear k0 k1 k2 k3
        have hlt : ((p : Int) < (l.length : Int)) = True := by simp [hpl]
        have hg0 : ((0 : Int) ≤ (p : Int)) = True := by simp
        have x0 : w6.cell? ⟨ga, 0, none⟩ = some (.int .i64 a.f0) := (blk_cell BA.out 0).trans rfl
        have x1 : w6.cell? ⟨ga, 1, none⟩ = some (.int .i64 a.f1) := (blk_cell BA.out 1).trans rfl
        have x2 : w6.cell? ⟨ga, 2, none⟩ = some (.slice PA2 a.f2.length pa2) := (blk_cell BA.out 2).trans rfl
        have x3 : w6.cell? ⟨ga, 3, none⟩ = some (.slice PA3 a.f3.length pa3) := (blk_cell BA.out 3).trans rfl
        refine start_ (n := 13) (S := fun w' => w'.cell? ⟨ga, 0, none⟩ = some (.int .i64 a.f0) ∧ w'.cell? ⟨ga, 1, none⟩ = some (.int .i64 a.f1) ∧ w'.cell? ⟨ga, 2, none⟩ = some (.slice PA2 a.f2.length pa2) ∧ w'.cell? ⟨ga, 3, none⟩ = some (.slice PA3 a.f3.length pa3) ∧ w'.cell? (ad.add (p * 4)) = some (.int .i64 t.f0) ∧ w'.cell? ⟨(ad.add (p * 4)).block, (ad.add (p * 4)).off + 1, none⟩ = some (.int .i64 t.f1) ∧ w'.cell? ⟨(ad.add (p * 4)).block, (ad.add (p * 4)).off + 2, none⟩ = some (.slice B2 t.f2.length b2) ∧ w'.cell? ⟨(ad.add (p * 4)).block, (ad.add (p * 4)).off + 3, none⟩ = some (.slice B3 t.f3.length b3)) (ds := []) #[false, false, false, false, false, false, false, false, false, false, false, false, false] (by kernel_rfl) rfl rfl ⟨x0, x1, x2, x3, q0, q1, q2, q3⟩ (fun hHeld => ?_)
        refine take_ (i := 0) (N := some 68) (v := ?_) (a' := ?_) #[true, false, false, false, false, false, false, false, false, false, false, false, false] rfl rfl (by kernel_rfl) (fun _ _ _ h => h) (Or.inl ⟨by rfl, ?_⟩) hHeld ?_ ?_
        rotate_left
        · rintro w' ⟨s0, s1, s2, s3, s4, s5, s6, s7⟩
          go_simp
          with_reducible rfl
        rotate_left
        · simp only [Act.put, List.setIfInBounds_toArray, List.set_cons_zero, List.set_cons_succ, i64_w, i32_w]
          rfl
        refine pure_ (i := 1) (N := some 69) (v := ?_) (a' := ?_) #[true, true, false, false, false, false, false, false, false, false, false, false, false] rfl rfl (by kernel_rfl) (fun _ _ _ h => h) (Or.inl ⟨by rfl, ?_⟩) ?_ ?_
        rotate_left
        · intro w'
          go_simp
          with_reducible rfl
        rotate_left
        · simp only [Act.put, List.setIfInBounds_toArray, List.set_cons_zero, List.set_cons_succ, i64_w, i32_w]
          rfl
        refine pure_ (i := 2) (N := some 70) (v := ?_) (a' := ?_) #[true, true, true, false, false, false, false, false, false, false, false, false, false] rfl rfl (by kernel_rfl) (fun _ _ _ h => h) (Or.inl ⟨by rfl, ?_⟩) ?_ ?_
        rotate_left
        · intro w'
          go_simp
          with_reducible rfl
        rotate_left
        · simp only [Act.put, List.setIfInBounds_toArray, List.set_cons_zero, List.set_cons_succ, i64_w, i32_w]
          rfl
        refine pure_ (i := 3) (N := some 71) (v := ?_) (a' := ?_) #[true, true, true, true, false, false, false, false, false, false, false, false, false] rfl rfl (by kernel_rfl) (fun _ _ _ h => h) (Or.inl ⟨by rfl, ?_⟩) ?_ ?_
        rotate_left
        · intro w'
          go_simp
          with_reducible rfl
        rotate_left
        · simp only [Act.put, List.setIfInBounds_toArray, List.set_cons_zero, List.set_cons_succ, i64_w, i32_w]
          rfl
        refine take_ (i := 4) (N := some 72) (v := ?_) (a' := ?_) #[true, true, true, true, true, false, false, false, false, false, false, false, false] rfl rfl (by kernel_rfl) (fun _ _ _ h => h) (Or.inl ⟨by rfl, ?_⟩) hHeld ?_ ?_
        rotate_left
        · rintro w' ⟨s0, s1, s2, s3, s4, s5, s6, s7⟩
          go_simp
          with_reducible rfl
        rotate_left
        · simp only [Act.put, List.setIfInBounds_toArray, List.set_cons_zero, List.set_cons_succ, i64_w, i32_w]
          rfl
        refine join_ (σ := Nat × Option Addr × Nat × Option Addr × Nat × Nat) 2 #[true, true, true, true, true, true, true, true, true, true, true, false, false] (fun s => [(73, .slice (some ⟨s.2.2.2.2.2, 0, none⟩) 2 2), (74, .tuple #[.agg #[.int .i64 a.f0, .int .i64 a.f1, .slice s.2.1 a.f2.length s.2.2.1, .slice s.2.2.2.1 a.f3.length s.2.2.2.2.1], .int .i64 0]), (67, .tuple #[.agg #[.int .i64 a.f0, .int .i64 a.f1, .slice s.2.1 a.f2.length s.2.2.1, .slice s.2.2.2.1 a.f3.length s.2.2.2.2.1], .int .i64 0]), (75, .agg #[.int .i64 a.f0, .int .i64 a.f1, .slice s.2.1 a.f2.length s.2.2.1, .slice s.2.2.2.1 a.f3.length s.2.2.2.2.1]), (76, .int .i64 0), (11, .pointer (some ⟨s.1, 0, none⟩))]) (fun s w' => w'.heap[s.1]? = some (.cells #[.int .i64 0, .int .i64 0, .slice none 0 0, .slice none 0 0] 25 (0, 0)) ∧ (∀ u0 u1 u2 u3 : Value, RowsT ((((w'.setCell ⟨s.1, 0, none⟩ u0).setCell ⟨s.1, 1, none⟩ u1).setCell ⟨s.1, 2, none⟩ u2).setCell ⟨s.1, 3, none⟩ u3) a s.2.1 s.2.2.1 s.2.2.2.1 s.2.2.2.2.1) ∧ Below w6.heap.size w6 w' ∧ w6.heap.size ≤ s.1) (fun s w' hF => ?_) (fun hJ => ?_)
        rotate_left
        · refine two_ (i := 5) (j := 10) (Ni := some 73) (Nj := some 11) #[true, true, true, true, true, true, false, false, false, false, false, false, false] #[true, true, true, true, true, false, false, false, false, false, true, false, false] rfl rfl rfl rfl (by kernel_rfl) (by decide) (by decide) (fun K hK => ?_) (fun K hK => ?_)
          · refine value_ (w1 := ?_) (v := ?_) (by rfl) rfl ?_ ?_
            rotate_left 2
            · go_simp
              constructor
              · rfl
              · rfl
            refine hK.out _ _ ⟨pw_cell_below (below_drew1 (below_alloc (Below.refl w6.heap.size w6) (.cells #[.int .i64 a.f0, .int .i64 a.f1, .slice PA2 a.f2.length pa2, .slice PA3 a.f3.length pa3, .int .i64 t.f0, .int .i64 t.f1, .slice B2 t.f2.length b2, .slice B3 t.f3.length b3] 25))) x0, pw_cell_below (below_drew1 (below_alloc (Below.refl w6.heap.size w6) (.cells #[.int .i64 a.f0, .int .i64 a.f1, .slice PA2 a.f2.length pa2, .slice PA3 a.f3.length pa3, .int .i64 t.f0, .int .i64 t.f1, .slice B2 t.f2.length b2, .slice B3 t.f3.length b3] 25))) x1, pw_cell_below (below_drew1 (below_alloc (Below.refl w6.heap.size w6) (.cells #[.int .i64 a.f0, .int .i64 a.f1, .slice PA2 a.f2.length pa2, .slice PA3 a.f3.length pa3, .int .i64 t.f0, .int .i64 t.f1, .slice B2 t.f2.length b2, .slice B3 t.f3.length b3] 25))) x2, pw_cell_below (below_drew1 (below_alloc (Below.refl w6.heap.size w6) (.cells #[.int .i64 a.f0, .int .i64 a.f1, .slice PA2 a.f2.length pa2, .slice PA3 a.f3.length pa3, .int .i64 t.f0, .int .i64 t.f1, .slice B2 t.f2.length b2, .slice B3 t.f3.length b3] 25))) x3, pw_cell_below (below_drew1 (below_alloc (Below.refl w6.heap.size w6) (.cells #[.int .i64 a.f0, .int .i64 a.f1, .slice PA2 a.f2.length pa2, .slice PA3 a.f3.length pa3, .int .i64 t.f0, .int .i64 t.f1, .slice B2 t.f2.length b2, .slice B3 t.f3.length b3] 25))) q0, pw_cell_below (below_drew1 (below_alloc (Below.refl w6.heap.size w6) (.cells #[.int .i64 a.f0, .int .i64 a.f1, .slice PA2 a.f2.length pa2, .slice PA3 a.f3.length pa3, .int .i64 t.f0, .int .i64 t.f1, .slice B2 t.f2.length b2, .slice B3 t.f3.length b3] 25))) q1, pw_cell_below (below_drew1 (below_alloc (Below.refl w6.heap.size w6) (.cells #[.int .i64 a.f0, .int .i64 a.f1, .slice PA2 a.f2.length pa2, .slice PA3 a.f3.length pa3, .int .i64 t.f0, .int .i64 t.f1, .slice B2 t.f2.length b2, .slice B3 t.f3.length b3] 25))) q2, pw_cell_below (below_drew1 (below_alloc (Below.refl w6.heap.size w6) (.cells #[.int .i64 a.f0, .int .i64 a.f1, .slice PA2 a.f2.length pa2, .slice PA3 a.f3.length pa3, .int .i64 t.f0, .int .i64 t.f1, .slice B2 t.f2.length b2, .slice B3 t.f3.length b3] 25))) q3⟩ (fun hHeld => ?_)
            clear hK K
            refine norm_ (a' := ?_) ?_ ?_
            rotate_left
            · show Act.put _ (some 73) _ = _
              simp only [Act.put, List.setIfInBounds_toArray, List.set_cons_zero, List.set_cons_succ, i64_w, i32_w]
              rfl
            refine two_ (i := 6) (j := 10) (Ni := some 74) (Nj := some 11) #[true, true, true, true, true, true, true, false, false, false, false, false, false] #[true, true, true, true, true, true, false, false, false, false, true, false, false] rfl rfl rfl rfl (by kernel_rfl) (by decide) (by decide) (fun K hK => ?_) (fun K hK => ?_)
            · have hB5 := (below_drew1 (below_alloc (Below.refl w6.heap.size w6) (.cells #[.int .i64 a.f0, .int .i64 a.f1, .slice PA2 a.f2.length pa2, .slice PA3 a.f3.length pa3, .int .i64 t.f0, .int .i64 t.f1, .slice B2 t.f2.length b2, .slice B3 t.f3.length b3] 25)))
              have hrow := row_two w6 RA.out (ROWS.out.below HB6.out) (blk_drew (heap_alloc_new w6 (.cells #[.int .i64 a.f0, .int .i64 a.f1, .slice PA2 a.f2.length pa2, .slice PA3 a.f3.length pa3, .int .i64 t.f0, .int .i64 t.f1, .slice B2 t.f2.length b2, .slice B3 t.f3.length b3] 25)))
              refine call_ 24 #[.slice (some ⟨w6.heap.size, 0, none⟩) 2 2] (by rfl) rfl ?_ ?_
              · go_simp
                try rfl
              refine (union_far (l := [a, t]) HUM.out (ReadsRow.imp_ hrow (Below.refl _ _) (fun _ _ h => k25.K_below hB5 h)) (by simp) HWM.out).mono ?_
              rintro e w7 ⟨C2, d2, C3, d3, rfl, hrc, hfar, hb⟩
              refine ⟨_, rfl, ?_⟩
              refine hK.out _ _ ⟨pw_cell_below (below_step hB5 hb) x0, pw_cell_below (below_step hB5 hb) x1, pw_cell_below (below_step hB5 hb) x2, pw_cell_below (below_step hB5 hb) x3, pw_cell_below (below_step hB5 hb) q0, pw_cell_below (below_step hB5 hb) q1, pw_cell_below (below_step hB5 hb) q2, pw_cell_below (below_step hB5 hb) q3⟩ (fun hHeld => ?_)
              clear hK K
              refine norm_ (a' := ?_) ?_ ?_
              rotate_left
              · show Act.put _ (some 74) _ = _
                simp only [Act.put, List.setIfInBounds_toArray, List.set_cons_zero, List.set_cons_succ, i64_w, i32_w]
                rfl
              refine pure_ (i := 7) (N := some 67) (v := ?_) (a' := ?_) #[true, true, true, true, true, true, true, true, false, false, false, false, false] rfl rfl (by kernel_rfl) (fun _ _ _ h => h) (Or.inl ⟨by rfl, ?_⟩) ?_ ?_
              rotate_left
              · intro w'
                go_simp
                with_reducible rfl
              rotate_left
              · simp only [Act.put, List.setIfInBounds_toArray, List.set_cons_zero, List.set_cons_succ, i64_w, i32_w]
                rfl
              refine pure_ (i := 8) (N := some 75) (v := ?_) (a' := ?_) #[true, true, true, true, true, true, true, true, true, false, false, false, false] rfl rfl (by kernel_rfl) (fun _ _ _ h => h) (Or.inl ⟨by rfl, ?_⟩) ?_ ?_
              rotate_left
              · intro w'
                go_simp
                with_reducible rfl
              rotate_left
              · simp only [Act.put, List.setIfInBounds_toArray, List.set_cons_zero, List.set_cons_succ, i64_w, i32_w]
                rfl
              refine pure_ (i := 9) (N := some 76) (v := ?_) (a' := ?_) #[true, true, true, true, true, true, true, true, true, true, false, false, false] rfl rfl (by kernel_rfl) (fun _ _ _ h => h) (Or.inl ⟨by rfl, ?_⟩) ?_ ?_
              rotate_left
              · intro w'
                go_simp
                with_reducible rfl
              rotate_left
              · simp only [Act.put, List.setIfInBounds_toArray, List.set_cons_zero, List.set_cons_succ, i64_w, i32_w]
                rfl
              refine one_ (i := 10) (N := some 11) #[true, true, true, true, true, true, true, true, true, true, true, false, false] rfl rfl (by kernel_rfl) (by decide) (fun K hK => ?_)
              refine value_ (w1 := ?_) (v := ?_) (by rfl) rfl ?_ ?_
              rotate_left 2
              · go_simp
                constructor
                · rfl
                · rfl
              refine hK.out _ _ ⟨pw_cell_below (below_alloc (below_step hB5 hb) (.cells #[.int .i64 0, .int .i64 0, .slice none 0 0, .slice none 0 0] 25)) x0, pw_cell_below (below_alloc (below_step hB5 hb) (.cells #[.int .i64 0, .int .i64 0, .slice none 0 0, .slice none 0 0] 25)) x1, pw_cell_below (below_alloc (below_step hB5 hb) (.cells #[.int .i64 0, .int .i64 0, .slice none 0 0, .slice none 0 0] 25)) x2, pw_cell_below (below_alloc (below_step hB5 hb) (.cells #[.int .i64 0, .int .i64 0, .slice none 0 0, .slice none 0 0] 25)) x3, pw_cell_below (below_alloc (below_step hB5 hb) (.cells #[.int .i64 0, .int .i64 0, .slice none 0 0, .slice none 0 0] 25)) q0, pw_cell_below (below_alloc (below_step hB5 hb) (.cells #[.int .i64 0, .int .i64 0, .slice none 0 0, .slice none 0 0] 25)) q1, pw_cell_below (below_alloc (below_step hB5 hb) (.cells #[.int .i64 0, .int .i64 0, .slice none 0 0, .slice none 0 0] 25)) q2, pw_cell_below (below_alloc (below_step hB5 hb) (.cells #[.int .i64 0, .int .i64 0, .slice none 0 0, .slice none 0 0] 25)) q3⟩ (fun hHeld => ?_)
              clear hK K
              refine norm_ (a' := ?_) ?_ ?_
              rotate_left
              · show Act.put _ (some 11) _ = _
                simp only [Act.put, List.setIfInBounds_toArray, List.set_cons_zero, List.set_cons_succ, i64_w, i32_w]
                rfl
              refine hJ (w7.heap.size, C2, d2, C3, d3, w6.heap.size) _ ⟨heap_alloc_new w7 (.cells #[.int .i64 0, .int .i64 0, .slice none 0 0, .slice none 0 0] 25), fun u0 u1 u2 u3 => hrc.below (below_put4 (below_alloc (Below.refl _ _) _) (Nat.le_refl _)), below_alloc (below_step hB5 hb) _, (below_step hB5 hb).size⟩
            · refine value_ (w1 := ?_) (v := ?_) (by rfl) rfl ?_ ?_
              rotate_left 2
              · go_simp
                constructor
                · rfl
                · rfl
              refine hK.out _ _ ⟨pw_cell_below (below_drew1 (below_alloc (below_alloc (Below.refl w6.heap.size w6) (.cells #[.int .i64 a.f0, .int .i64 a.f1, .slice PA2 a.f2.length pa2, .slice PA3 a.f3.length pa3, .int .i64 t.f0, .int .i64 t.f1, .slice B2 t.f2.length b2, .slice B3 t.f3.length b3] 25)) (.cells #[.int .i64 0, .int .i64 0, .slice none 0 0, .slice none 0 0] 25))) x0, pw_cell_below (below_drew1 (below_alloc (below_alloc (Below.refl w6.heap.size w6) (.cells #[.int .i64 a.f0, .int .i64 a.f1, .slice PA2 a.f2.length pa2, .slice PA3 a.f3.length pa3, .int .i64 t.f0, .int .i64 t.f1, .slice B2 t.f2.length b2, .slice B3 t.f3.length b3] 25)) (.cells #[.int .i64 0, .int .i64 0, .slice none 0 0, .slice none 0 0] 25))) x1, pw_cell_below (below_drew1 (below_alloc (below_alloc (Below.refl w6.heap.size w6) (.cells #[.int .i64 a.f0, .int .i64 a.f1, .slice PA2 a.f2.length pa2, .slice PA3 a.f3.length pa3, .int .i64 t.f0, .int .i64 t.f1, .slice B2 t.f2.length b2, .slice B3 t.f3.length b3] 25)) (.cells #[.int .i64 0, .int .i64 0, .slice none 0 0, .slice none 0 0] 25))) x2, pw_cell_below (below_drew1 (below_alloc (below_alloc (Below.refl w6.heap.size w6) (.cells #[.int .i64 a.f0, .int .i64 a.f1, .slice PA2 a.f2.length pa2, .slice PA3 a.f3.length pa3, .int .i64 t.f0, .int .i64 t.f1, .slice B2 t.f2.length b2, .slice B3 t.f3.length b3] 25)) (.cells #[.int .i64 0, .int .i64 0, .slice none 0 0, .slice none 0 0] 25))) x3, pw_cell_below (below_drew1 (below_alloc (below_alloc (Below.refl w6.heap.size w6) (.cells #[.int .i64 a.f0, .int .i64 a.f1, .slice PA2 a.f2.length pa2, .slice PA3 a.f3.length pa3, .int .i64 t.f0, .int .i64 t.f1, .slice B2 t.f2.length b2, .slice B3 t.f3.length b3] 25)) (.cells #[.int .i64 0, .int .i64 0, .slice none 0 0, .slice none 0 0] 25))) q0, pw_cell_below (below_drew1 (below_alloc (below_alloc (Below.refl w6.heap.size w6) (.cells #[.int .i64 a.f0, .int .i64 a.f1, .slice PA2 a.f2.length pa2, .slice PA3 a.f3.length pa3, .int .i64 t.f0, .int .i64 t.f1, .slice B2 t.f2.length b2, .slice B3 t.f3.length b3] 25)) (.cells #[.int .i64 0, .int .i64 0, .slice none 0 0, .slice none 0 0] 25))) q1, pw_cell_below (below_drew1 (below_alloc (below_alloc (Below.refl w6.heap.size w6) (.cells #[.int .i64 a.f0, .int .i64 a.f1, .slice PA2 a.f2.length pa2, .slice PA3 a.f3.length pa3, .int .i64 t.f0, .int .i64 t.f1, .slice B2 t.f2.length b2, .slice B3 t.f3.length b3] 25)) (.cells #[.int .i64 0, .int .i64 0, .slice none 0 0, .slice none 0 0] 25))) q2, pw_cell_below (below_drew1 (below_alloc (below_alloc (Below.refl w6.heap.size w6) (.cells #[.int .i64 a.f0, .int .i64 a.f1, .slice PA2 a.f2.length pa2, .slice PA3 a.f3.length pa3, .int .i64 t.f0, .int .i64 t.f1, .slice B2 t.f2.length b2, .slice B3 t.f3.length b3] 25)) (.cells #[.int .i64 0, .int .i64 0, .slice none 0 0, .slice none 0 0] 25))) q3⟩ (fun hHeld => ?_)
              clear hK K
              refine norm_ (a' := ?_) ?_ ?_
              rotate_left
              · show Act.put _ (some 11) _ = _
                simp only [Act.put, List.setIfInBounds_toArray, List.set_cons_zero, List.set_cons_succ, i64_w, i32_w]
                rfl
              refine one_ (i := 6) (N := some 74) #[true, true, true, true, true, true, true, false, false, false, true, false, false] rfl rfl (by kernel_rfl) (by decide) (fun K hK => ?_)
              have hB5 := (below_drew1 (below_alloc (below_alloc (Below.refl w6.heap.size w6) (.cells #[.int .i64 a.f0, .int .i64 a.f1, .slice PA2 a.f2.length pa2, .slice PA3 a.f3.length pa3, .int .i64 t.f0, .int .i64 t.f1, .slice B2 t.f2.length b2, .slice B3 t.f3.length b3] 25)) (.cells #[.int .i64 0, .int .i64 0, .slice none 0 0, .slice none 0 0] 25)))
              have hrow := row_two w6 RA.out (ROWS.out.below HB6.out) (blk_drew (blk_alloc (heap_alloc_new w6 (.cells #[.int .i64 a.f0, .int .i64 a.f1, .slice PA2 a.f2.length pa2, .slice PA3 a.f3.length pa3, .int .i64 t.f0, .int .i64 t.f1, .slice B2 t.f2.length b2, .slice B3 t.f3.length b3] 25)) (.cells #[.int .i64 0, .int .i64 0, .slice none 0 0, .slice none 0 0] 25)))
              refine call_ 24 #[.slice (some ⟨w6.heap.size, 0, none⟩) 2 2] (by rfl) rfl ?_ ?_
              · go_simp
                try rfl
              refine (union_far (l := [a, t]) HUM.out (ReadsRow.imp_ hrow (Below.refl _ _) (fun _ _ h => k25.K_below hB5 h)) (by simp) HWM.out).mono ?_
              rintro e w7 ⟨C2, d2, C3, d3, rfl, hrc, hfar, hb⟩
              refine ⟨_, rfl, ?_⟩
              refine hK.out _ _ ⟨pw_cell_below (below_step hB5 hb) x0, pw_cell_below (below_step hB5 hb) x1, pw_cell_below (below_step hB5 hb) x2, pw_cell_below (below_step hB5 hb) x3, pw_cell_below (below_step hB5 hb) q0, pw_cell_below (below_step hB5 hb) q1, pw_cell_below (below_step hB5 hb) q2, pw_cell_below (below_step hB5 hb) q3⟩ (fun hHeld => ?_)
              clear hK K
              refine norm_ (a' := ?_) ?_ ?_
              rotate_left
              · show Act.put _ (some 74) _ = _
                simp only [Act.put, List.setIfInBounds_toArray, List.set_cons_zero, List.set_cons_succ, i64_w, i32_w]
                rfl
              refine pure_ (i := 7) (N := some 67) (v := ?_) (a' := ?_) #[true, true, true, true, true, true, true, true, false, false, true, false, false] rfl rfl (by kernel_rfl) (fun _ _ _ h => h) (Or.inl ⟨by rfl, ?_⟩) ?_ ?_
              rotate_left
              · intro w'
                go_simp
                with_reducible rfl
              rotate_left
              · simp only [Act.put, List.setIfInBounds_toArray, List.set_cons_zero, List.set_cons_succ, i64_w, i32_w]
                rfl
              refine pure_ (i := 8) (N := some 75) (v := ?_) (a' := ?_) #[true, true, true, true, true, true, true, true, true, false, true, false, false] rfl rfl (by kernel_rfl) (fun _ _ _ h => h) (Or.inl ⟨by rfl, ?_⟩) ?_ ?_
              rotate_left
              · intro w'
                go_simp
                with_reducible rfl
              rotate_left
              · simp only [Act.put, List.setIfInBounds_toArray, List.set_cons_zero, List.set_cons_succ, i64_w, i32_w]
                rfl
              refine pure_ (i := 9) (N := some 76) (v := ?_) (a' := ?_) #[true, true, true, true, true, true, true, true, true, true, true, false, false] rfl rfl (by kernel_rfl) (fun _ _ _ h => h) (Or.inl ⟨by rfl, ?_⟩) ?_ ?_
              rotate_left
              · intro w'
                go_simp
                with_reducible rfl
              rotate_left
              · simp only [Act.put, List.setIfInBounds_toArray, List.set_cons_zero, List.set_cons_succ, i64_w, i32_w]
                rfl
              have hz_ : ((w6.alloc (.cells #[.int .i64 a.f0, .int .i64 a.f1, .slice PA2 a.f2.length pa2, .slice PA3 a.f3.length pa3, .int .i64 t.f0, .int .i64 t.f1, .slice B2 t.f2.length b2, .slice B3 t.f3.length b3] 25)).alloc (.cells #[.int .i64 0, .int .i64 0, .slice none 0 0, .slice none 0 0] 25)).drew.heap[w6.heap.size + 1]? = some (.cells #[.int .i64 0, .int .i64 0, .slice none 0 0, .slice none 0 0] 25 (0, 0)) := blk_drew (by simpa using heap_alloc_new (w6.alloc (.cells #[.int .i64 a.f0, .int .i64 a.f1, .slice PA2 a.f2.length pa2, .slice PA3 a.f3.length pa3, .int .i64 t.f0, .int .i64 t.f1, .slice B2 t.f2.length b2, .slice B3 t.f3.length b3] 25)) (.cells #[.int .i64 0, .int .i64 0, .slice none 0 0, .slice none 0 0] 25))
              refine hJ (w6.heap.size + 1, C2, d2, C3, d3, w6.heap.size) _ ⟨blk_below hz_ hb, hfar _ (blk_lt hz_), below_step hB5 hb, Nat.le_succ _⟩
          · refine value_ (w1 := ?_) (v := ?_) (by rfl) rfl ?_ ?_
            rotate_left 2
            · go_simp
              constructor
              · rfl
              · rfl
            refine hK.out _ _ ⟨pw_cell_below (below_drew1 (below_alloc (Below.refl w6.heap.size w6) (.cells #[.int .i64 0, .int .i64 0, .slice none 0 0, .slice none 0 0] 25))) x0, pw_cell_below (below_drew1 (below_alloc (Below.refl w6.heap.size w6) (.cells #[.int .i64 0, .int .i64 0, .slice none 0 0, .slice none 0 0] 25))) x1, pw_cell_below (below_drew1 (below_alloc (Below.refl w6.heap.size w6) (.cells #[.int .i64 0, .int .i64 0, .slice none 0 0, .slice none 0 0] 25))) x2, pw_cell_below (below_drew1 (below_alloc (Below.refl w6.heap.size w6) (.cells #[.int .i64 0, .int .i64 0, .slice none 0 0, .slice none 0 0] 25))) x3, pw_cell_below (below_drew1 (below_alloc (Below.refl w6.heap.size w6) (.cells #[.int .i64 0, .int .i64 0, .slice none 0 0, .slice none 0 0] 25))) q0, pw_cell_below (below_drew1 (below_alloc (Below.refl w6.heap.size w6) (.cells #[.int .i64 0, .int .i64 0, .slice none 0 0, .slice none 0 0] 25))) q1, pw_cell_below (below_drew1 (below_alloc (Below.refl w6.heap.size w6) (.cells #[.int .i64 0, .int .i64 0, .slice none 0 0, .slice none 0 0] 25))) q2, pw_cell_below (below_drew1 (below_alloc (Below.refl w6.heap.size w6) (.cells #[.int .i64 0, .int .i64 0, .slice none 0 0, .slice none 0 0] 25))) q3⟩ (fun hHeld => ?_)
            clear hK K
            refine norm_ (a' := ?_) ?_ ?_
            rotate_left
            · show Act.put _ (some 11) _ = _
              simp only [Act.put, List.setIfInBounds_toArray, List.set_cons_zero, List.set_cons_succ, i64_w, i32_w]
              rfl
            refine one_ (i := 5) (N := some 73) #[true, true, true, true, true, true, false, false, false, false, true, false, false] rfl rfl (by kernel_rfl) (by decide) (fun K hK => ?_)
            refine value_ (w1 := ?_) (v := ?_) (by rfl) rfl ?_ ?_
            rotate_left 2
            · go_simp
              constructor
              · rfl
              · rfl
            refine hK.out _ _ ⟨pw_cell_below (below_drew1 (below_alloc (below_alloc (Below.refl w6.heap.size w6) (.cells #[.int .i64 0, .int .i64 0, .slice none 0 0, .slice none 0 0] 25)) (.cells #[.int .i64 a.f0, .int .i64 a.f1, .slice PA2 a.f2.length pa2, .slice PA3 a.f3.length pa3, .int .i64 t.f0, .int .i64 t.f1, .slice B2 t.f2.length b2, .slice B3 t.f3.length b3] 25))) x0, pw_cell_below (below_drew1 (below_alloc (below_alloc (Below.refl w6.heap.size w6) (.cells #[.int .i64 0, .int .i64 0, .slice none 0 0, .slice none 0 0] 25)) (.cells #[.int .i64 a.f0, .int .i64 a.f1, .slice PA2 a.f2.length pa2, .slice PA3 a.f3.length pa3, .int .i64 t.f0, .int .i64 t.f1, .slice B2 t.f2.length b2, .slice B3 t.f3.length b3] 25))) x1, pw_cell_below (below_drew1 (below_alloc (below_alloc (Below.refl w6.heap.size w6) (.cells #[.int .i64 0, .int .i64 0, .slice none 0 0, .slice none 0 0] 25)) (.cells #[.int .i64 a.f0, .int .i64 a.f1, .slice PA2 a.f2.length pa2, .slice PA3 a.f3.length pa3, .int .i64 t.f0, .int .i64 t.f1, .slice B2 t.f2.length b2, .slice B3 t.f3.length b3] 25))) x2, pw_cell_below (below_drew1 (below_alloc (below_alloc (Below.refl w6.heap.size w6) (.cells #[.int .i64 0, .int .i64 0, .slice none 0 0, .slice none 0 0] 25)) (.cells #[.int .i64 a.f0, .int .i64 a.f1, .slice PA2 a.f2.length pa2, .slice PA3 a.f3.length pa3, .int .i64 t.f0, .int .i64 t.f1, .slice B2 t.f2.length b2, .slice B3 t.f3.length b3] 25))) x3, pw_cell_below (below_drew1 (below_alloc (below_alloc (Below.refl w6.heap.size w6) (.cells #[.int .i64 0, .int .i64 0, .slice none 0 0, .slice none 0 0] 25)) (.cells #[.int .i64 a.f0, .int .i64 a.f1, .slice PA2 a.f2.length pa2, .slice PA3 a.f3.length pa3, .int .i64 t.f0, .int .i64 t.f1, .slice B2 t.f2.length b2, .slice B3 t.f3.length b3] 25))) q0, pw_cell_below (below_drew1 (below_alloc (below_alloc (Below.refl w6.heap.size w6) (.cells #[.int .i64 0, .int .i64 0, .slice none 0 0, .slice none 0 0] 25)) (.cells #[.int .i64 a.f0, .int .i64 a.f1, .slice PA2 a.f2.length pa2, .slice PA3 a.f3.length pa3, .int .i64 t.f0, .int .i64 t.f1, .slice B2 t.f2.length b2, .slice B3 t.f3.length b3] 25))) q1, pw_cell_below (below_drew1 (below_alloc (below_alloc (Below.refl w6.heap.size w6) (.cells #[.int .i64 0, .int .i64 0, .slice none 0 0, .slice none 0 0] 25)) (.cells #[.int .i64 a.f0, .int .i64 a.f1, .slice PA2 a.f2.length pa2, .slice PA3 a.f3.length pa3, .int .i64 t.f0, .int .i64 t.f1, .slice B2 t.f2.length b2, .slice B3 t.f3.length b3] 25))) q2, pw_cell_below (below_drew1 (below_alloc (below_alloc (Below.refl w6.heap.size w6) (.cells #[.int .i64 0, .int .i64 0, .slice none 0 0, .slice none 0 0] 25)) (.cells #[.int .i64 a.f0, .int .i64 a.f1, .slice PA2 a.f2.length pa2, .slice PA3 a.f3.length pa3, .int .i64 t.f0, .int .i64 t.f1, .slice B2 t.f2.length b2, .slice B3 t.f3.length b3] 25))) q3⟩ (fun hHeld => ?_)
            clear hK K
            refine norm_ (a' := ?_) ?_ ?_
            rotate_left
            · show Act.put _ (some 73) _ = _
              simp only [Act.put, List.setIfInBounds_toArray, List.set_cons_zero, List.set_cons_succ, i64_w, i32_w]
              rfl
            refine one_ (i := 6) (N := some 74) #[true, true, true, true, true, true, true, false, false, false, true, false, false] rfl rfl (by kernel_rfl) (by decide) (fun K hK => ?_)
            have hs_ : ((w6.alloc (.cells #[.int .i64 0, .int .i64 0, .slice none 0 0, .slice none 0 0] 25)).alloc (.cells #[.int .i64 a.f0, .int .i64 a.f1, .slice PA2 a.f2.length pa2, .slice PA3 a.f3.length pa3, .int .i64 t.f0, .int .i64 t.f1, .slice B2 t.f2.length b2, .slice B3 t.f3.length b3] 25)).drew.heap[w6.heap.size + 1]? = some (.cells #[.int .i64 a.f0, .int .i64 a.f1, .slice PA2 a.f2.length pa2, .slice PA3 a.f3.length pa3, .int .i64 t.f0, .int .i64 t.f1, .slice B2 t.f2.length b2, .slice B3 t.f3.length b3] 25 (0, 0)) := blk_drew (by simpa using heap_alloc_new (w6.alloc (.cells #[.int .i64 0, .int .i64 0, .slice none 0 0, .slice none 0 0] 25)) (.cells #[.int .i64 a.f0, .int .i64 a.f1, .slice PA2 a.f2.length pa2, .slice PA3 a.f3.length pa3, .int .i64 t.f0, .int .i64 t.f1, .slice B2 t.f2.length b2, .slice B3 t.f3.length b3] 25))
            have hB5 := (below_drew1 (below_alloc (below_alloc (Below.refl w6.heap.size w6) (.cells #[.int .i64 0, .int .i64 0, .slice none 0 0, .slice none 0 0] 25)) (.cells #[.int .i64 a.f0, .int .i64 a.f1, .slice PA2 a.f2.length pa2, .slice PA3 a.f3.length pa3, .int .i64 t.f0, .int .i64 t.f1, .slice B2 t.f2.length b2, .slice B3 t.f3.length b3] 25)))
            have hrow := row_two w6 RA.out (ROWS.out.below HB6.out) (hs_)
            refine call_ 24 #[.slice (some ⟨w6.heap.size + 1, 0, none⟩) 2 2] (by rfl) rfl ?_ ?_
            · go_simp
              try rfl
            refine (union_far (l := [a, t]) HUM.out (ReadsRow.imp_ hrow (Below.refl _ _) (fun _ _ h => k25.K_below hB5 h)) (by simp) HWM.out).mono ?_
            rintro e w7 ⟨C2, d2, C3, d3, rfl, hrc, hfar, hb⟩
            refine ⟨_, rfl, ?_⟩
            refine hK.out _ _ ⟨pw_cell_below (below_step hB5 hb) x0, pw_cell_below (below_step hB5 hb) x1, pw_cell_below (below_step hB5 hb) x2, pw_cell_below (below_step hB5 hb) x3, pw_cell_below (below_step hB5 hb) q0, pw_cell_below (below_step hB5 hb) q1, pw_cell_below (below_step hB5 hb) q2, pw_cell_below (below_step hB5 hb) q3⟩ (fun hHeld => ?_)
            clear hK K
            refine norm_ (a' := ?_) ?_ ?_
            rotate_left
            · show Act.put _ (some 74) _ = _
              simp only [Act.put, List.setIfInBounds_toArray, List.set_cons_zero, List.set_cons_succ, i64_w, i32_w]
              rfl
            refine pure_ (i := 7) (N := some 67) (v := ?_) (a' := ?_) #[true, true, true, true, true, true, true, true, false, false, true, false, false] rfl rfl (by kernel_rfl) (fun _ _ _ h => h) (Or.inl ⟨by rfl, ?_⟩) ?_ ?_
            rotate_left
            · intro w'
              go_simp
              with_reducible rfl
            rotate_left
            · simp only [Act.put, List.setIfInBounds_toArray, List.set_cons_zero, List.set_cons_succ, i64_w, i32_w]
              rfl
            refine pure_ (i := 8) (N := some 75) (v := ?_) (a' := ?_) #[true, true, true, true, true, true, true, true, true, false, true, false, false] rfl rfl (by kernel_rfl) (fun _ _ _ h => h) (Or.inl ⟨by rfl, ?_⟩) ?_ ?_
            rotate_left
            · intro w'
              go_simp
              with_reducible rfl
            rotate_left
            · simp only [Act.put, List.setIfInBounds_toArray, List.set_cons_zero, List.set_cons_succ, i64_w, i32_w]
              rfl
            refine pure_ (i := 9) (N := some 76) (v := ?_) (a' := ?_) #[true, true, true, true, true, true, true, true, true, true, true, false, false] rfl rfl (by kernel_rfl) (fun _ _ _ h => h) (Or.inl ⟨by rfl, ?_⟩) ?_ ?_
            rotate_left
            · intro w'
              go_simp
              with_reducible rfl
            rotate_left
            · simp only [Act.put, List.setIfInBounds_toArray, List.set_cons_zero, List.set_cons_succ, i64_w, i32_w]
              rfl
            have hz_ := blk_drew (blk_alloc (heap_alloc_new w6 (.cells #[.int .i64 0, .int .i64 0, .slice none 0 0, .slice none 0 0] 25)) (.cells #[.int .i64 a.f0, .int .i64 a.f1, .slice PA2 a.f2.length pa2, .slice PA3 a.f3.length pa3, .int .i64 t.f0, .int .i64 t.f1, .slice B2 t.f2.length b2, .slice B3 t.f3.length b3] 25))
            refine hJ (w6.heap.size, C2, d2, C3, d3, w6.heap.size + 1) _ ⟨blk_below hz_ hb, hfar _ (blk_lt hz_), below_step hB5 hb, Nat.le_refl _⟩
        obtain ⟨gz, C2, d2, C3, d3, gs⟩ := s
        obtain ⟨hz, hrc, hB, hge⟩ := hF
        have hHeld : w'.cell? ⟨ga, 0, none⟩ = some (.int .i64 a.f0) ∧ w'.cell? ⟨ga, 1, none⟩ = some (.int .i64 a.f1) ∧ w'.cell? ⟨ga, 2, none⟩ = some (.slice PA2 a.f2.length pa2) ∧ w'.cell? ⟨ga, 3, none⟩ = some (.slice PA3 a.f3.length pa3) ∧ w'.cell? (ad.add (p * 4)) = some (.int .i64 t.f0) ∧ w'.cell? ⟨(ad.add (p * 4)).block, (ad.add (p * 4)).off + 1, none⟩ = some (.int .i64 t.f1) ∧ w'.cell? ⟨(ad.add (p * 4)).block, (ad.add (p * 4)).off + 2, none⟩ = some (.slice B2 t.f2.length b2) ∧ w'.cell? ⟨(ad.add (p * 4)).block, (ad.add (p * 4)).off + 3, none⟩ = some (.slice B3 t.f3.length b3) := ⟨pw_cell_below hB x0, pw_cell_below hB x1, pw_cell_below hB x2, pw_cell_below hB x3, pw_cell_below hB q0, pw_cell_below hB q1, pw_cell_below hB q2, pw_cell_below hB q3⟩
        refine norm_ (a' := ?_) ?_ ?_
        rotate_left
        · simp only [putAll, Act.put, List.setIfInBounds_toArray, List.set_cons_zero, List.set_cons_succ]
          rfl
        have z0 : w'.cell? ⟨gz, 0, none⟩ = some (.int .i64 0) := (blk_cell hz 0).trans rfl
        have z1 : w'.cell? ⟨gz, 1, none⟩ = some (.int .i64 0) := (blk_cell hz 1).trans rfl
        have z2 : w'.cell? ⟨gz, 2, none⟩ = some (.slice none 0 0) := (blk_cell hz 2).trans rfl
        have z3 : w'.cell? ⟨gz, 3, none⟩ = some (.slice none 0 0) := (blk_cell hz 3).trans rfl
        have f0 := blk_frozen hz 0
        have f1 := blk_frozen hz 1
        have f2 := blk_frozen hz 2
        have f3 := blk_frozen hz 3
        refine one_ (i := 11) (N := none) #[true, true, true, true, true, true, true, true, true, true, true, true, false] rfl rfl (by kernel_rfl) (by decide) (fun K hK => ?_)
        refine skip_ (w1 := ?_) (by rfl) rfl ?_ ?_
        rotate_left
        · go_simp
          rfl
        have hB2 := below_put4 (u0 := .int .i64 a.f0) (u1 := .int .i64 a.f1) (u2 := .slice C2 a.f2.length d2) (u3 := .slice C3 a.f3.length d3) hB hge
        have nC := put4 (a := .int .i64 a.f0) (b' := .int .i64 a.f1) (c := .slice C2 a.f2.length d2) (d := .slice C3 a.f3.length d3) hz
        refine hK.out _ _ ⟨pw_cell_below hB2 x0, pw_cell_below hB2 x1, pw_cell_below hB2 x2, pw_cell_below hB2 x3, pw_cell_below hB2 q0, pw_cell_below hB2 q1, pw_cell_below hB2 q2, pw_cell_below hB2 q3⟩ (fun hHeld => ?_)
        clear hK K
        have HBn := Aside0.mk (below_step HB6.out hB2)
        have nBA := Aside0.mk (blk_below BA.out hB2)
        have nRA := Aside0.mk (RA.out.below hB2)
        have nRC : Aside0 (RowsT ((((w'.setCell ⟨gz, 0, none⟩ (.int .i64 a.f0)).setCell ⟨gz, 1, none⟩ (.int .i64 a.f1)).setCell ⟨gz, 2, none⟩ (.slice C2 a.f2.length d2)).setCell ⟨gz, 3, none⟩ (.slice C3 a.f3.length d3)) a C2 d2 C3 d3) := ⟨hrc _ _ _ _⟩
        have BC : Aside0 (((((w'.setCell ⟨gz, 0, none⟩ (.int .i64 a.f0)).setCell ⟨gz, 1, none⟩ (.int .i64 a.f1)).setCell ⟨gz, 2, none⟩ (.slice C2 a.f2.length d2)).setCell ⟨gz, 3, none⟩ (.slice C3 a.f3.length d3)).heap[gz]? = some (.cells #[.int .i64 a.f0, .int .i64 a.f1, .slice C2 a.f2.length d2, .slice C3 a.f3.length d3] 25 (0, 0))) := ⟨nC⟩
        clear hB2 nC hz hrc hB z0 z1 z2 z3 f0 f1 f2 f3 BA RA HB6 hHeld x0 x1 x2 x3 q0 q1 q2 q3
        generalize ((((w'.setCell ⟨gz, 0, none⟩ (.int .i64 a.f0)).setCell ⟨gz, 1, none⟩ (.int .i64 a.f1)).setCell ⟨gz, 2, none⟩ (.slice C2 a.f2.length d2)).setCell ⟨gz, 3, none⟩ (.slice C3 a.f3.length d3)) = w8 at *
        skip
        refine pure_ (i := 12) (N := some 12) (v := ?_) (a' := ?_) #[true, true, true, true, true, true, true, true, true, true, true, true, true] rfl rfl (by kernel_rfl) (fun _ _ _ h => h) (Or.inl ⟨by rfl, ?_⟩) ?_ ?_
        rotate_left
        · intro w'
          go_simp
          with_reducible rfl
        rotate_left
        · simp only [Act.put, List.setIfInBounds_toArray, List.set_cons_zero, List.set_cons_succ, i64_w, i32_w]
          rfl
        refine done_ (by kernel_rfl) ?_
        go_upto_region 14 with (fail)
        have BA := nBA
        have RA := nRA
        have RC := nRC
        have HB8 := HBn
        clear nBA nRA nRC HBn
        have x0 : w8.cell? ⟨ga, 0, none⟩ = some (.int .i64 a.f0) := (blk_cell BA.out 0).trans rfl
        have x1 : w8.cell? ⟨ga, 1, none⟩ = some (.int .i64 a.f1) := (blk_cell BA.out 1).trans rfl
        have x2 : w8.cell? ⟨ga, 2, none⟩ = some (.slice PA2 a.f2.length pa2) := (blk_cell BA.out 2).trans rfl
        have x3 : w8.cell? ⟨ga, 3, none⟩ = some (.slice PA3 a.f3.length pa3) := (blk_cell BA.out 3).trans rfl
        have HU1 := Aside0.mk (union_self HU.out)
        have HW1 : Aside0 (wTs [a] ≤ 1000000000000) := ⟨by have := WA.out; have := HW.out; rw [wTs_cons, wTs_nil]; omega⟩
        haveI := GW.of HB8.out
        go_wp2_with (go_at_call 24; refine holdT_ ?_)
        unfold HeldT
        refine (union_full (l := [a]) HU1.out (row_single (RA.out.below (below_alloc (Below.refl _ _) _)) (heap_alloc_new w8 (.cells #[.int .i64 a.f0, .int .i64 a.f1, .slice PA2 a.f2.length pa2, .slice PA3 a.f3.length pa3] 25))) (by simp) HW1.out).mono ?_
        rintro e w9 ⟨PD2, pd2, PD3, pd3, rfl, hrd, hb⟩
        have nBA := Aside0.mk (blk_below (blk_alloc BA.out (.cells #[.int .i64 a.f0, .int .i64 a.f1, .slice PA2 a.f2.length pa2, .slice PA3 a.f3.length pa3] 25)) hb)
        have nBC := Aside0.mk (blk_below (blk_alloc BC.out (.cells #[.int .i64 a.f0, .int .i64 a.f1, .slice PA2 a.f2.length pa2, .slice PA3 a.f3.length pa3] 25)) hb)
        have nRA := Aside0.mk (RA.out.below (below_step (below_alloc (Below.refl _ _) (.cells #[.int .i64 a.f0, .int .i64 a.f1, .slice PA2 a.f2.length pa2, .slice PA3 a.f3.length pa3] 25)) hb))
        have nRC := Aside0.mk (RC.out.below (below_step (below_alloc (Below.refl _ _) (.cells #[.int .i64 a.f0, .int .i64 a.f1, .slice PA2 a.f2.length pa2, .slice PA3 a.f3.length pa3] 25)) hb))
        have HB9 := Aside0.mk (below_step (below_alloc HB8.out (.cells #[.int .i64 a.f0, .int .i64 a.f1, .slice PA2 a.f2.length pa2, .slice PA3 a.f3.length pa3] 25)) hb)
        clear BA BC RA RC HB8 hb
        have BA := nBA
        clear nBA
        have BC := nBC
        clear nBC
        have RA := nRA
        clear nRA
        have RC := nRC
        clear nRC
        clear x0 x1 x2 x3
        have RD := Aside0.mk hrd
        clear hrd
        go_upto_region 15 with (fail)
        have N_ : Aside0 ((w9.alloc (.cells #[.int .i64 a.f0, .int .i64 a.f1, .slice PD2 a.f2.length pd2, .slice PD3 a.f3.length pd3] 25)).heap[w9.heap.size]? = some (.cells #[.int .i64 a.f0, .int .i64 a.f1, .slice PD2 a.f2.length pd2, .slice PD3 a.f3.length pd3] 25 (0, 0))) := ⟨heap_alloc_new w9 (.cells #[.int .i64 a.f0, .int .i64 a.f1, .slice PD2 a.f2.length pd2, .slice PD3 a.f3.length pd3] 25)⟩
        have nBA : Aside0 ((w9.alloc (.cells #[.int .i64 a.f0, .int .i64 a.f1, .slice PD2 a.f2.length pd2, .slice PD3 a.f3.length pd3] 25)).heap[ga]? = some (.cells #[.int .i64 a.f0, .int .i64 a.f1, .slice PA2 a.f2.length pa2, .slice PA3 a.f3.length pa3] 25 (0, 0))) := ⟨blk_alloc BA.out _⟩
        have nBC : Aside0 ((w9.alloc (.cells #[.int .i64 a.f0, .int .i64 a.f1, .slice PD2 a.f2.length pd2, .slice PD3 a.f3.length pd3] 25)).heap[gz]? = some (.cells #[.int .i64 a.f0, .int .i64 a.f1, .slice C2 a.f2.length d2, .slice C3 a.f3.length d3] 25 (0, 0))) := ⟨blk_alloc BC.out _⟩
        have nRA : Aside0 (RowsT (w9.alloc (.cells #[.int .i64 a.f0, .int .i64 a.f1, .slice PD2 a.f2.length pd2, .slice PD3 a.f3.length pd3] 25)) a PA2 pa2 PA3 pa3) := ⟨RA.out.below (below_alloc (Below.refl _ _) _)⟩
        have nRC : Aside0 (RowsT (w9.alloc (.cells #[.int .i64 a.f0, .int .i64 a.f1, .slice PD2 a.f2.length pd2, .slice PD3 a.f3.length pd3] 25)) a C2 d2 C3 d3) := ⟨RC.out.below (below_alloc (Below.refl _ _) _)⟩
        have nRD : Aside0 (RowsT (w9.alloc (.cells #[.int .i64 a.f0, .int .i64 a.f1, .slice PD2 a.f2.length pd2, .slice PD3 a.f3.length pd3] 25)) a PD2 pd2 PD3 pd3) := ⟨RD.out.below (below_alloc (Below.refl _ _) _)⟩
        have HB10 : Aside0 (Below w.heap.size w (w9.alloc (.cells #[.int .i64 a.f0, .int .i64 a.f1, .slice PD2 a.f2.length pd2, .slice PD3 a.f3.length pd3] 25))) := ⟨below_alloc HB9.out _⟩
        have hs10 := HB9.out.size
        clear BA BC RA RC RD HB9
        generalize (w9.alloc (.cells #[.int .i64 a.f0, .int .i64 a.f1, .slice PD2 a.f2.length pd2, .slice PD3 a.f3.length pd3] 25)) = w10 at *
        generalize w9.heap.size = gd at *
        have BA := nBA
        clear nBA
        have BC := nBC
        clear nBC
        have RA := nRA
        clear nRA
        have RC := nRC
        clear nRC
        have RD := nRD
        clear nRD
        have BD := N_
        clear N_
        have x0 : w10.cell? ⟨ga, 0, none⟩ = some (.int .i64 a.f0) := (blk_cell BA.out 0).trans rfl
        have x1 : w10.cell? ⟨ga, 1, none⟩ = some (.int .i64 a.f1) := (blk_cell BA.out 1).trans rfl
        have x2 : w10.cell? ⟨ga, 2, none⟩ = some (.slice PA2 a.f2.length pa2) := (blk_cell BA.out 2).trans rfl
        have x3 : w10.cell? ⟨ga, 3, none⟩ = some (.slice PA3 a.f3.length pa3) := (blk_cell BA.out 3).trans rfl
        have y0 : w10.cell? ⟨gz, 0, none⟩ = some (.int .i64 a.f0) := (blk_cell BC.out 0).trans rfl
        have y1 : w10.cell? ⟨gz, 1, none⟩ = some (.int .i64 a.f1) := (blk_cell BC.out 1).trans rfl
        have y2 : w10.cell? ⟨gz, 2, none⟩ = some (.slice C2 a.f2.length d2) := (blk_cell BC.out 2).trans rfl
        have y3 : w10.cell? ⟨gz, 3, none⟩ = some (.slice C3 a.f3.length d3) := (blk_cell BC.out 3).trans rfl
        have z0 : w10.cell? ⟨gd, 0, none⟩ = some (.int .i64 a.f0) := (blk_cell BD.out 0).trans rfl
        have z1 : w10.cell? ⟨gd, 1, none⟩ = some (.int .i64 a.f1) := (blk_cell BD.out 1).trans rfl
        have z2 : w10.cell? ⟨gd, 2, none⟩ = some (.slice PD2 a.f2.length pd2) := (blk_cell BD.out 2).trans rfl
        have z3 : w10.cell? ⟨gd, 3, none⟩ = some (.slice PD3 a.f3.length pd3) := (blk_cell BD.out 3).trans rfl
        have hCK := union_check HU.out
        obtain ⟨Kk, hKk⟩ := check_ev a (by have := WA.out; have := HW.out; omega)
        have EK := Aside0.mk (hKk Kk (Nat.le_refl _))
        rw [hCK] at EK
        clear hKk hCK
        haveI := GW.of HB10.out
        go_wp2_with (go_at_call 21; refine holdT_ ?_)
        unfold HeldT
        refine (types_Compare.calls Kc _ _ _ _ _ _ _ _ _ _ _ _ _ _ _ _ _ _ RC.out.2.1 RC.out.1 RC.out.2.2.2 RC.out.2.2.1 RA.out.2.1 RA.out.1 RA.out.2.2.2 RA.out.2.2.1 EC.out).mono ?_
        rintro e w11 ⟨rfl, hb⟩
        have nBA := Aside0.mk (blk_below BA.out hb)
        have nBC := Aside0.mk (blk_below BC.out hb)
        have nBD := Aside0.mk (blk_below BD.out hb)
        have nRA := Aside0.mk (RA.out.below hb)
        have nRC := Aside0.mk (RC.out.below hb)
        have nRD := Aside0.mk (RD.out.below hb)
        have HB11 := Aside0.mk (below_step HB10.out hb)
        clear BA BC BD RA RC RD HB10 hb
        have BA := nBA
        clear nBA
        have BC := nBC
        clear nBC
        have BD := nBD
        clear nBD
        have RA := nRA
        clear nRA
        have RC := nRC
        clear nRC
        have RD := nRD
        clear nRD
        clear x0 x1 x2 x3 y0 y1 y2 y3 z0 z1 z2 z3
        have x0 : w11.cell? ⟨ga, 0, none⟩ = some (.int .i64 a.f0) := (blk_cell BA.out 0).trans rfl
        have x1 : w11.cell? ⟨ga, 1, none⟩ = some (.int .i64 a.f1) := (blk_cell BA.out 1).trans rfl
        have x2 : w11.cell? ⟨ga, 2, none⟩ = some (.slice PA2 a.f2.length pa2) := (blk_cell BA.out 2).trans rfl
        have x3 : w11.cell? ⟨ga, 3, none⟩ = some (.slice PA3 a.f3.length pa3) := (blk_cell BA.out 3).trans rfl
        have y0 : w11.cell? ⟨gz, 0, none⟩ = some (.int .i64 a.f0) := (blk_cell BC.out 0).trans rfl
        have y1 : w11.cell? ⟨gz, 1, none⟩ = some (.int .i64 a.f1) := (blk_cell BC.out 1).trans rfl
        have y2 : w11.cell? ⟨gz, 2, none⟩ = some (.slice C2 a.f2.length d2) := (blk_cell BC.out 2).trans rfl
        have y3 : w11.cell? ⟨gz, 3, none⟩ = some (.slice C3 a.f3.length d3) := (blk_cell BC.out 3).trans rfl
        have z0 : w11.cell? ⟨gd, 0, none⟩ = some (.int .i64 a.f0) := (blk_cell BD.out 0).trans rfl
        have z1 : w11.cell? ⟨gd, 1, none⟩ = some (.int .i64 a.f1) := (blk_cell BD.out 1).trans rfl
        have z2 : w11.cell? ⟨gd, 2, none⟩ = some (.slice PD2 a.f2.length pd2) := (blk_cell BD.out 2).trans rfl
        have z3 : w11.cell? ⟨gd, 3, none⟩ = some (.slice PD3 a.f3.length pd3) := (blk_cell BD.out 3).trans rfl
        haveI := GW.of HB11.out
        go_wp2_with (go_at_call 21; refine holdT_ ?_)
        unfold HeldT
        refine (types_Compare.calls Kc _ _ _ _ _ _ _ _ _ _ _ _ _ _ _ _ _ _ RD.out.2.1 RD.out.1 RD.out.2.2.2 RD.out.2.2.1 RA.out.2.1 RA.out.1 RA.out.2.2.2 RA.out.2.2.1 EC.out).mono ?_
        rintro e w12 ⟨rfl, hb⟩
        have nBA := Aside0.mk (blk_below BA.out hb)
        have nBC := Aside0.mk (blk_below BC.out hb)
        have nBD := Aside0.mk (blk_below BD.out hb)
        have nRA := Aside0.mk (RA.out.below hb)
        have nRC := Aside0.mk (RC.out.below hb)
        have nRD := Aside0.mk (RD.out.below hb)
        have HB12 := Aside0.mk (below_step HB11.out hb)
        clear BA BC BD RA RC RD HB11 hb
        have BA := nBA
        clear nBA
        have BC := nBC
        clear nBC
        have BD := nBD
        clear nBD
        have RA := nRA
        clear nRA
        have RC := nRC
        clear nRC
        have RD := nRD
        clear nRD
        clear x0 x1 x2 x3 y0 y1 y2 y3 z0 z1 z2 z3
        have x0 : w12.cell? ⟨ga, 0, none⟩ = some (.int .i64 a.f0) := (blk_cell BA.out 0).trans rfl
        have x1 : w12.cell? ⟨ga, 1, none⟩ = some (.int .i64 a.f1) := (blk_cell BA.out 1).trans rfl
        have x2 : w12.cell? ⟨ga, 2, none⟩ = some (.slice PA2 a.f2.length pa2) := (blk_cell BA.out 2).trans rfl
        have x3 : w12.cell? ⟨ga, 3, none⟩ = some (.slice PA3 a.f3.length pa3) := (blk_cell BA.out 3).trans rfl
        have y0 : w12.cell? ⟨gz, 0, none⟩ = some (.int .i64 a.f0) := (blk_cell BC.out 0).trans rfl
        have y1 : w12.cell? ⟨gz, 1, none⟩ = some (.int .i64 a.f1) := (blk_cell BC.out 1).trans rfl
        have y2 : w12.cell? ⟨gz, 2, none⟩ = some (.slice C2 a.f2.length d2) := (blk_cell BC.out 2).trans rfl
        have y3 : w12.cell? ⟨gz, 3, none⟩ = some (.slice C3 a.f3.length d3) := (blk_cell BC.out 3).trans rfl
        have z0 : w12.cell? ⟨gd, 0, none⟩ = some (.int .i64 a.f0) := (blk_cell BD.out 0).trans rfl
        have z1 : w12.cell? ⟨gd, 1, none⟩ = some (.int .i64 a.f1) := (blk_cell BD.out 1).trans rfl
        have z2 : w12.cell? ⟨gd, 2, none⟩ = some (.slice PD2 a.f2.length pd2) := (blk_cell BD.out 2).trans rfl
        have z3 : w12.cell? ⟨gd, 3, none⟩ = some (.slice PD3 a.f3.length pd3) := (blk_cell BD.out 3).trans rfl
        haveI := GW.of HB12.out
        go_wp2_with (go_at_call 13; refine holdT_ ?_)
        unfold HeldT
        refine (types_Check.calls Kk _ _ _ _ _ _ _ _ _ _ RA.out.2.1 RA.out.1 RA.out.2.2.2 RA.out.2.2.1 EK.out).mono ?_
        rintro e w13 ⟨rfl, hb⟩
        have nBA := Aside0.mk (blk_below BA.out hb)
        have nBC := Aside0.mk (blk_below BC.out hb)
        have nBD := Aside0.mk (blk_below BD.out hb)
        have nRA := Aside0.mk (RA.out.below hb)
        have nRC := Aside0.mk (RC.out.below hb)
        have nRD := Aside0.mk (RD.out.below hb)
        have HB13 := Aside0.mk (below_step HB12.out hb)
        clear BA BC BD RA RC RD HB12 hb
        have BA := nBA
        clear nBA
        have BC := nBC
        clear nBC
        have BD := nBD
        clear nBD
        have RA := nRA
        clear nRA
        have RC := nRC
        clear nRC
        have RD := nRD
        clear nRD
        clear x0 x1 x2 x3 y0 y1 y2 y3 z0 z1 z2 z3
        clear BC BD RC RD
        by_cases hp0 : 0 < p
        · have hpt : ((p : Int) > 0) = True := by simp [hp0]
          have hpt2 : ((0 : Int) < (p : Int)) = True := by simp [hp0]
          have hple : ((p : Int) ≤ (c0 : Int)) = True := by simp; omega
          have hpll : ((p : Int) ≤ (l.length : Int)) = True := by simp; omega
          have hg0' : ((0 : Int) ≤ (p : Int)) = True := by simp
          obtain ⟨a1, E1, hu1⟩ : ∃ a1 E1, unionT (l.take p) = (a1, E1) := ⟨_, _, rfl⟩
          obtain ⟨a2, E2, hu2⟩ : ∃ a2 E2, unionT (l.drop p) = (a2, E2) := ⟨_, _, rfl⟩
          have HU1' := Aside0.mk hu1
          have HU2' := Aside0.mk hu2
          have hwt : wTs (l.take p) + wTs (l.drop p) = wTs l := by rw [← wTs_append, List.take_append_drop]
          have HT1 : Aside0 (wTs (l.take p) ≤ 100000000000) := ⟨by have := HW.out; omega⟩
          have HT2 : Aside0 (wTs (l.drop p) ≤ 100000000000) := ⟨by have := HW.out; omega⟩
          have HTL : Aside0 ((l.take p).length = p) := ⟨by rw [List.length_take]; omega⟩
          have HDL : Aside0 ((l.drop p).length = l.length - p) := ⟨by rw [List.length_drop]⟩
          have HTC := Aside0.mk (take_C HR.out p (by omega))
          have HDC := Aside0.mk (drop_C HR.out p (by omega))
          clear hwt hu1 hu2
          have U1 := fun (W : World) (hB : Below w.heap.size w W) => union_full (c := c0) HU1'.out (Kd.C_below HTC.out hB) (by have := HTL.out; omega) (by have := HT1.out; omega)
          rw [HTL.out] at U1
          haveI := GW.of HB13.out
          go_wp2_with (go_at_call 24; refine holdT_ ?_)
          unfold HeldT
          refine (U1 _ HB13.out).mono ?_
          rintro e w14 ⟨PE2, pe2, PE3, pe3, rfl, hre, hb⟩
          have nBA := Aside0.mk (blk_below BA.out hb)
          have nRA := Aside0.mk (RA.out.below hb)
          have HB14 := Aside0.mk (below_step HB13.out hb)
          clear BA RA HB13 hb
          have BA := nBA
          clear nBA
          have RA := nRA
          clear nRA
          have RE := Aside0.mk hre
          clear hre U1
          go_upto_region 19 with (fail)
          have N_ : Aside0 ((w14.alloc (.cells #[.int .i64 a1.f0, .int .i64 a1.f1, .slice PE2 a1.f2.length pe2, .slice PE3 a1.f3.length pe3] 25)).heap[w14.heap.size]? = some (.cells #[.int .i64 a1.f0, .int .i64 a1.f1, .slice PE2 a1.f2.length pe2, .slice PE3 a1.f3.length pe3] 25 (0, 0))) := ⟨heap_alloc_new w14 (.cells #[.int .i64 a1.f0, .int .i64 a1.f1, .slice PE2 a1.f2.length pe2, .slice PE3 a1.f3.length pe3] 25)⟩
          have nBA : Aside0 ((w14.alloc (.cells #[.int .i64 a1.f0, .int .i64 a1.f1, .slice PE2 a1.f2.length pe2, .slice PE3 a1.f3.length pe3] 25)).heap[ga]? = some (.cells #[.int .i64 a.f0, .int .i64 a.f1, .slice PA2 a.f2.length pa2, .slice PA3 a.f3.length pa3] 25 (0, 0))) := ⟨blk_alloc BA.out _⟩
          have nRA : Aside0 (RowsT (w14.alloc (.cells #[.int .i64 a1.f0, .int .i64 a1.f1, .slice PE2 a1.f2.length pe2, .slice PE3 a1.f3.length pe3] 25)) a PA2 pa2 PA3 pa3) := ⟨RA.out.below (below_alloc (Below.refl _ _) _)⟩
          have nRE : Aside0 (RowsT (w14.alloc (.cells #[.int .i64 a1.f0, .int .i64 a1.f1, .slice PE2 a1.f2.length pe2, .slice PE3 a1.f3.length pe3] 25)) a1 PE2 pe2 PE3 pe3) := ⟨RE.out.below (below_alloc (Below.refl _ _) _)⟩
          have HB15 : Aside0 (Below w.heap.size w (w14.alloc (.cells #[.int .i64 a1.f0, .int .i64 a1.f1, .slice PE2 a1.f2.length pe2, .slice PE3 a1.f3.length pe3] 25))) := ⟨below_alloc HB14.out _⟩
          have hs15 := HB14.out.size
          clear BA RA RE HB14
          generalize (w14.alloc (.cells #[.int .i64 a1.f0, .int .i64 a1.f1, .slice PE2 a1.f2.length pe2, .slice PE3 a1.f3.length pe3] 25)) = w15 at *
          generalize w14.heap.size = ge at *
          have BA := nBA
          clear nBA
          have RA := nRA
          clear nRA
          have RE := nRE
          clear nRE
          have BE := N_
          clear N_
          have U2 := fun (W : World) (hB : Below w.heap.size w W) => union_full (c := c0 - p) HU2'.out (Kd.C_below HDC.out hB) (by have := HDL.out; omega) (by have := HT2.out; omega)
          rw [HDL.out] at U2
          have hsub : ((l.length : Int) - (p : Int)) = ((l.length - p : Nat) : Int) := by omega
          have hsub2 : ((c0 : Int) - (p : Int)) = ((c0 - p : Nat) : Int) := by omega
          haveI := GW.of HB15.out
          go_wp2_with (go_at_call 24; refine holdT_ ?_)
          unfold HeldT
          refine (U2 _ HB15.out).mono ?_
          rintro e w16 ⟨PF2, pf2, PF3, pf3, rfl, hrf, hb⟩
          have nBA := Aside0.mk (blk_below BA.out hb)
          have nBE := Aside0.mk (blk_below BE.out hb)
          have nRA := Aside0.mk (RA.out.below hb)
          have nRE := Aside0.mk (RE.out.below hb)
          have HB16 := Aside0.mk (below_step HB15.out hb)
          clear BA BE RA RE HB15 hb
          have BA := nBA
          clear nBA
          have BE := nBE
          clear nBE
          have RA := nRA
          clear nRA
          have RE := nRE
          clear nRE
          have RF := Aside0.mk hrf
          clear hrf U2
          go_upto_region 20 with (fail)
          have N_ : Aside0 ((w16.alloc (.cells #[.int .i64 a2.f0, .int .i64 a2.f1, .slice PF2 a2.f2.length pf2, .slice PF3 a2.f3.length pf3] 25)).heap[w16.heap.size]? = some (.cells #[.int .i64 a2.f0, .int .i64 a2.f1, .slice PF2 a2.f2.length pf2, .slice PF3 a2.f3.length pf3] 25 (0, 0))) := ⟨heap_alloc_new w16 (.cells #[.int .i64 a2.f0, .int .i64 a2.f1, .slice PF2 a2.f2.length pf2, .slice PF3 a2.f3.length pf3] 25)⟩
          have nBA : Aside0 ((w16.alloc (.cells #[.int .i64 a2.f0, .int .i64 a2.f1, .slice PF2 a2.f2.length pf2, .slice PF3 a2.f3.length pf3] 25)).heap[ga]? = some (.cells #[.int .i64 a.f0, .int .i64 a.f1, .slice PA2 a.f2.length pa2, .slice PA3 a.f3.length pa3] 25 (0, 0))) := ⟨blk_alloc BA.out _⟩
          have nBE : Aside0 ((w16.alloc (.cells #[.int .i64 a2.f0, .int .i64 a2.f1, .slice PF2 a2.f2.length pf2, .slice PF3 a2.f3.length pf3] 25)).heap[ge]? = some (.cells #[.int .i64 a1.f0, .int .i64 a1.f1, .slice PE2 a1.f2.length pe2, .slice PE3 a1.f3.length pe3] 25 (0, 0))) := ⟨blk_alloc BE.out _⟩
          have nRA : Aside0 (RowsT (w16.alloc (.cells #[.int .i64 a2.f0, .int .i64 a2.f1, .slice PF2 a2.f2.length pf2, .slice PF3 a2.f3.length pf3] 25)) a PA2 pa2 PA3 pa3) := ⟨RA.out.below (below_alloc (Below.refl _ _) _)⟩
          have nRE : Aside0 (RowsT (w16.alloc (.cells #[.int .i64 a2.f0, .int .i64 a2.f1, .slice PF2 a2.f2.length pf2, .slice PF3 a2.f3.length pf3] 25)) a1 PE2 pe2 PE3 pe3) := ⟨RE.out.below (below_alloc (Below.refl _ _) _)⟩
          have nRF : Aside0 (RowsT (w16.alloc (.cells #[.int .i64 a2.f0, .int .i64 a2.f1, .slice PF2 a2.f2.length pf2, .slice PF3 a2.f3.length pf3] 25)) a2 PF2 pf2 PF3 pf3) := ⟨RF.out.below (below_alloc (Below.refl _ _) _)⟩
          have HB17 : Aside0 (Below w.heap.size w (w16.alloc (.cells #[.int .i64 a2.f0, .int .i64 a2.f1, .slice PF2 a2.f2.length pf2, .slice PF3 a2.f3.length pf3] 25))) := ⟨below_alloc HB16.out _⟩
          have hs17 := HB16.out.size
          clear BA BE RA RE RF HB16
          generalize (w16.alloc (.cells #[.int .i64 a2.f0, .int .i64 a2.f1, .slice PF2 a2.f2.length pf2, .slice PF3 a2.f3.length pf3] 25)) = w17 at *
          generalize w16.heap.size = gf at *
          have BA := nBA
          clear nBA
          have BE := nBE
          clear nBE
          have RA := nRA
          clear nRA
          have RE := nRE
          clear nRE
          have RF := nRF
          clear nRF
          have BF := N_
          clear N_
          by_cases hE12 : E1 = 0 ∧ E2 = 0
          · obtain ⟨rfl, rfl⟩ := hE12
            have HU3 : Aside0 (unionT [a1, a2] = (a, 0)) := ⟨union_split (by rw [List.take_append_drop]; exact HU.out) HU1'.out HU2'.out⟩
            have HW3 : Aside0 (wTs [a1, a2] ≤ 1000000000000) := ⟨by have h1 := union_w HU1'.out; have h2 := union_w HU2'.out; have := HT1.out; have := HT2.out; rw [wTs_cons, wTs_cons, wTs_nil]; omega⟩
            have x0 : w17.cell? ⟨ge, 0, none⟩ = some (.int .i64 a1.f0) := (blk_cell BE.out 0).trans rfl
            have x1 : w17.cell? ⟨ge, 1, none⟩ = some (.int .i64 a1.f1) := (blk_cell BE.out 1).trans rfl
            have x2 : w17.cell? ⟨ge, 2, none⟩ = some (.slice PE2 a1.f2.length pe2) := (blk_cell BE.out 2).trans rfl
            have x3 : w17.cell? ⟨ge, 3, none⟩ = some (.slice PE3 a1.f3.length pe3) := (blk_cell BE.out 3).trans rfl
            have y0 : w17.cell? ⟨gf, 0, none⟩ = some (.int .i64 a2.f0) := (blk_cell BF.out 0).trans rfl
            have y1 : w17.cell? ⟨gf, 1, none⟩ = some (.int .i64 a2.f1) := (blk_cell BF.out 1).trans rfl
            have y2 : w17.cell? ⟨gf, 2, none⟩ = some (.slice PF2 a2.f2.length pf2) := (blk_cell BF.out 2).trans rfl
            have y3 : w17.cell? ⟨gf, 3, none⟩ = some (.slice PF3 a2.f3.length pf3) := (blk_cell BF.out 3).trans rfl
            haveI := GW.of HB17.out
            go_wp2_with (go_at_call 24; refine holdT_ ?_)
            unfold HeldT
            refine (union_full (l := [a1, a2]) HU3.out (ReadsRow.imp_ (row_two w17 RE.out RF.out (heap_alloc_new w17 (.cells #[.int .i64 a1.f0, .int .i64 a1.f1, .slice PE2 a1.f2.length pe2, .slice PE3 a1.f3.length pe3, .int .i64 a2.f0, .int .i64 a2.f1, .slice PF2 a2.f2.length pf2, .slice PF3 a2.f3.length pf3] 25))) (Below.refl _ _) (fun _ _ h => k25.K_below (below_alloc (Below.refl w17.heap.size w17) _) h)) (by simp) HW3.out).mono ?_
            rintro e w18 ⟨PG2, pg2, PG3, pg3, rfl, hrg, hb⟩
            have nBA := Aside0.mk (blk_below (blk_alloc BA.out (.cells #[.int .i64 a1.f0, .int .i64 a1.f1, .slice PE2 a1.f2.length pe2, .slice PE3 a1.f3.length pe3, .int .i64 a2.f0, .int .i64 a2.f1, .slice PF2 a2.f2.length pf2, .slice PF3 a2.f3.length pf3] 25)) hb)
            have nBE := Aside0.mk (blk_below (blk_alloc BE.out (.cells #[.int .i64 a1.f0, .int .i64 a1.f1, .slice PE2 a1.f2.length pe2, .slice PE3 a1.f3.length pe3, .int .i64 a2.f0, .int .i64 a2.f1, .slice PF2 a2.f2.length pf2, .slice PF3 a2.f3.length pf3] 25)) hb)
            have nBF := Aside0.mk (blk_below (blk_alloc BF.out (.cells #[.int .i64 a1.f0, .int .i64 a1.f1, .slice PE2 a1.f2.length pe2, .slice PE3 a1.f3.length pe3, .int .i64 a2.f0, .int .i64 a2.f1, .slice PF2 a2.f2.length pf2, .slice PF3 a2.f3.length pf3] 25)) hb)
            have nRA := Aside0.mk (RA.out.below (below_step (below_alloc (Below.refl _ _) (.cells #[.int .i64 a1.f0, .int .i64 a1.f1, .slice PE2 a1.f2.length pe2, .slice PE3 a1.f3.length pe3, .int .i64 a2.f0, .int .i64 a2.f1, .slice PF2 a2.f2.length pf2, .slice PF3 a2.f3.length pf3] 25)) hb))
            have nRE := Aside0.mk (RE.out.below (below_step (below_alloc (Below.refl _ _) (.cells #[.int .i64 a1.f0, .int .i64 a1.f1, .slice PE2 a1.f2.length pe2, .slice PE3 a1.f3.length pe3, .int .i64 a2.f0, .int .i64 a2.f1, .slice PF2 a2.f2.length pf2, .slice PF3 a2.f3.length pf3] 25)) hb))
            have nRF := Aside0.mk (RF.out.below (below_step (below_alloc (Below.refl _ _) (.cells #[.int .i64 a1.f0, .int .i64 a1.f1, .slice PE2 a1.f2.length pe2, .slice PE3 a1.f3.length pe3, .int .i64 a2.f0, .int .i64 a2.f1, .slice PF2 a2.f2.length pf2, .slice PF3 a2.f3.length pf3] 25)) hb))
            have HB18 := Aside0.mk (below_step (below_alloc HB17.out (.cells #[.int .i64 a1.f0, .int .i64 a1.f1, .slice PE2 a1.f2.length pe2, .slice PE3 a1.f3.length pe3, .int .i64 a2.f0, .int .i64 a2.f1, .slice PF2 a2.f2.length pf2, .slice PF3 a2.f3.length pf3] 25)) hb)
            clear BA BE BF RA RE RF HB17 hb
            have BA := nBA
            clear nBA
            have BE := nBE
            clear nBE
            have BF := nBF
            clear nBF
            have RA := nRA
            clear nRA
            have RE := nRE
            clear nRE
            have RF := nRF
            clear nRF
            clear x0 x1 x2 x3 y0 y1 y2 y3
            have RG := Aside0.mk hrg
            clear hrg
            go_upto_region 22 with (fail)
            have N_ : Aside0 ((w18.alloc (.cells #[.int .i64 a.f0, .int .i64 a.f1, .slice PG2 a.f2.length pg2, .slice PG3 a.f3.length pg3] 25)).heap[w18.heap.size]? = some (.cells #[.int .i64 a.f0, .int .i64 a.f1, .slice PG2 a.f2.length pg2, .slice PG3 a.f3.length pg3] 25 (0, 0))) := ⟨heap_alloc_new w18 (.cells #[.int .i64 a.f0, .int .i64 a.f1, .slice PG2 a.f2.length pg2, .slice PG3 a.f3.length pg3] 25)⟩
            have nBA : Aside0 ((w18.alloc (.cells #[.int .i64 a.f0, .int .i64 a.f1, .slice PG2 a.f2.length pg2, .slice PG3 a.f3.length pg3] 25)).heap[ga]? = some (.cells #[.int .i64 a.f0, .int .i64 a.f1, .slice PA2 a.f2.length pa2, .slice PA3 a.f3.length pa3] 25 (0, 0))) := ⟨blk_alloc BA.out _⟩
            have nBE : Aside0 ((w18.alloc (.cells #[.int .i64 a.f0, .int .i64 a.f1, .slice PG2 a.f2.length pg2, .slice PG3 a.f3.length pg3] 25)).heap[ge]? = some (.cells #[.int .i64 a1.f0, .int .i64 a1.f1, .slice PE2 a1.f2.length pe2, .slice PE3 a1.f3.length pe3] 25 (0, 0))) := ⟨blk_alloc BE.out _⟩
            have nBF : Aside0 ((w18.alloc (.cells #[.int .i64 a.f0, .int .i64 a.f1, .slice PG2 a.f2.length pg2, .slice PG3 a.f3.length pg3] 25)).heap[gf]? = some (.cells #[.int .i64 a2.f0, .int .i64 a2.f1, .slice PF2 a2.f2.length pf2, .slice PF3 a2.f3.length pf3] 25 (0, 0))) := ⟨blk_alloc BF.out _⟩
            have nRA : Aside0 (RowsT (w18.alloc (.cells #[.int .i64 a.f0, .int .i64 a.f1, .slice PG2 a.f2.length pg2, .slice PG3 a.f3.length pg3] 25)) a PA2 pa2 PA3 pa3) := ⟨RA.out.below (below_alloc (Below.refl _ _) _)⟩
            have nRE : Aside0 (RowsT (w18.alloc (.cells #[.int .i64 a.f0, .int .i64 a.f1, .slice PG2 a.f2.length pg2, .slice PG3 a.f3.length pg3] 25)) a1 PE2 pe2 PE3 pe3) := ⟨RE.out.below (below_alloc (Below.refl _ _) _)⟩
            have nRF : Aside0 (RowsT (w18.alloc (.cells #[.int .i64 a.f0, .int .i64 a.f1, .slice PG2 a.f2.length pg2, .slice PG3 a.f3.length pg3] 25)) a2 PF2 pf2 PF3 pf3) := ⟨RF.out.below (below_alloc (Below.refl _ _) _)⟩
            have nRG : Aside0 (RowsT (w18.alloc (.cells #[.int .i64 a.f0, .int .i64 a.f1, .slice PG2 a.f2.length pg2, .slice PG3 a.f3.length pg3] 25)) a PG2 pg2 PG3 pg3) := ⟨RG.out.below (below_alloc (Below.refl _ _) _)⟩
            have HB19 : Aside0 (Below w.heap.size w (w18.alloc (.cells #[.int .i64 a.f0, .int .i64 a.f1, .slice PG2 a.f2.length pg2, .slice PG3 a.f3.length pg3] 25))) := ⟨below_alloc HB18.out _⟩
            have hs19 := HB18.out.size
            clear BA BE BF RA RE RF RG HB18
            generalize (w18.alloc (.cells #[.int .i64 a.f0, .int .i64 a.f1, .slice PG2 a.f2.length pg2, .slice PG3 a.f3.length pg3] 25)) = w19 at *
            generalize w18.heap.size = gg at *
            have BA := nBA
            clear nBA
            have BE := nBE
            clear nBE
            have BF := nBF
            clear nBF
            have RA := nRA
            clear nRA
            have RE := nRE
            clear nRE
            have RF := nRF
            clear nRF
            have RG := nRG
            clear nRG
            have BG := N_
            clear N_
            have x0 : w19.cell? ⟨ga, 0, none⟩ = some (.int .i64 a.f0) := (blk_cell BA.out 0).trans rfl
            have x1 : w19.cell? ⟨ga, 1, none⟩ = some (.int .i64 a.f1) := (blk_cell BA.out 1).trans rfl
            have x2 : w19.cell? ⟨ga, 2, none⟩ = some (.slice PA2 a.f2.length pa2) := (blk_cell BA.out 2).trans rfl
            have x3 : w19.cell? ⟨ga, 3, none⟩ = some (.slice PA3 a.f3.length pa3) := (blk_cell BA.out 3).trans rfl
            have y0 : w19.cell? ⟨gg, 0, none⟩ = some (.int .i64 a.f0) := (blk_cell BG.out 0).trans rfl
            have y1 : w19.cell? ⟨gg, 1, none⟩ = some (.int .i64 a.f1) := (blk_cell BG.out 1).trans rfl
            have y2 : w19.cell? ⟨gg, 2, none⟩ = some (.slice PG2 a.f2.length pg2) := (blk_cell BG.out 2).trans rfl
            have y3 : w19.cell? ⟨gg, 3, none⟩ = some (.slice PG3 a.f3.length pg3) := (blk_cell BG.out 3).trans rfl
            haveI := GW.of HB19.out
            go_wp2_with (go_at_call 21; refine holdT_ ?_)
            unfold HeldT
            refine (types_Compare.calls Kc _ _ _ _ _ _ _ _ _ _ _ _ _ _ _ _ _ _ RG.out.2.1 RG.out.1 RG.out.2.2.2 RG.out.2.2.1 RA.out.2.1 RA.out.1 RA.out.2.2.2 RA.out.2.2.1 EC.out).mono ?_
            rintro e w20 ⟨rfl, hb⟩
            have nBA := Aside0.mk (blk_below BA.out hb)
            have nBE := Aside0.mk (blk_below BE.out hb)
            have nBF := Aside0.mk (blk_below BF.out hb)
            have nBG := Aside0.mk (blk_below BG.out hb)
            have nRA := Aside0.mk (RA.out.below hb)
            have nRE := Aside0.mk (RE.out.below hb)
            have nRF := Aside0.mk (RF.out.below hb)
            have nRG := Aside0.mk (RG.out.below hb)
            have HB20 := Aside0.mk (below_step HB19.out hb)
            clear BA BE BF BG RA RE RF RG HB19 hb
            have BA := nBA
            clear nBA
            have BE := nBE
            clear nBE
            have BF := nBF
            clear nBF
            have BG := nBG
            clear nBG
            have RA := nRA
            clear nRA
            have RE := nRE
            clear nRE
            have RF := nRF
            clear nRF
            have RG := nRG
            clear nRG
            clear x0 x1 x2 x3 y0 y1 y2 y3
            haveI := GW.of HB20.out
            go_wp2_with (go_at_call 20; refine holdT_ ?_)
            unfold HeldT
            refine (sure_calls _).mono ?_
            rintro e w99 ⟨rfl, hb⟩
            go_wp2
            go_ret
            exact ⟨rfl, below_step HB20.out hb⟩
          · have hne : (E1 == 0 && E2 == 0) = false := by
              rw [Bool.and_eq_false_iff]
              by_cases h1 : E1 = 0
              · exact Or.inr (by simpa using fun h2 => hE12 ⟨h1, h2⟩)
              · exact Or.inl (by simpa using h1)
            by_cases hE1 : E1 = 0
            · have g1 : (E1 == 0) = true := by simp [hE1]
              have g2 : (E2 == 0) = false := by simpa using fun h2 => hE12 ⟨hE1, h2⟩
              clear hE12 hne hE1
              haveI := GW.of HB17.out
              go_wp2_with (go_at_call 20; refine holdT_ ?_)
              unfold HeldT
              refine (sure_calls _).mono ?_
              rintro e w99 ⟨rfl, hb⟩
              go_wp2
              go_ret
              exact ⟨rfl, below_step HB17.out hb⟩
            · have g1 : (E1 == 0) = false := by simpa using hE1
              clear hE12 hne hE1
              haveI := GW.of HB17.out
              go_wp2_with (go_at_call 20; refine holdT_ ?_)
              unfold HeldT
              refine (sure_calls _).mono ?_
              rintro e w99 ⟨rfl, hb⟩
              go_wp2
              go_ret
              exact ⟨rfl, below_step HB17.out hb⟩
        · have hpt : ((p : Int) > 0) = False := by simp; omega
          have hpt2 : ((0 : Int) < (p : Int)) = False := by simp; omega
          haveI := GW.of HB13.out
          go_wp2_with (go_at_call 20; refine holdT_ ?_)
          unfold HeldT
          refine (sure_calls _).mono ?_
          rintro e w99 ⟨rfl, hb⟩
          go_wp2
          go_ret
          exact ⟨rfl, below_step HB13.out hb⟩
      · have hE2 : (E != 0) = true := by simp [hE]
        clear hE
        haveI := GW.of HB6.out
        go_wp2_with (go_at_call 20; refine holdT_ ?_)
        unfold HeldT
        refine (sure_calls _).mono ?_
        rintro e w99 ⟨rfl, hb⟩
        go_wp2
        go_ret
        exact ⟨rfl, below_step HB6.out hb⟩
end Go.Proofs.YtjcajpkgamolkaaDoor.Ty
