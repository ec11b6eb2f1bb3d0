/- HD, as this claim needs it. -/
import Derived.Test.YtdheakalfleleaaDoorHCq
import Derived.Test.YtdheakalfleleaaDoorHAq
namespace Go.Proofs.YtdheakalfleleaaDoor.Val
open Go.RowKit Go.Proofs.YtdheakalfleleaaDoor.POper Go.Proofs.YtdheakalfleleaaDoorW.PrintWords Go.Proofs.YtdheakalfleleaaDoorW.PrintLast Go.Proofs.YtdheakalfleleaaDoorW.PrintMore
set_option linter.unusedVariables false
set_option linter.unusedSimpArgs false
abbrev Sl := Option Addr × Nat × Nat
def slV (s : Sl) : Value := .slice s.1 s.2.1 s.2.2
def kSl : Kd Sl := Kd.scalar slV (fun _ => rfl)
abbrev Tg := Bool × Sl × Sl
def tg0 : Tg := (false, (none, 0, 0), (none, 0, 0))
def kTg : Kd Tg := Kd.pair Kd.bool (Kd.pair kSl kSl)
theorem kTg_any {w : World} {base : Nat} {ok1 ok2 : Nat → Prop} {x : Tg} {cs : List Value} (h : kTg.M w base ok1 x cs) : kTg.M w base ok2 x cs := by
  obtain ⟨c1, c2, rfl, h1, d1, d2, e2, g1, g2⟩ := h
  exact ⟨c1, c2, rfl, h1, d1, d2, e2, g1, g2⟩
theorem kTg_only {e base : Nat} {ok : Nat → Prop} {w : World} {v : Value} {xs : List Tg} (h : kTg.R e w base ok v xs) : kTg.R e w base (fun k => ok k ∧ some k = v.ownBlock) v xs := own_only kTg_any h
def PG (w : World) (O : Nat → Prop) (x : Tg) : Th → Prop
  | .arr l => x.1 = false ∧ Kd.string.R 9 w 0 O (slV x.2.1) [] ∧ k23.R 23 w 0 O (slV x.2.2) l
  | .obj kv => x.1 = true ∧ Kd.string.R 9 w 0 O (slV x.2.1) (kv.map Prod.fst) ∧ k23.R 23 w 0 O (slV x.2.2) (kv.map Prod.snd)
theorem PG.step {w w' : World} {O : Nat → Prop} {x : Tg} {t : Th} (h : PG w O x t) (hm : ∀ k, O k → k < w.heap.size → w'.heap[k]? = w.heap[k]?) : PG w' O x t := by
  cases t with
  | arr l => exact ⟨h.1, Kd.R_step h.2.1 hm, Kd.R_step h.2.2 hm⟩
  | obj kv => exact ⟨h.1, Kd.R_step h.2.1 hm, Kd.R_step h.2.2 hm⟩
theorem PG.mono {w : World} {O Q : Nat → Prop} {x : Tg} {t : Th} (h : PG w O x t) (hq : ∀ k, O k → k < w.heap.size → Q k) : PG w Q x t := by
  cases t with
  | arr l => exact ⟨h.1, Kd.R_mono (Kd.R_bound h.2.1) (fun k hk => hq k hk.1 hk.2.2.1), Kd.R_mono (Kd.R_bound h.2.2) (fun k hk => hq k hk.1 hk.2.2.1)⟩
  | obj kv => exact ⟨h.1, Kd.R_mono (Kd.R_bound h.2.1) (fun k hk => hq k hk.1 hk.2.2.1), Kd.R_mono (Kd.R_bound h.2.2) (fun k hk => hq k hk.1 hk.2.2.1)⟩
structure GPw (w : World) (O : Nat → Prop) (p : Nat) (v : Value) (xs : List Tg) (Os : Nat → Nat → Prop) (D : List Th) : Prop where
  hdr : w.heap[p]? = some (.cells #[v] 69 (0, 0))
  po : O p
  row : kTg.R 98 w 0 O v xs
  len : xs.length = D.length
  th : ∀ i t, D[i]? = some t → PG w (Os i) (xs.getD i tg0) t
  sub : ∀ i k, Os i k → O k ∧ k < w.heap.size
  dis : ∀ i j k, i ≠ j → Os i k → ¬ Os j k
  nop : ∀ i, ¬ Os i p
  nor : ∀ i k, v.ownBlock = some k → ¬ Os i k
def GP (w : World) (O : Nat → Prop) (p : Nat) (D : List Th) : Prop := ∃ v xs Os, GPw w O p v xs Os D
section
variable {w w' : World} {O Q : Nat → Prop} {p : Nat} {v : Value} {xs : List Tg} {Os : Nat → Nat → Prop} {D : List Th}
theorem GPw.plt (h : GPw w O p v xs Os D) : p < w.heap.size := (Array.getElem?_eq_some_iff.1 h.hdr).1
theorem GPw.row_lt (h : GPw w O p v xs Os D) {k : Nat} (hk : v.ownBlock = some k) : k < w.heap.size ∧ O k := ⟨Kd.R_lt h.row k hk, h.row.1 k hk⟩
theorem GPw.row_ne (h : GPw w O p v xs Os D) : v.ownBlock ≠ some p := fun e => Kd.R_ne h.row h.hdr (by decide) e.symm
theorem GPw.step (h : GPw w O p v xs Os D) (hm : ∀ k, O k → k < w.heap.size → w'.heap[k]? = w.heap[k]?) (hs : w.heap.size ≤ w'.heap.size) : GPw w' O p v xs Os D where
  hdr := (hm p h.po h.plt).trans h.hdr
  po := h.po
  row := Kd.R_step h.row hm
  len := h.len
  th := fun i t ht => (h.th i t ht).step (fun k hk hlt => hm k (h.sub i k hk).1 hlt)
  sub := fun i k hk => ⟨(h.sub i k hk).1, Nat.lt_of_lt_of_le (h.sub i k hk).2 hs⟩
  dis := h.dis
  nop := h.nop
  nor := h.nor
theorem GPw.keep (h : GPw w O p v xs Os D) (hc : Chg Q w w') (hd : ∀ k, O k → k < w.heap.size → ¬ Q k) : GPw w' O p v xs Os D := h.step (fun k hk hlt => hc.block k hlt (hd k hk hlt)) hc.size
theorem GPw.mono (h : GPw w O p v xs Os D) (hq : ∀ k, O k → k < w.heap.size → Q k) : GPw w Q p v xs Os D where
  hdr := h.hdr
  po := hq p h.po h.plt
  row := Kd.R_mono (Kd.R_bound h.row) (fun k hk => hq k hk.1 hk.2.2.1)
  len := h.len
  th := h.th
  sub := fun i k hk => ⟨hq k (h.sub i k hk).1 (h.sub i k hk).2, (h.sub i k hk).2⟩
  dis := h.dis
  nop := h.nop
  nor := h.nor
theorem GP.keep (h : GP w O p D) (hc : Chg Q w w') (hd : ∀ k, O k → k < w.heap.size → ¬ Q k) : GP w' O p D := by
  obtain ⟨v, xs, Os, h⟩ := h
  exact ⟨v, xs, Os, h.keep hc hd⟩
theorem GP.mono (h : GP w O p D) (hq : ∀ k, O k → k < w.heap.size → Q k) : GP w Q p D := by
  obtain ⟨v, xs, Os, h⟩ := h
  exact ⟨v, xs, Os, h.mono hq⟩
theorem GPw.upd (h : GPw w O p v xs Os D) {n : Nat} {t : Th} (hc : Chg (Os n) w w') (ht : PG w' (fun k => Os n k ∨ w.heap.size ≤ k) (xs.getD n tg0) t) :
    GPw w' (Grow O w w') p v xs (fun i k => if i = n then (Os n k ∨ (w.heap.size ≤ k ∧ k < w'.heap.size)) else Os i k) (D.set n t) where
  hdr := hc.blk h.hdr (h.nop n)
  po := Or.inl ⟨h.po, h.plt⟩
  row := Kd.R_mono (Kd.R_step (kTg_only (Kd.R_mono (Kd.R_bound h.row) (ok' := fun k => O k ∧ k < w.heap.size) (fun k hk => ⟨hk.1, hk.2.2.1⟩))) (fun k hk hlt => hc.block k hlt (h.nor n k hk.2.symm))) (fun k hk => Or.inl hk.1)
  len := by rw [List.length_set]; exact h.len
  th := by
    intro i t' hi
    rw [List.getElem?_set] at hi
    by_cases e : n = i
    · subst e
      simp only [if_true] at hi ⊢
      split at hi
      · injection hi with hi
        subst hi
        exact ht.mono (fun k hk hlt => hk.imp id (fun h => ⟨h, hlt⟩))
      · cases hi
    · rw [if_neg e] at hi
      simp only [if_neg (Ne.symm e)]
      exact (h.th i t' hi).step (fun k hk hlt => hc.block k hlt (h.dis i n k (Ne.symm e) hk))
  sub := by
    intro i k hk
    by_cases e : i = n
    · simp only [if_pos e] at hk
      rcases hk with hk | hk
      · exact ⟨Or.inl (h.sub n k hk), Nat.lt_of_lt_of_le (h.sub n k hk).2 hc.size⟩
      · exact ⟨Or.inr hk, hk.2⟩
    · simp only [if_neg e] at hk
      exact ⟨Or.inl (h.sub i k hk), Nat.lt_of_lt_of_le (h.sub i k hk).2 hc.size⟩
  dis := by
    intro i j k hij h1 h2
    by_cases e : i = n
    · simp only [if_pos e] at h1
      simp only [if_neg (show ¬ j = n from fun e2 => hij (e.trans e2.symm))] at h2
      rcases h1 with h1 | h1
      · exact h.dis n j k (e ▸ hij) h1 h2
      · have := (h.sub j k h2).2; omega
    · simp only [if_neg e] at h1
      by_cases e2 : j = n
      · simp only [if_pos e2] at h2
        rcases h2 with h2 | h2
        · exact h.dis i n k e h1 h2
        · have := (h.sub i k h1).2; omega
      · simp only [if_neg e2] at h2
        exact h.dis i j k hij h1 h2
  nop := by
    intro i hk
    by_cases e : i = n
    · simp only [if_pos e] at hk
      rcases hk with hk | hk
      · exact h.nop n hk
      · have := h.plt; omega
    · simp only [if_neg e] at hk
      exact h.nop i hk
  nor := by
    intro i k hv hk
    by_cases e : i = n
    · simp only [if_pos e] at hk
      rcases hk with hk | hk
      · exact h.nor n k hv hk
      · have := (h.row_lt hv).1; omega
    · simp only [if_neg e] at hk
      exact h.nor i k hv hk
end
end Go.Proofs.YtdheakalfleleaaDoor.Val
namespace Go.Proofs.YtdheakalfleleaaDoor.Val
open Go.RowKit Go.Proofs.YtdheakalfleleaaDoor.POper Go.Proofs.YtdheakalfleleaaDoorW.PrintWords Go.Proofs.YtdheakalfleleaaDoorW.PrintLast Go.Proofs.YtdheakalfleleaaDoorW.PrintMore
set_option linter.unusedVariables false
set_option linter.unusedSimpArgs false
theorem at_tg {w : World} {A : Option Addr} {n : Nat} {xs : List Tg} (h : Kd.C kTg w A n xs) (i : Int) (h0 : 0 ≤ i) (h1 : i < n) : ∃ ad, A = some ad ∧ w.cell? (ad.add (i.toNat * 3)) = some (.bool (xs.getD i.toNat tg0).1) := by
  obtain ⟨ad, c, e, _, hK, hc0⟩ := Kd.C_get h tg0 i h0 h1
  obtain ⟨c1, c2, rfl, hb, _⟩ := hK
  refine ⟨ad, e, ?_⟩
  have hb : c1 = [.bool (xs.getD i.toNat tg0).1] := hb
  subst hb
  exact hc0 0 _ rfl
set_option maxHeartbeats 2000000 in
set_option maxRecDepth 100000 in
theorem is_kind (w : World) (p : Nat) (x : S23) (b : Bool) (h1 : x.f0 ≠ (if b = true then 6 else 5)) :
    Calls Tryd.prog 80 #[.pointer (some ⟨p, 0, none⟩), .agg #[.int .i64 x.f0, .int .i64 x.f1, .string x.f2], .bool b] w fun e w' => e = .returned (.bool false) ∧ Below w.heap.size w w' := by
  cases b
  all_goals
    simp at h1
    have e1 := beq_eq_false_iff_ne.mpr h1
    clear h1
    go_enter Tryd.func80, Tryd.ntmps80
    go_wp2
    go_quiet (fail)
    go_wp2
    go_ret
    exact ⟨rfl, pw_below_drewN (below_alloc (Below.refl _ _) _) _⟩
set_option maxHeartbeats 2000000 in
set_option maxRecDepth 100000 in
theorem is_low (w : World) (p : Nat) (x : S23) (b : Bool) (h1 : x.f0 = (if b = true then 6 else 5)) (h2 : x.f1 < 0) :
    Calls Tryd.prog 80 #[.pointer (some ⟨p, 0, none⟩), .agg #[.int .i64 x.f0, .int .i64 x.f1, .string x.f2], .bool b] w fun e w' => e = .returned (.bool false) ∧ Below w.heap.size w w' := by
  have e2 : decide (0 ≤ x.f1) = false := decide_eq_false (by omega)
  cases b
  all_goals
    simp at h1
    have e1 := beq_iff_eq.mpr h1
    clear h1
    go_enter Tryd.func80, Tryd.ntmps80
    go_wp2
    go_quiet (fail)
    go_wp2
    go_ret
    exact ⟨rfl, pw_below_drewN (below_alloc (Below.refl _ _) _) _⟩
set_option maxHeartbeats 2000000 in
set_option maxRecDepth 100000 in
theorem is_high (w : World) (p : Nat) (A : Option Addr) (n c : Nat) (x : S23) (b : Bool) (hc : w.cell? ⟨p, 0, none⟩ = some (.slice A n c)) (h1 : x.f0 = (if b = true then 6 else 5)) (h2 : 0 ≤ x.f1) (h3 : (n : Int) ≤ x.f1) :
    Calls Tryd.prog 80 #[.pointer (some ⟨p, 0, none⟩), .agg #[.int .i64 x.f0, .int .i64 x.f1, .string x.f2], .bool b] w fun e w' => e = .returned (.bool false) ∧ Below w.heap.size w w' := by
  have hc1 := cell_alloc hc (.cells #[.int .i64 x.f0, .int .i64 x.f1, .string x.f2] 23)
  have e2 : decide (0 ≤ x.f1) = true := decide_eq_true (by omega)
  have e3 : decide (x.f1 < (n : Int)) = false := decide_eq_false (by omega)
  clear hc
  cases b
  all_goals
    simp at h1
    have e1 := beq_iff_eq.mpr h1
    clear h1
    go_enter Tryd.func80, Tryd.ntmps80
    go_wp2
    go_quiet (fail)
    go_wp2
    go_ret
    exact ⟨rfl, pw_below_drewN (below_alloc (Below.refl _ _) _) _⟩
set_option maxHeartbeats 2000000 in
set_option maxRecDepth 100000 in
theorem is_yes (w : World) (p : Nat) (A : Option Addr) (n c : Nat) (xs : List Tg) (x : S23) (b : Bool) (hc : w.cell? ⟨p, 0, none⟩ = some (.slice A n c)) (hC : kTg.C w A n xs) (h1 : x.f0 = (if b = true then 6 else 5)) (h2 : 0 ≤ x.f1) (h3 : x.f1 < (n : Int)) :
    Calls Tryd.prog 80 #[.pointer (some ⟨p, 0, none⟩), .agg #[.int .i64 x.f0, .int .i64 x.f1, .string x.f2], .bool b] w fun e w' => e = .returned (.bool ((xs.getD x.f1.toNat tg0).1 == b)) ∧ Below w.heap.size w w' := by
  obtain ⟨ad, rfl, ha⟩ := at_tg hC x.f1 h2 h3
  have hc1 := cell_alloc hc (.cells #[.int .i64 x.f0, .int .i64 x.f1, .string x.f2] 23)
  have ha1 := cell_alloc ha (.cells #[.int .i64 x.f0, .int .i64 x.f1, .string x.f2] 23)
  have e2 : decide (0 ≤ x.f1) = true := decide_eq_true (by omega)
  have e3 : decide (x.f1 < (n : Int)) = true := decide_eq_true (by omega)
  have e4 : (0 ≤ x.f1) = True := eq_true h2
  have e5 : (x.f1 < (n : Int)) = True := eq_true h3
  generalize (xs.getD x.f1.toNat tg0).1 = r at ha ha1 ⊢
  clear hC ha hc h2 h3
  cases b
  all_goals
    simp at h1
    have e1 := beq_iff_eq.mpr h1
    clear h1
    go_enter Tryd.func80, Tryd.ntmps80
    go_wp2
    go_quiet (fail)
    go_wp2
    go_ret
    exact ⟨by cases r <;> rfl, pw_below_drewN (below_alloc (Below.refl _ _) _) _⟩
end Go.Proofs.YtdheakalfleleaaDoor.Val
namespace Go.Proofs.YtdheakalfleleaaDoor.Val
open Go.RowKit Go.Proofs.YtdheakalfleleaaDoor.POper Go.Proofs.YtdheakalfleleaaDoorW.PrintWords Go.Proofs.YtdheakalfleleaaDoorW.PrintLast Go.Proofs.YtdheakalfleleaaDoorW.PrintMore
set_option linter.unusedVariables false
set_option linter.unusedSimpArgs false
section
variable {w : World} {O : Nat → Prop} {p : Nat} {v : Value} {xs : List Tg} {Os : Nat → Nat → Prop} {D : List Th}
theorem GPw.head (h : GPw w O p v xs Os D) : ∃ A c, v = .slice A xs.length c ∧ kTg.C w A xs.length xs ∧ w.cell? ⟨p, 0, none⟩ = some (.slice A xs.length c) := by
  obtain ⟨A, c, rfl, _, hC⟩ := Kd.R_reads h.row
  exact ⟨A, c, rfl, hC, (blk_cell h.hdr 0).trans rfl⟩
def isG (D : List Th) (x : S23) (b : Bool) : Bool := if b = true then (objAt D x).isSome else (arrAt D x).isSome
theorem is_calls (h : GPw w O p v xs Os D) (x : S23) (b : Bool) :
    Calls Tryd.prog 80 #[.pointer (some ⟨p, 0, none⟩), .agg #[.int .i64 x.f0, .int .i64 x.f1, .string x.f2], .bool b] w fun e w' => e = .returned (.bool (isG D x b)) ∧ Below w.heap.size w w' := by
  obtain ⟨A, c, rfl, hC, hc⟩ := h.head
  have hlen := h.len
  by_cases h1 : x.f0 = (if b = true then 6 else 5)
  · by_cases h2 : 0 ≤ x.f1
    · by_cases h3 : x.f1 < (xs.length : Int)
      · have hi : x.f1.toNat < D.length := by omega
        have ht := h.th x.f1.toNat _ (List.getElem?_eq_getElem hi)
        have key : ((xs.getD x.f1.toNat tg0).1 == b) = isG D x b := by
          unfold isG objAt arrAt
          have hD : D[x.f1.toNat]? = some D[x.f1.toNat] := List.getElem?_eq_getElem hi
          rw [hD]
          generalize D[x.f1.toNat] = t at ht ⊢
          have h4 : x.f1 < (D.length : Int) := by omega
          cases t with
          | arr l => cases b <;> simp_all [PG]
          | obj kv => cases b <;> simp_all [PG]
        rw [← key]
        exact is_yes w p A xs.length c xs x b hc hC h1 h2 h3
      · have key : isG D x b = false := by
          have h4 : ¬ x.f1 < (D.length : Int) := by omega
          unfold isG objAt arrAt
          cases b <;> simp [h4]
        rw [key]
        exact is_high w p A xs.length c x b hc h1 h2 (by omega)
    · have key : isG D x b = false := by
        unfold isG objAt arrAt
        cases b <;> simp [h2]
      rw [key]
      exact is_low w p x b h1 (by omega)
  · have key : isG D x b = false := by
      unfold isG objAt arrAt
      cases b <;> simp at h1 <;> simp [h1]
    rw [key]
    exact is_kind w p x b h1
end
end Go.Proofs.YtdheakalfleleaaDoor.Val
namespace Go.Proofs.YtdheakalfleleaaDoor.Val
open Go.RowKit Go.Proofs.YtdheakalfleleaaDoor.POper Go.Proofs.YtdheakalfleleaaDoorW.PrintWords Go.Proofs.YtdheakalfleleaaDoorW.PrintLast Go.Proofs.YtdheakalfleleaaDoorW.PrintMore
set_option linter.unusedVariables false
set_option linter.unusedSimpArgs false
theorem at_tg3 {w : World} {A : Option Addr} {n : Nat} {xs : List Tg} (h : Kd.C kTg w A n xs) (i : Int) (h0 : 0 ≤ i) (h1 : i < n) : ∃ ad, A = some ad ∧ w.cell? (ad.add (i.toNat * 3)) = some (.bool (xs.getD i.toNat tg0).1) ∧ w.cell? ⟨(ad.add (i.toNat * 3)).block, (ad.add (i.toNat * 3)).off + 1, none⟩ = some (slV (xs.getD i.toNat tg0).2.1) ∧ w.cell? ⟨(ad.add (i.toNat * 3)).block, (ad.add (i.toNat * 3)).off + 2, none⟩ = some (slV (xs.getD i.toNat tg0).2.2) := by
  obtain ⟨ad, c, e, hv, hK, hc0⟩ := Kd.C_get h tg0 i h0 h1
  obtain ⟨c1, c2, rfl, hb, d1, d2, rfl, g1, g2⟩ := hK
  refine ⟨ad, e, ?_⟩
  have hb : c1 = [.bool (xs.getD i.toNat tg0).1] := hb
  have g1 : d1 = [slV (xs.getD i.toNat tg0).2.1] := g1
  have g2 : d2 = [slV (xs.getD i.toNat tg0).2.2] := g2
  subst hb
  subst g1
  subst g2
  have hc : ∀ j u, ([.bool (xs.getD i.toNat tg0).1] ++ ([slV (xs.getD i.toNat tg0).2.1] ++ [slV (xs.getD i.toNat tg0).2.2]) : List Value)[j]? = some u → w.cell? (ad.add (i.toNat * 3 + j)) = some u := hc0
  exact ⟨hc 0 _ rfl, by rw [← add_field _ _ 1 (by omega)]; exact hc 1 _ rfl, by rw [← add_field _ _ 2 (by omega)]; exact hc 2 _ rfl⟩
section
variable {w : World} {O : Nat → Prop} {p : Nat} {v : Value} {xs : List Tg} {Os : Nat → Nat → Prop} {D : List Th}
set_option maxHeartbeats 2000000 in
set_option maxRecDepth 100000 in
theorem glen_none (h : GPw w O p v xs Os D) {x : S23} (hl : arrAt D x = none) :
    Calls Tryd.prog 57 #[.pointer (some ⟨p, 0, none⟩), .agg #[.int .i64 x.f0, .int .i64 x.f1, .string x.f2]] w fun e w' => e = .returned (.int .i64 0) ∧ Below w.heap.size w w' := by
  have HI := Aside0.mk (is_calls (h.keep (Q := No) (Chg.alloc No w (.cells #[.int .i64 x.f0, .int .i64 x.f1, .string x.f2] 23)) (fun _ _ _ hn => hn)) x false)
  rw [show isG D x false = false by unfold isG; simp [hl]] at HI
  clear h hl
  go_enter Tryd.func57, Tryd.ntmps57
  go_wp2_with (go_at_call 80; refine HI.out.mono ?_; rintro e w' ⟨rfl, hb⟩; have HB := Aside0.mk (below_step (below_alloc (Below.refl w.heap.size w) _) hb); clear hb)
  go_ret
  exact ⟨rfl, HB.out⟩
theorem GPw.arr (h : GPw w O p v xs Os D) {x : S23} {l : List S23} (hl : arrAt D x = some l) : ∃ A c ad A1 c1, w.cell? ⟨p, 0, none⟩ = some (.slice (some A) xs.length c) ∧ ad = A.add (x.f1.toNat * 3) ∧ w.cell? ⟨ad.block, ad.off + 2, none⟩ = some (.slice A1 l.length c1) ∧ k23.C w A1 l.length l ∧ 0 ≤ x.f1 ∧ x.f1 < (xs.length : Int) := by
  obtain ⟨A, c, rfl, hC, hc⟩ := h.head
  obtain ⟨_, h0, h1, hD⟩ := arrAt_some hl
  have hlen := h.len
  obtain ⟨ad, rfl, t0, t1, t2⟩ := at_tg3 hC x.f1 h0 (by omega)
  obtain ⟨_, _, hr⟩ := h.th _ _ hD
  obtain ⟨A1, c1, e1, _, hC1⟩ := Kd.R_reads hr
  rw [e1] at t2
  exact ⟨ad, c, _, A1, c1, hc, rfl, t2, hC1, h0, by omega⟩
set_option maxHeartbeats 2000000 in
set_option maxRecDepth 100000 in
theorem glen_some (h : GPw w O p v xs Os D) {x : S23} {l : List S23} (hl : arrAt D x = some l) :
    Calls Tryd.prog 57 #[.pointer (some ⟨p, 0, none⟩), .agg #[.int .i64 x.f0, .int .i64 x.f1, .string x.f2]] w fun e w' => e = .returned (.int .i64 l.length) ∧ Below w.heap.size w w' := by
  have hk := h.keep (Q := No) (Chg.alloc No w (.cells #[.int .i64 x.f0, .int .i64 x.f1, .string x.f2] 23)) (fun _ _ _ hn => hn)
  have HI := Aside0.mk (is_calls hk x false)
  rw [show isG D x false = true by unfold isG; simp [hl]] at HI
  have HH := Aside0.mk hk
  have HL := Aside0.mk hl
  clear h hl hk
  go_enter Tryd.func57, Tryd.ntmps57
  go_wp2_with (go_at_call 80; refine HI.out.mono ?_; rintro e w' ⟨rfl, hb⟩; have HB := Aside0.mk (below_step (below_alloc (Below.refl w.heap.size w) _) hb); obtain ⟨⟨b0, b1, b2⟩, f0, f1, f2⟩ := box3 (blk_below (heap_alloc_new w (.cells #[.int .i64 x.f0, .int .i64 x.f1, .string x.f2] 23)) hb); obtain ⟨A, c, ad, A1, c1, g0, ea, g2, _, q0, q1⟩ := (HH.out.keep (Q := No) (Chg.of_below hb) (fun _ _ _ hn => hn)).arr HL.out; subst ea; have q0 := eq_true q0; have q1 := eq_true q1; clear hb)
  go_quiet (fail)
  go_wp2
  go_ret
  exact ⟨rfl, pw_below_drewN HB.out _⟩
end
end Go.Proofs.YtdheakalfleleaaDoor.Val
namespace Go.Proofs.YtdheakalfleleaaDoor.Val
open Go.RowKit Go.Proofs.YtdheakalfleleaaDoor.POper Go.Proofs.YtdheakalfleleaaDoorW.PrintWords Go.Proofs.YtdheakalfleleaaDoorW.PrintLast Go.Proofs.YtdheakalfleleaaDoorW.PrintMore
set_option linter.unusedVariables false
set_option linter.unusedSimpArgs false
section
variable {w : World} {O : Nat → Prop} {p : Nat} {v : Value} {xs : List Tg} {Os : Nat → Nat → Prop} {D : List Th}
theorem glen_calls (h : GPw w O p v xs Os D) (x : S23) :
    Calls Tryd.prog 57 #[.pointer (some ⟨p, 0, none⟩), .agg #[.int .i64 x.f0, .int .i64 x.f1, .string x.f2]] w fun e w' => e = .returned (.int .i64 (aLen D x)) ∧ Below w.heap.size w w' := by
  unfold aLen
  cases hl : arrAt D x with
  | none => exact glen_none h hl
  | some l => exact glen_some h hl
set_option maxHeartbeats 2000000 in
set_option maxRecDepth 100000 in
theorem gat_low (w : World) (p : Nat) (x : S23) (i : Int) (h1 : i < 0) :
    Calls Tryd.prog 62 #[.pointer (some ⟨p, 0, none⟩), .agg #[.int .i64 x.f0, .int .i64 x.f1, .string x.f2], .int .i64 i] w fun e w' => e = .returned (.tuple #[enc z23, .bool false]) ∧ Below w.heap.size w w' := by
  have e1 : decide (i < 0) = true := decide_eq_true h1
  clear h1
  have BX := Aside0.mk (new2 w (.cells #[.int .i64 x.f0, .int .i64 x.f1, .string x.f2] 23) (.cells #[.int .i64 0, .int .i64 0, .string ⟨#[]⟩] 23))
  go_enter Tryd.func62, Tryd.ntmps62
  go_wp2
  refine bodyPost_ret (results_ct rfl _ _ (w.heap.size + 1) 23 #[.int .i64 0, .int .i64 0, .string ⟨#[]⟩] (0, 0) _ rfl BX.out Tryd.underlying23 rfl (by kernel_rfl)) rfl ⟨rfl, ?_⟩
  exact below_alloc (below_alloc (Below.refl _ _) _) _
set_option maxHeartbeats 2000000 in
set_option maxRecDepth 100000 in
theorem gat_high (h : GPw w O p v xs Os D) (x : S23) (i : Int) (h0 : 0 ≤ i) (h1 : aLen D x ≤ i) :
    Calls Tryd.prog 62 #[.pointer (some ⟨p, 0, none⟩), .agg #[.int .i64 x.f0, .int .i64 x.f1, .string x.f2], .int .i64 i] w fun e w' => e = .returned (.tuple #[enc z23, .bool false]) ∧ Below w.heap.size w w' := by
  have e1 : decide (i < 0) = false := decide_eq_false (by omega)
  have e2 : decide (aLen D x ≤ i) = true := decide_eq_true h1
  have HI := Aside0.mk (glen_calls ((h.keep (Q := No) (Chg.alloc No w (.cells #[.int .i64 x.f0, .int .i64 x.f1, .string x.f2] 23)) (fun _ _ _ hn => hn)).keep (Q := No) (Chg.alloc No _ (.cells #[.int .i64 0, .int .i64 0, .string ⟨#[]⟩] 23)) (fun _ _ _ hn => hn)) x)
  generalize aLen D x = m at *
  clear h h0 h1
  have BX0 := Aside0.mk (new2 w (.cells #[.int .i64 x.f0, .int .i64 x.f1, .string x.f2] 23) (.cells #[.int .i64 0, .int .i64 0, .string ⟨#[]⟩] 23))
  go_enter Tryd.func62, Tryd.ntmps62
  go_wp2_with (first
    | (go_at_call 57; refine HI.out.mono ?_; rintro e w' ⟨rfl, hb⟩; have bx := blk_below BX0.out hb; obtain ⟨⟨b0, b1, b2⟩, f0, f1, f2⟩ := box3 bx; have BX := Aside0.mk bx; clear bx; have HB := Aside0.mk hb; clear hb))
  refine bodyPost_ret (results_ct rfl _ _ (w.heap.size + 1) 23 #[.int .i64 0, .int .i64 0, .string ⟨#[]⟩] (0, 0) _ rfl (put3 BX.out) Tryd.underlying23 rfl (by kernel_rfl)) rfl ⟨rfl, ?_⟩
  exact below_put3 (below_step (below_alloc (below_alloc (Below.refl _ _) _) _) HB.out) (by omega)
end
end Go.Proofs.YtdheakalfleleaaDoor.Val
namespace Go.Proofs.YtdheakalfleleaaDoor.Val
open Go.RowKit Go.Proofs.YtdheakalfleleaaDoor.POper Go.Proofs.YtdheakalfleleaaDoorW.PrintWords Go.Proofs.YtdheakalfleleaaDoorW.PrintLast Go.Proofs.YtdheakalfleleaaDoorW.PrintMore
set_option linter.unusedVariables false
set_option linter.unusedSimpArgs false
section
variable {w : World} {O : Nat → Prop} {p : Nat} {v : Value} {xs : List Tg} {Os : Nat → Nat → Prop} {D : List Th}
set_option maxHeartbeats 2000000 in
set_option maxRecDepth 100000 in
theorem gat_in (h : GPw w O p v xs Os D) {x : S23} {l : List S23} (hl : arrAt D x = some l) (i : Int) (h0 : 0 ≤ i) (hi : i < (l.length : Int)) :
    Calls Tryd.prog 62 #[.pointer (some ⟨p, 0, none⟩), .agg #[.int .i64 x.f0, .int .i64 x.f1, .string x.f2], .int .i64 i] w fun e w' => e = .returned (.tuple #[enc (rd_T23 l i), .bool true]) ∧ Below w.heap.size w w' := by
  have h1 := (h.keep (Q := No) (Chg.alloc No w (.cells #[.int .i64 x.f0, .int .i64 x.f1, .string x.f2] 23)) (fun _ _ _ hn => hn)).keep (Q := No) (Chg.alloc No _ (.cells #[.int .i64 0, .int .i64 0, .string ⟨#[]⟩] 23)) (fun _ _ _ hn => hn)
  have H1 := Aside0.mk (glen_some h1 hl)
  have HH := Aside0.mk h1
  have HL := Aside0.mk hl
  clear h h1 hl
  have BX0 := Aside0.mk (new2 w (.cells #[.int .i64 x.f0, .int .i64 x.f1, .string x.f2] 23) (.cells #[.int .i64 0, .int .i64 0, .string ⟨#[]⟩] 23))
  have BY0 := Aside0.mk (blk_alloc (heap_alloc_new w (.cells #[.int .i64 x.f0, .int .i64 x.f1, .string x.f2] 23)) (.cells #[.int .i64 0, .int .i64 0, .string ⟨#[]⟩] 23))
  have e1 : decide (i < 0) = false := by simpa using h0
  have e2 : decide ((l.length : Int) ≤ i) = false := by simpa using hi
  go_enter Tryd.func62, Tryd.ntmps62
  go_wp2_with (first
    | (go_at_call 57; refine H1.out.mono ?_; rintro e w' ⟨rfl, hb⟩; obtain ⟨A, c, ad, A1, c1, g0, ea, g2, gC, q0, q1⟩ := (HH.out.keep (Q := No) (Chg.of_below hb) (fun _ _ _ hn => hn)).arr HL.out; subst ea; have q0 := eq_true q0; have q1 := eq_true q1; obtain ⟨ad, rfl, hx0, hx1, hx2⟩ := at_T23 gC i h0 hi; clear gC; have bx := blk_below BX0.out hb; obtain ⟨⟨b0, b1, b2⟩, f0, f1, f2⟩ := box3 bx; obtain ⟨⟨d0, d1, d2⟩, _, _, _⟩ := box3 (blk_below BY0.out hb); have BX := Aside0.mk bx; clear bx; have HB := Aside0.mk hb; clear hb))
  go_still_tail 12, (by kernel_rfl)
  change wpList _ _ _ _ _ w'.drew
  go_wp2
  refine bodyPost_ret (results_ct rfl _ _ (w.heap.size + 1) 23 #[.int .i64 (rd_T23 l i).f0, .int .i64 (rd_T23 l i).f1, .string (rd_T23 l i).f2] (0, 0) _ rfl (put3 (blk_drew BX.out)) Tryd.underlying23 rfl (by kernel_rfl)) rfl ⟨rfl, ?_⟩
  exact below_put3 (below_drew1 (below_step (below_alloc (below_alloc (Below.refl _ _) _) _) HB.out)) (by omega)
theorem gat_calls (h : GPw w O p v xs Os D) (x : S23) (i : Int) :
    Calls Tryd.prog 62 #[.pointer (some ⟨p, 0, none⟩), .agg #[.int .i64 x.f0, .int .i64 x.f1, .string x.f2], .int .i64 i] w fun e w' => e = .returned (.tuple #[enc (aAt D x i).1, .bool (aAt D x i).2]) ∧ Below w.heap.size w w' := by
  by_cases h0 : 0 ≤ i
  · cases hl : arrAt D x with
    | none =>
      have e : aAt D x i = (z23, false) := by unfold aAt; rw [hl]
      rw [e]
      exact gat_high h x i h0 (by unfold aLen; rw [hl]; exact h0)
    | some l =>
      by_cases h1 : i < (l.length : Int)
      · have e : aAt D x i = (rd_T23 l i, true) := by unfold aAt; rw [hl]; exact if_pos ⟨h0, h1⟩
        rw [e]
        exact gat_in h hl i h0 h1
      · have e : aAt D x i = (z23, false) := by unfold aAt; rw [hl]; exact if_neg (fun hh => h1 hh.2)
        rw [e]
        exact gat_high h x i h0 (by unfold aLen; rw [hl]; show (l.length : Int) ≤ i; omega)
  · have e : aAt D x i = (z23, false) := by
      unfold aAt
      cases arrAt D x with
      | none => rfl
      | some l => exact if_neg (fun hh => h0 hh.1)
    rw [e]
    exact gat_low w p x i (by omega)
end
end Go.Proofs.YtdheakalfleleaaDoor.Val
namespace Go.Proofs.YtdheakalfleleaaDoor.Val
open Go.RowKit Go.Proofs.YtdheakalfleleaaDoor.POper Go.Proofs.YtdheakalfleleaaDoorW.PrintWords Go.Proofs.YtdheakalfleleaaDoorW.PrintLast Go.Proofs.YtdheakalfleleaaDoorW.PrintMore
set_option linter.unusedVariables false
set_option linter.unusedSimpArgs false
section
variable {w : World} {O : Nat → Prop} {p : Nat} {v : Value} {xs : List Tg} {Os : Nat → Nat → Prop} {D : List Th}
theorem GPw.obj (h : GPw w O p v xs Os D) {x : S23} {kv : List (ByteArray × S23)} (hl : objAt D x = some kv) : ∃ A c ad A0 c0 A1 c1, w.cell? ⟨p, 0, none⟩ = some (.slice (some A) xs.length c) ∧ ad = A.add (x.f1.toNat * 3) ∧ w.cell? ad = some (.bool true) ∧ w.cell? ⟨ad.block, ad.off + 1, none⟩ = some (.slice A0 (kv.map Prod.fst).length c0) ∧ w.cell? ⟨ad.block, ad.off + 2, none⟩ = some (.slice A1 (kv.map Prod.snd).length c1) ∧ Kd.string.C w A0 (kv.map Prod.fst).length (kv.map Prod.fst) ∧ k23.C w A1 (kv.map Prod.snd).length (kv.map Prod.snd) ∧ 0 ≤ x.f1 ∧ x.f1 < (xs.length : Int) := by
  obtain ⟨A, c, rfl, hC, hc⟩ := h.head
  obtain ⟨_, h0, h1, hD⟩ := objAt_some hl
  have hlen := h.len
  obtain ⟨ad, rfl, t0, t1, t2⟩ := at_tg3 hC x.f1 h0 (by omega)
  obtain ⟨hb, hn, hr⟩ := h.th _ _ hD
  obtain ⟨A0, c0, e0, _, hC0⟩ := Kd.R_reads hn
  obtain ⟨A1, c1, e1, _, hC1⟩ := Kd.R_reads hr
  rw [hb] at t0
  rw [e0] at t1
  rw [e1] at t2
  exact ⟨ad, c, _, A0, c0, A1, c1, hc, rfl, t0, t1, t2, hC0, hC1, h0, by omega⟩
end
end Go.Proofs.YtdheakalfleleaaDoor.Val
namespace Go.Proofs.YtdheakalfleleaaDoor.Val
open Go.RowKit Go.Proofs.YtdheakalfleleaaDoor.POper Go.Proofs.YtdheakalfleleaaDoorW.PrintWords Go.Proofs.YtdheakalfleleaaDoorW.PrintLast Go.Proofs.YtdheakalfleleaaDoorW.PrintMore
set_option linter.unusedVariables false
set_option linter.unusedSimpArgs false
theorem beq_of {a b : ByteArray} (h : a = b) : (a.toList == b.toList) = true := by rw [h]; exact beq_self_eq_true _
theorem beq_not {a b : ByteArray} (h : a ≠ b) : (a.toList == b.toList) = false := by
  cases e : (a.toList == b.toList)
  · rfl
  · have e2 := beq_iff_eq.1 e
    rw [Lib.toList_data, Lib.toList_data] at e2
    exact absurd (WideShapes.bytes_inj e2) h
section
variable {w : World} {O : Nat → Prop} {p : Nat} {v : Value} {xs : List Tg} {Os : Nat → Nat → Prop} {D : List Th}
end
end Go.Proofs.YtdheakalfleleaaDoor.Val
namespace Go.Proofs.YtdheakalfleleaaDoor.Val
open Go.RowKit Go.Proofs.YtdheakalfleleaaDoor.POper Go.Proofs.YtdheakalfleleaaDoorW.PrintWords Go.Proofs.YtdheakalfleleaaDoorW.PrintLast Go.Proofs.YtdheakalfleleaaDoorW.PrintMore
set_option linter.unusedVariables false
set_option linter.unusedSimpArgs false
theorem info72 : (Tryd.prog.info? 98).map (fun i => (i.zero, i.size, i.bytes)) = some (some (.agg #[.bool false, .slice none 0 0, .slice none 0 0]), kTg.sz, 56) := by kernel_rfl
theorem info9 : (Tryd.prog.info? 9).map (fun i => (i.zero, i.size, i.bytes)) = some (some (.string ⟨#[]⟩), Kd.string.sz, 16) := by kernel_rfl
theorem kTg_mk (W : World) (base : Nat) (ok : Nat → Prop) (x : Tg) : kTg.M W base ok x [.bool x.1, slV x.2.1, slV x.2.2] := ⟨[.bool x.1], [slV x.2.1, slV x.2.2], rfl, rfl, [slV x.2.1], [slV x.2.2], rfl, rfl, rfl⟩
section
variable {w : World} {O : Nat → Prop} {p : Nat} {v : Value} {xs : List Tg} {Os : Nat → Nat → Prop} {D : List Th}
theorem GPw.place (h : GPw w O p v xs Os D) (i : Int) (h0 : 0 ≤ i) (h1 : i < (D.length : Int)) : ∃ A c g, v = .slice (some A) xs.length c ∧ A = ⟨g, 0, none⟩ ∧ w.cell? ⟨p, 0, none⟩ = some (.slice (some A) xs.length c) ∧ w.cell? (A.add (i.toNat * 3)) = some (.bool (xs.getD i.toNat tg0).1) ∧ w.cell? ⟨(A.add (i.toNat * 3)).block, (A.add (i.toNat * 3)).off + 1, none⟩ = some (slV (xs.getD i.toNat tg0).2.1) ∧ w.cell? ⟨(A.add (i.toNat * 3)).block, (A.add (i.toNat * 3)).off + 2, none⟩ = some (slV (xs.getD i.toNat tg0).2.2) ∧ i < (xs.length : Int) := by
  have hlen := h.len
  obtain ⟨g, c, rfl, _, _, _⟩ := Kd.R_form h.row (by omega)
  obtain ⟨_, _, hC⟩ := Kd.R_reads' h.row
  obtain ⟨ad, e, t0, t1, t2⟩ := at_tg3 hC i h0 (by omega)
  cases e
  exact ⟨_, c, g, rfl, rfl, (blk_cell h.hdr 0).trans rfl, t0, t1, t2, by omega⟩
theorem GPw.rowAt (h : GPw w O p v xs Os D) {W : World} {n : Nat} (hc : Chg (Os n) w W) : kTg.R 98 W 0 (fun k => O k ∧ k < w.heap.size) v xs :=
  Kd.R_mono (Kd.R_step (kTg_only (Kd.R_mono (Kd.R_bound h.row) (ok' := fun k => O k ∧ k < w.heap.size) (fun k hk => ⟨hk.1, hk.2.2.1⟩))) (fun k hk hlt => hc.block k hlt (h.nor n k hk.2.symm))) (fun k hk => hk.1)
theorem GPw.stored (h : GPw w O p v xs Os D) {W W1 : World} {n g : Nat} {x' : Tg} {t : Th} (hc : Chg (Os n) w W) (hv : v.ownBlock = some g) (hn : n < D.length) (ht : PG W (fun k => Os n k ∨ w.heap.size ≤ k) x' t)
    (hrow : kTg.R 98 W1 0 (fun k => O k ∧ k < w.heap.size) v (xs.set n x')) (hg : W.grownBy W1 (some g)) : GP W1 (Grow O w W1) p (D.set n t) ∧ Chg O w W1 := by
  have hgw : g < w.heap.size ∧ O g := h.row_lt hv
  have hgn : ∀ i, ¬ Os i g := fun i hk => h.nor i g hv hk
  have hgp : g ≠ p := fun e => h.row_ne (by rw [hv, e])
  have c2 : Chg (fun k => Os n k ∨ k = g) w W1 := (hc.trans (Chg.of_grown (O := fun k => k = g) hg (fun k hk => (Option.some.inj hk).symm))).mono (fun k _ hq => hq.imp id (fun h => h.1))
  have hs := c2.size
  have tW : ∀ k, k < W.heap.size → k ≠ g → W1.heap[k]? = W.heap[k]? := fun k hk hne => hg.block k hk (fun e => hne (Option.some.inj e))
  refine ⟨⟨v, xs.set n x', fun i k => if i = n then (Os n k ∨ (w.heap.size ≤ k ∧ k < W1.heap.size)) else Os i k, ?_⟩, c2.mono (fun k _ hq => by
    rcases hq with hq | rfl
    · exact (h.sub n k hq).1
    · exact hgw.2)⟩
  exact {
    hdr := c2.blk h.hdr (fun hq => by
      rcases hq with hq | hq
      · exact h.nop n hq
      · exact hgp hq.symm)
    po := Or.inl ⟨h.po, h.plt⟩
    row := Kd.R_mono hrow (fun k hk => Or.inl hk)
    len := by rw [List.length_set, List.length_set]; exact h.len
    th := by
      intro i t' hi
      rw [List.getElem?_set] at hi
      by_cases e : n = i
      · subst e
        simp only [if_true] at hi ⊢
        rw [if_pos hn] at hi
        injection hi with hi
        subst hi
        rw [List.getD_eq_getElem?_getD, List.getElem?_set_self (by rw [h.len]; exact hn)]
        have hk2 : ∀ k, (Os n k ∨ w.heap.size ≤ k) → k ≠ g := fun k hk e => by
          subst e
          rcases hk with hk | hk
          · exact hgn n hk
          · omega
        exact (ht.step (fun k hk hlt => tW k hlt (hk2 k hk))).mono (fun k hk hlt => hk.imp id (fun h => ⟨h, hlt⟩))
      · rw [if_neg e] at hi
        simp only [if_neg (Ne.symm e)]
        rw [List.getD_eq_getElem?_getD, List.getElem?_set_ne e, ← List.getD_eq_getElem?_getD]
        exact (h.th i t' hi).step (fun k hk hlt => c2.block k hlt (fun hq => by
          rcases hq with hq | rfl
          · exact h.dis i n k (Ne.symm e) hk hq
          · exact hgn i hk))
    sub := by
      intro i k hk
      by_cases e : i = n
      · simp only [if_pos e] at hk
        rcases hk with hk | hk
        · exact ⟨Or.inl (h.sub n k hk), Nat.lt_of_lt_of_le (h.sub n k hk).2 hs⟩
        · exact ⟨Or.inr hk, hk.2⟩
      · simp only [if_neg e] at hk
        exact ⟨Or.inl (h.sub i k hk), Nat.lt_of_lt_of_le (h.sub i k hk).2 hs⟩
    dis := by
      intro i j k hij h1 h2
      by_cases e : i = n
      · simp only [if_pos e] at h1
        simp only [if_neg (show ¬ j = n from fun e2 => hij (e.trans e2.symm))] at h2
        rcases h1 with h1 | h1
        · exact h.dis n j k (e ▸ hij) h1 h2
        · have := (h.sub j k h2).2; omega
      · simp only [if_neg e] at h1
        by_cases e2 : j = n
        · simp only [if_pos e2] at h2
          rcases h2 with h2 | h2
          · exact h.dis i n k e h1 h2
          · have := (h.sub i k h1).2; omega
        · simp only [if_neg e2] at h2
          exact h.dis i j k hij h1 h2
    nop := by
      intro i hk
      by_cases e : i = n
      · simp only [if_pos e] at hk
        rcases hk with hk | hk
        · exact h.nop n hk
        · have := h.plt; omega
      · simp only [if_neg e] at hk
        exact h.nop i hk
    nor := by
      intro i k hkv hk
      by_cases e : i = n
      · simp only [if_pos e] at hk
        rcases hk with hk | hk
        · exact h.nor n k hkv hk
        · have := (h.row_lt hkv).1; omega
      · simp only [if_neg e] at hk
        exact h.nor i k hkv hk }
theorem GPw.same (h : GPw w O p v xs Os D) {W : World} (hb : Below w.heap.size w W) : GP W (Grow O w W) p D ∧ Chg O w W :=
  ⟨⟨_, _, _, (h.keep (Q := No) (Chg.of_below hb) (fun _ _ _ hn => hn)).mono (fun k hk hlt => by
    by_cases hw : k < w.heap.size
    · exact Or.inl ⟨hk, hw⟩
    · exact Or.inr ⟨by omega, hlt⟩)⟩, Chg.of_below hb⟩
end
end Go.Proofs.YtdheakalfleleaaDoor.Val
namespace Go.Proofs.YtdheakalfleleaaDoor.Val
open Go.RowKit Go.Proofs.YtdheakalfleleaaDoor.POper Go.Proofs.YtdheakalfleleaaDoorW.PrintWords Go.Proofs.YtdheakalfleleaaDoorW.PrintLast Go.Proofs.YtdheakalfleleaaDoorW.PrintMore
set_option linter.unusedVariables false
set_option linter.unusedSimpArgs false
section
variable {w : World} {O : Nat → Prop} {p : Nat} {v : Value} {xs : List Tg} {Os : Nat → Nat → Prop} {D : List Th}
set_option maxHeartbeats 2000000 in
set_option maxRecDepth 100000 in
theorem gpush_none (h : GPw w O p v xs Os D) {x : S23} (hl : arrAt D x = none) (y : S23) :
    Calls Tryd.prog 84 #[.pointer (some ⟨p, 0, none⟩), .agg #[.int .i64 x.f0, .int .i64 x.f1, .string x.f2], .agg #[.int .i64 y.f0, .int .i64 y.f1, .string y.f2]] w fun e w' => e = .returned (.bool false) ∧ Below w.heap.size w w' := by
  have HI := Aside0.mk (is_calls ((h.keep (Q := No) (Chg.alloc No w (.cells #[.int .i64 x.f0, .int .i64 x.f1, .string x.f2] 23)) (fun _ _ _ hn => hn)).keep (Q := No) (Chg.alloc No _ (.cells #[.int .i64 y.f0, .int .i64 y.f1, .string y.f2] 23)) (fun _ _ _ hn => hn)) x false)
  rw [show isG D x false = false by unfold isG; simp [hl]] at HI
  clear h hl
  go_enter Tryd.func84, Tryd.ntmps84
  go_wp2_with (go_at_call 80; refine HI.out.mono ?_; rintro e w' ⟨rfl, hb⟩; have HB := Aside0.mk hb; clear hb)
  go_ret
  exact ⟨rfl, below_step (below_alloc (below_alloc (Below.refl _ _) _) _) HB.out⟩
set_option maxHeartbeats 2000000 in
set_option maxRecDepth 100000 in
theorem gpush_some (h : GPw w O p v xs Os D) {x : S23} {l : List S23} (hl : arrAt D x = some l) (y : S23) (hmax : l.length < 1000000000000) :
    Calls Tryd.prog 84 #[.pointer (some ⟨p, 0, none⟩), .agg #[.int .i64 x.f0, .int .i64 x.f1, .string x.f2], .agg #[.int .i64 y.f0, .int .i64 y.f1, .string y.f2]] w fun e w' => e = .returned (.bool true) ∧ GP w' (Grow O w w') p (D.set x.f1.toNat (.arr (l ++ [y]))) ∧ Chg O w w' := by
  have hk := (h.keep (Q := No) (Chg.alloc No w (.cells #[.int .i64 x.f0, .int .i64 x.f1, .string x.f2] 23)) (fun _ _ _ hn => hn)).keep (Q := No) (Chg.alloc No _ (.cells #[.int .i64 y.f0, .int .i64 y.f1, .string y.f2] 23)) (fun _ _ _ hn => hn)
  have HI := Aside0.mk (is_calls hk x false)
  rw [show isG D x false = true by unfold isG; simp [hl]] at HI
  obtain ⟨hx0, q0, hi, hD⟩ := arrAt_some hl
  have HP0 := Aside0.mk h
  have HH := Aside0.mk hk
  have HD := Aside0.mk (And.intro q0 (And.intro hi hD))
  obtain ⟨⟨bb, ⟨A0, n0, c0⟩, ⟨A1, n1, c1⟩⟩, er⟩ : ∃ r, r = xs.getD x.f1.toNat tg0 := ⟨_, rfl⟩
  have HT := Aside0.mk (h.th _ _ hD)
  rw [← er] at HT
  have ER := Aside0.mk er
  clear h hl hk q0 hi hD er hx0
  have BX0 := Aside0.mk (new1 w (.cells #[.int .i64 x.f0, .int .i64 x.f1, .string x.f2] 23) (.cells #[.int .i64 y.f0, .int .i64 y.f1, .string y.f2] 23))
  have BY0 := Aside0.mk (new2 w (.cells #[.int .i64 x.f0, .int .i64 x.f1, .string x.f2] 23) (.cells #[.int .i64 y.f0, .int .i64 y.f1, .string y.f2] 23))
  go_enter Tryd.func84, Tryd.ntmps84
  go_wp2_with (go_at_call 80; refine hold_ ?_)
  unfold Held
  refine HI.out.mono ?_
  rintro e w' ⟨rfl, hb⟩
  have BX := Aside0.mk (blk_below BX0.out hb)
  have BY := Aside0.mk (blk_below BY0.out hb)
  obtain ⟨⟨b0, b1, b2⟩, _, _, _⟩ := box3 BX.out
  obtain ⟨A, c, g, ev, eA, g0, g1, g2, g3, q1⟩ := (HH.out.keep (Q := No) (Chg.of_below hb) (fun _ _ _ hn => hn)).place x.f1 HD.out.1 HD.out.2.1
  rw [← ER.out] at g1 g2 g3
  simp only [slV] at g2 g3
  have q0 := eq_true HD.out.1
  have q1 := eq_true q1
  have HB := Aside0.mk hb
  clear hb
  have EV := Aside0.mk ev
  have EA := Aside0.mk eA
  clear ev eA
  go_wp2
  refine start_ (n := 10) (S := fun w' => w'.cell? ⟨p, 0, none⟩ = some (.slice (some A) xs.length c) ∧ w'.cell? ⟨w.heap.size, 1, none⟩ = some (.int .i64 x.f1) ∧ w'.cell? (A.add (x.f1.toNat * 3)) = some (.bool bb) ∧ w'.cell? ⟨(A.add (x.f1.toNat * 3)).block, (A.add (x.f1.toNat * 3)).off + 1, none⟩ = some (.slice A0 n0 c0) ∧ w'.cell? ⟨(A.add (x.f1.toNat * 3)).block, (A.add (x.f1.toNat * 3)).off + 2, none⟩ = some (.slice A1 n1 c1)) (ds := [9]) #[false, false, false, false, false, false, false, false, false, false] (by kernel_rfl) rfl rfl ⟨g0, b1, g1, g2, g3⟩ (fun hHeld => ?_)
  refine pure_ (i := 0) (N := some 12) (v := ?_) (a' := ?_) #[true, false, false, false, false, false, false, false, false, false] rfl rfl (by kernel_rfl) (fun _ _ _ h => h) (Or.inl ⟨by rfl, ?_⟩) ?_ ?_
  rotate_left
  · intro w'
    go_simp
    with_reducible rfl
  rotate_left
  · simp only [Act.put, List.setIfInBounds_toArray, List.set_cons_zero, List.set_cons_succ, i64_w, i32_w]
    rfl
  refine pure_ (i := 1) (N := some 13) (v := ?_) (a' := ?_) #[true, true, false, false, false, false, false, false, false, false] rfl rfl (by kernel_rfl) (fun _ _ _ h => h) (Or.inl ⟨by rfl, ?_⟩) ?_ ?_
  rotate_left
  · intro w'
    go_simp
    with_reducible rfl
  rotate_left
  · simp only [Act.put, List.setIfInBounds_toArray, List.set_cons_zero, List.set_cons_succ, i64_w, i32_w]
    rfl
  refine pure_ (i := 2) (N := some 14) (v := ?_) (a' := ?_) #[true, true, true, false, false, false, false, false, false, false] rfl rfl (by kernel_rfl) (fun _ _ _ h => h) (Or.inl ⟨by rfl, ?_⟩) ?_ ?_
  rotate_left
  · intro w'
    go_simp
    with_reducible rfl
  rotate_left
  · simp only [Act.put, List.setIfInBounds_toArray, List.set_cons_zero, List.set_cons_succ, i64_w, i32_w]
    rfl
  refine pure_ (i := 4) (N := some 16) (v := ?_) (a' := ?_) #[true, true, true, false, true, false, false, false, false, false] rfl rfl (by kernel_rfl) (fun _ _ _ h => h) (Or.inl ⟨by rfl, ?_⟩) ?_ ?_
  rotate_left
  · intro w'
    go_simp
    with_reducible rfl
  rotate_left
  · simp only [Act.put, List.setIfInBounds_toArray, List.set_cons_zero, List.set_cons_succ, i64_w, i32_w]
    rfl
  refine take_ (i := 3) (N := some 15) (v := ?_) (a' := ?_) #[true, true, true, true, true, false, false, false, false, false] rfl rfl (by kernel_rfl) (fun _ _ _ h => h) (Or.inl ⟨by rfl, ?_⟩) hHeld ?_ ?_
  rotate_left
  · rintro w' ⟨s0, s1, s2, s3, s4⟩
    go_simp
    with_reducible rfl
  rotate_left
  · simp only [Act.put, List.setIfInBounds_toArray, List.set_cons_zero, List.set_cons_succ, i64_w, i32_w]
    rfl
  refine take_ (i := 5) (N := some 17) (v := ?_) (a' := ?_) #[true, true, true, true, true, true, false, false, false, false] rfl rfl (by kernel_rfl) (fun _ _ _ h => h) (Or.inl ⟨by rfl, ?_⟩) hHeld ?_ ?_
  rotate_left
  · rintro w' ⟨s0, s1, s2, s3, s4⟩
    go_simp
    with_reducible rfl
  rotate_left
  · simp only [Act.put, List.setIfInBounds_toArray, List.set_cons_zero, List.set_cons_succ, i64_w, i32_w]
    rfl
  refine pure_ (i := 6) (N := some 18) (v := ?_) (a' := ?_) #[true, true, true, true, true, true, true, false, false, false] rfl rfl (by kernel_rfl) (fun _ _ _ h => h) (Or.inl ⟨by rfl, ?_⟩) ?_ ?_
  rotate_left
  · intro w'
    go_simp
    with_reducible rfl
  rotate_left
  · simp only [Act.put, List.setIfInBounds_toArray, List.set_cons_zero, List.set_cons_succ, i64_w, i32_w]
    rfl
  refine take_ (i := 7) (N := some 19) (v := ?_) (a' := ?_) #[true, true, true, true, true, true, true, true, false, false] rfl rfl (by kernel_rfl) (fun _ _ _ h => h) (Or.inl ⟨by rfl, ?_⟩) hHeld ?_ ?_
  rotate_left
  · rintro w' ⟨s0, s1, s2, s3, s4⟩
    go_simp
    with_reducible rfl
  rotate_left
  · simp only [Act.put, List.setIfInBounds_toArray, List.set_cons_zero, List.set_cons_succ, i64_w, i32_w]
    rfl
  refine one_ (i := 8) (N := some 7) #[true, true, true, true, true, true, true, true, true, false] rfl rfl (by kernel_rfl) (by decide) (fun K hK => ?_)
  refine value_ (w1 := ?_) (v := ?_) (by rfl) rfl ?_ ?_
  rotate_left 2
  · go_simp
    constructor
    · rfl
    · rfl
  refine hK.out _ _ ⟨cell_alloc hHeld.1 _, cell_alloc hHeld.2.1 _, cell_alloc hHeld.2.2.1 _, cell_alloc hHeld.2.2.2.1 _, cell_alloc hHeld.2.2.2.2 _⟩ (fun hHeld => ?_)
  clear hK K
  refine norm_ (a' := ?_) ?_ ?_
  rotate_left
  · show Act.put _ (some 7) _ = _
    simp only [Act.put, List.setIfInBounds_toArray, List.set_cons_zero, List.set_cons_succ, i64_w, i32_w]
    rfl
  refine last_ (i := 9) (N := none) #[true, true, true, true, true, true, true, true, true, true] rfl rfl (by kernel_rfl) (by decide) (fun K hK => ?_)
  refine skip_ (w1 := ?_) (by rfl) rfl ?_ ?_
  rotate_left
  · go_simp
    rfl
  refine hK.out _ _ ?_
  clear hK K
  refine done_ (by kernel_rfl) ?_
  clear hHeld
  clear hHeld
  have c1w : Chg No w (w'.alloc (.cells #[.bool bb, .slice A0 n0 c0, .slice A1 n1 c1] 98)).drew := Chg.of_below (below_drew1 (below_alloc (below_step (below_alloc (below_alloc (Below.refl _ _) _) _) HB.out) _))
  have bT := blk_drew (heap_alloc_new w' (.cells #[.bool bb, .slice A0 n0 c0, .slice A1 n1 c1] 98))
  have bX := blk_drew (blk_alloc BX.out (.cells #[.bool bb, .slice A0 n0 c0, .slice A1 n1 c1] 98))
  have bY := blk_drew (blk_alloc BY.out (.cells #[.bool bb, .slice A0 n0 c0, .slice A1 n1 c1] 98))
  have hT : w.heap.size ≤ w'.heap.size ∧ w.heap.size + 1 < w'.heap.size := ⟨by have := blk_lt BY.out; omega, blk_lt BY.out⟩
  generalize hW : (w'.alloc (.cells #[.bool bb, .slice A0 n0 c0, .slice A1 n1 c1] 98)).drew = W at bT bX bY c1w
  generalize w'.heap.size = T at bT hT
  clear g0 g1 g2 g3 b0 b1 b2 hW BX BY HB HI HH BX0 BY0
  have C1 := Aside0.mk c1w
  have BT := Aside0.mk bT
  have BX := Aside0.mk bX
  have BY := Aside0.mk bY
  obtain ⟨⟨t0, t1, t2⟩, _, _, _⟩ := box3 bT
  obtain ⟨⟨y0, y1, y2⟩, _, _, _⟩ := box3 bY
  clear bT bX bY c1w
  go_wp2_with (first | (at_builtin; refine hold_ ?_))
  unfold Held
  obtain ⟨hbb, hr0, hr1⟩ := HT.out
  simp only at hbb
  have hn1 : n1 = l.length := (Kd.R_reads' hr1).1
  have ho1 : ∀ k, (Value.slice A1 n1 c1).ownBlock = some k → Os x.f1.toNat k ∧ k < w.heap.size := fun k hk => ⟨hr1.1 k hk, Kd.R_lt hr1 k hk⟩
  have hsz := C1.out.size
  refine Kd.R_append_rows k23 (w0 := W) 0 rfl (.tmp 21) (.tmp 23) 64 23 (.agg #[(.int .i64 0), (.int .i64 0), (.string ⟨#[]⟩)]) 32 rfl Tryd.underlying64 info32 rfl (by decide) (by omega) (.slice A1 n1 c1) l [y] _ _ _ (fun k => Os x.f1.toNat k ∨ w.heap.size ≤ k) (fun _ => False) rfl rfl ?aO ?aR (fun _ _ h => h) (fun _ h => h.elim) ?aF ?aB (Nat.zero_le _) ?aL ?_
  (case aO => exact Kd.R_alloc (Kd.R_mono (Kd.R_step hr1 (fun k _ hlt => C1.out.block k hlt (fun h => h))) (fun k hk => Or.inl hk)) _)
  (case aR => exact row_built W [y] _ rfl (by simp))
  (case aF => exact fun k hk => Or.inr (by simp at hk; omega))
  (case aB => exact ⟨rfl, rfl, rfl, by simp, fun k hk => absurd hk (Nat.not_lt_zero k)⟩)
  (case aL => omega)
  intro v1 w1 hrow1 _ hgrow hat
  obtain ⟨A2, c2, ev1⟩ := Kd.R_slice hrow1
  subst ev1
  have hneT : some T ≠ (Value.slice A1 n1 c1).ownBlock := fun e => by have := (ho1 T e.symm).2; have := hT.1; omega
  have hneX : some w.heap.size ≠ (Value.slice A1 n1 c1).ownBlock := fun e => by have := (ho1 _ e.symm).2; omega
  have bT := blk_grown (blk_alloc BT.out (.cells #[.int .i64 y.f0, .int .i64 y.f1, .string y.f2] 23)) hgrow hneT
  have bX := blk_grown (blk_alloc BX.out (.cells #[.int .i64 y.f0, .int .i64 y.f1, .string y.f2] 23)) hgrow hneX
  have cC : Chg (Os x.f1.toNat) w w1 := ((C1.out.trans (Chg.alloc No W (.cells #[.int .i64 y.f0, .int .i64 y.f1, .string y.f2] 23))).trans (Chg.of_grown (O := fun k => some k = (Value.slice A1 n1 c1).ownBlock) hgrow (fun k hk => hk.symm))).mono (fun k _ hq => by
    rcases hq with (hq | hq) | hq
    · exact hq.elim
    · exact hq.1.elim
    · exact (ho1 k hq.1.symm).1)
  have eT : ∀ u, Chg (Os x.f1.toNat) w (w1.setCell ⟨T, 2, none⟩ u) := fun u => (cC.trans (Chg.setCell (O := fun k => k = T) w1 ⟨T, 2, none⟩ u rfl)).mono (fun k hk hq => by
    rcases hq with hq | hq
    · exact hq
    · have := hT.1; omega)
  have hE2 : ∀ q, q ∈ 23 :: k23.E → q ≠ 98 := by decide
  have bT1 := bT
  have fT := blk_frozen bT 2
  have CT := Aside0.mk eT
  have CX := Aside0.mk bX
  have CTb := Aside0.mk bT
  have hrA := Kd.R_alloc (Kd.R_mono (Kd.R_step hr1 (w1 := W) (fun k _ hlt => C1.out.block k hlt (fun h => h))) (ok' := fun k => Os x.f1.toNat k ∨ w.heap.size ≤ k) (fun k hk => Or.inl hk)) (.cells #[.int .i64 y.f0, .int .i64 y.f1, .string y.f2] 23)
  have hrB := Kd.R_alloc (Kd.R_mono (Kd.R_step hr0 (w1 := W) (fun k _ hlt => C1.out.block k hlt (fun h => h))) (ok' := fun k => Os x.f1.toNat k ∨ w.heap.size ≤ k) (fun k hk => Or.inl hk)) (.cells #[.int .i64 y.f0, .int .i64 y.f1, .string y.f2] 23)
  have HR := Aside0.mk (And.intro (Kd.R_set (Kd.R_over hrB hrA (by decide) hgrow) bT (by decide) 2 (.slice A2 (l ++ [y]).length c2)) (Kd.R_set hrow1 bT hE2 2 (.slice A2 (l ++ [y]).length c2)))
  have HO := Aside0.mk ho1
  have tT2 : w1.cell? ⟨T, 2, none⟩ = some (.slice A1 n1 c1) := (blk_cell bT 2).trans rfl
  clear hrA hrB bX bT bT1 eT cC hneT hneX hgrow hat hrow1 t0 t1 t2 y0 y1 y2 hr0 hr1 ho1
  go_wp2
  have EN : (l ++ [y]).length = l.length + 1 := by simp
  rw [EN] at HR
  have hA := EA.out
  subst hA
  have hv := EV.out
  have hcC := CT.out (.slice A2 (l.length + 1) c2)
  have hRow := HP0.out.rowAt hcC
  have bP := hcC.blk HP0.out.hdr (HP0.out.nop _)
  rw [hv] at bP
  have bT := blk_put CTb.out 2 (.slice A2 (l.length + 1) c2) rfl
  have bX := blk_far (p := ⟨T, 2, none⟩) CX.out (show w.heap.size ≠ T by have := hT.1; have := hT.2; omega) (.slice A2 (l.length + 1) c2)
  obtain ⟨hr0, hrow1⟩ := HR.out
  clear HR CT CTb CX fT tT2 C1 BT BX BY EV EA EN
  generalize w1.setCell ⟨T, 2, none⟩ (.slice A2 (l.length + 1) c2) = Wa at hcC hRow bP bT bX hr0 hrow1
  have gp : Wa.cell? ⟨p, 0, none⟩ = some (.slice (some ⟨g, 0, none⟩) xs.length c) := (blk_cell bP 0).trans rfl
  obtain ⟨⟨t0, t1, t2⟩, _, _, _⟩ := box3 bT
  obtain ⟨⟨_, b1, _⟩, _, _, _⟩ := box3 bX
  have HW := Aside0.mk (And.intro hcC (And.intro hRow (And.intro hr0 hrow1)))
  clear hcC hRow bP bT bX hr0 hrow1
  go_still_tail 8, (by kernel_rfl)
  change wpList _ _ _ _ _ Wa.drew
  obtain ⟨hcC, hRow, hr0, hrow1⟩ := HW.out
  have hRow2 := hRow
  rw [hv] at hRow2
  have hxl : x.f1 < (xs.length : Int) := by have := HD.out.2.1; have := HP0.out.len; omega
  obtain ⟨cc, hcl, hM, hcc, hcf⟩ := Kd.R_elem hRow2 tg0 x.f1 HD.out.1 hxl
  have hseg : cc.take 0 ++ [Value.bool false, .slice A0 n0 c0, .slice A2 (l.length + 1) c2] ++ cc.drop (0 + [Value.bool false, .slice A0 n0 c0, .slice A2 (l.length + 1) c2].length) = [Value.bool false, .slice A0 n0 c0, .slice A2 (l.length + 1) c2] := by
    rw [List.drop_of_length_le (by rw [hcl]; exact Nat.le_refl _)]
    simp
  refine Kd.R_store kTg (w0 := Wa.drew) 0 rfl rfl 98 (.tmp 33) (.tmp 32) rfl 98 x.f1 0 xs (false, (A0, n0, c0), (A2, l.length + 1, c2)) (.agg #[.bool false, .slice A0 n0 c0, .slice A2 (l.length + 1) c2]) [.bool false, .slice A0 n0 c0, .slice A2 (l.length + 1) c2] cc (fun k => O k ∧ k < w.heap.size) (fun k => (O k ∧ k < w.heap.size) ∧ k ≠ g) (by rfl) rfl (by rfl) rfl (by kernel_rfl) (by simp [Value.oneCell']) (Kd.R_drew hRow2) HD.out.1 hxl hcl hcc (Nat.le_refl _) (by rw [hseg]; exact kTg_mk _ _ _ _) (fun _ hk => hk) (Below.refl _ _) ?_
  intro w2 hrow2 _ hgrow
  rw [← hv] at hrow2
  go_wp2
  go_ret
  refine ⟨rfl, HP0.out.stored ((hcC.trans (chg_drew No Wa)).mono (fun k _ hq => hq.elim id (fun h => h.1.elim))) (by rw [hv]; rfl) (by have := HD.out.2.1; have := HD.out.1; omega) ?_ hrow2 hgrow⟩
  refine ⟨rfl, Kd.R_drew hr0, ?_⟩
  show Kd.R k23 23 _ 0 _ (.slice A2 (l.length + 1) c2) _
  exact Kd.R_drew hrow1
theorem gpush_calls (h : GP w O p D) (x y : S23) (hR : Room D 100000000000) :
    Calls Tryd.prog 84 #[.pointer (some ⟨p, 0, none⟩), .agg #[.int .i64 x.f0, .int .i64 x.f1, .string x.f2], .agg #[.int .i64 y.f0, .int .i64 y.f1, .string y.f2]] w fun e w' => e = .returned (.bool (aPush D x y).2) ∧ GP w' (Grow O w w') p (aPush D x y).1 ∧ Chg O w w' := by
  obtain ⟨v, xs, Os, h⟩ := h
  unfold aPush
  cases hl : arrAt D x with
  | some l => exact gpush_some h hl y (by have := hR.arr hl; omega)
  | none => exact (gpush_none h hl y).mono fun e w' ⟨he, hb⟩ => ⟨he, h.same hb⟩
end
end Go.Proofs.YtdheakalfleleaaDoor.Val
namespace Go.Proofs.YtdheakalfleleaaDoor.Val
open Go.RowKit Go.Proofs.YtdheakalfleleaaDoor.POper Go.Proofs.YtdheakalfleleaaDoorW.PrintWords Go.Proofs.YtdheakalfleleaaDoorW.PrintLast Go.Proofs.YtdheakalfleleaaDoorW.PrintMore
set_option linter.unusedVariables false
set_option linter.unusedSimpArgs false
section
variable {w : World} {O : Nat → Prop} {p : Nat} {v : Value} {xs : List Tg} {Os : Nat → Nat → Prop} {D : List Th}
theorem GPw.inplace (h : GPw w O p v xs Os D) {W W1 : World} {n g : Nat} {t : Th} (hc : Chg (Os n) w W) (hg : W.grownBy W1 (some g)) (hgo : Os n g) (ht : PG W1 (fun k => Os n k ∨ w.heap.size ≤ k) (xs.getD n tg0) t) : GP W1 (Grow O w W1) p (D.set n t) ∧ Chg O w W1 := by
  have c2 : Chg (Os n) w W1 := (hc.trans (Chg.of_grown (O := fun k => k = g) hg (fun k hk => (Option.some.inj hk).symm))).mono (fun k _ hq => by
    rcases hq with hq | hq
    · exact hq
    · rw [hq.1]; exact hgo)
  exact ⟨⟨_, _, _, h.upd c2 ht⟩, c2.mono (fun k _ hq => (h.sub n k hq).1)⟩
theorem GP.behind {W W1 : World} {D1 : List Th} (hb : Below w.heap.size w W) (hg : GP W1 (Grow O W W1) p D1) (hc : Chg O W W1) : GP W1 (Grow O w W1) p D1 ∧ Chg O w W1 := by
  have h1 := hb.size
  have h2 := hc.size
  refine ⟨hg.mono (fun k hk hlt => ?_), ((Chg.of_below (O := No) hb).trans hc).mono (fun k _ hq => by
    rcases hq with hq | hq
    · exact hq.elim
    · exact hq.1)⟩
  rcases hk with hk | hk
  · by_cases hw : k < w.heap.size
    · exact Or.inl ⟨hk.1, hw⟩
    · exact Or.inr ⟨by omega, hlt⟩
  · exact Or.inr ⟨by omega, hlt⟩
set_option maxHeartbeats 2000000 in
set_option maxRecDepth 100000 in
theorem gput_none (h : GPw w O p v xs Os D) {x : S23} (hl : arrAt D x = none) (y : S23) (i : Int) :
    Calls Tryd.prog 83 #[.pointer (some ⟨p, 0, none⟩), .agg #[.int .i64 x.f0, .int .i64 x.f1, .string x.f2], .int .i64 i, .agg #[.int .i64 y.f0, .int .i64 y.f1, .string y.f2]] w fun e w' => e = .returned (.bool false) ∧ Below w.heap.size w w' := by
  have HI := Aside0.mk (is_calls ((h.keep (Q := No) (Chg.alloc No w (.cells #[.int .i64 x.f0, .int .i64 x.f1, .string x.f2] 23)) (fun _ _ _ hn => hn)).keep (Q := No) (Chg.alloc No _ (.cells #[.int .i64 y.f0, .int .i64 y.f1, .string y.f2] 23)) (fun _ _ _ hn => hn)) x false)
  rw [show isG D x false = false by unfold isG; simp [hl]] at HI
  clear h hl
  go_enter Tryd.func83, Tryd.ntmps83
  go_wp2_with (go_at_call 80; refine HI.out.mono ?_; rintro e w' ⟨rfl, hb⟩; have HB := Aside0.mk hb; clear hb)
  go_ret
  exact ⟨rfl, below_step (below_alloc (below_alloc (Below.refl _ _) _) _) HB.out⟩
set_option maxHeartbeats 2000000 in
set_option maxRecDepth 100000 in
theorem gput_low (h : GPw w O p v xs Os D) {x : S23} {l : List S23} (hl : arrAt D x = some l) (y : S23) (i : Int) (h0 : i < 0) :
    Calls Tryd.prog 83 #[.pointer (some ⟨p, 0, none⟩), .agg #[.int .i64 x.f0, .int .i64 x.f1, .string x.f2], .int .i64 i, .agg #[.int .i64 y.f0, .int .i64 y.f1, .string y.f2]] w fun e w' => e = .returned (.bool false) ∧ Below w.heap.size w w' := by
  have hk := (h.keep (Q := No) (Chg.alloc No w (.cells #[.int .i64 x.f0, .int .i64 x.f1, .string x.f2] 23)) (fun _ _ _ hn => hn)).keep (Q := No) (Chg.alloc No _ (.cells #[.int .i64 y.f0, .int .i64 y.f1, .string y.f2] 23)) (fun _ _ _ hn => hn)
  have HI := Aside0.mk (is_calls hk x false)
  rw [show isG D x false = true by unfold isG; simp [hl]] at HI
  have HH := Aside0.mk hk
  have HP0 := Aside0.mk h
  have HL := Aside0.mk hl
  have HB := Aside0.mk (below_alloc (below_alloc (Below.refl _ w) (.cells #[.int .i64 x.f0, .int .i64 x.f1, .string x.f2] 23)) (.cells #[.int .i64 y.f0, .int .i64 y.f1, .string y.f2] 23))
  clear h hl hk
  have BX := Aside0.mk (new1 w (.cells #[.int .i64 x.f0, .int .i64 x.f1, .string x.f2] 23) (.cells #[.int .i64 y.f0, .int .i64 y.f1, .string y.f2] 23))
  have BY := Aside0.mk (new2 w (.cells #[.int .i64 x.f0, .int .i64 x.f1, .string x.f2] 23) (.cells #[.int .i64 y.f0, .int .i64 y.f1, .string y.f2] 23))
  have d1 : decide (i < 0) = true := decide_eq_true h0
  go_enter Tryd.func83, Tryd.ntmps83
  go_wp2_with (go_at_call 80; refine hold_ ?_)
  unfold Held
  refine (HI.out).mono ?_
  rintro e w1 ⟨rfl, hb⟩
  have nX := Aside0.mk (blk_below BX.out hb)
  have nY := Aside0.mk (blk_below BY.out hb)
  have nH := Aside0.mk (HH.out.keep (Q := No) (Chg.of_below hb) (fun _ _ _ hn => hn))
  have nB := Aside0.mk (below_step HB.out hb)
  clear HH HB BX BY hb
  have HH := nH
  have HB := nB
  have BX := nX
  have BY := nY
  clear nH nB nX nY
  obtain ⟨⟨b0, b1, b2⟩, f0, f1, f2⟩ := box3 BX.out
  obtain ⟨⟨y0, y1, y2⟩, _, _, _⟩ := box3 BY.out
  go_wp2
  go_ret
  exact ⟨rfl, HB.out⟩
set_option maxHeartbeats 2000000 in
set_option maxRecDepth 100000 in
theorem gput_high (h : GPw w O p v xs Os D) {x : S23} {l : List S23} (hl : arrAt D x = some l) (y : S23) (i : Int) (h0 : 0 ≤ i) (h1 : (l.length : Int) < i) :
    Calls Tryd.prog 83 #[.pointer (some ⟨p, 0, none⟩), .agg #[.int .i64 x.f0, .int .i64 x.f1, .string x.f2], .int .i64 i, .agg #[.int .i64 y.f0, .int .i64 y.f1, .string y.f2]] w fun e w' => e = .returned (.bool false) ∧ Below w.heap.size w w' := by
  have hk := (h.keep (Q := No) (Chg.alloc No w (.cells #[.int .i64 x.f0, .int .i64 x.f1, .string x.f2] 23)) (fun _ _ _ hn => hn)).keep (Q := No) (Chg.alloc No _ (.cells #[.int .i64 y.f0, .int .i64 y.f1, .string y.f2] 23)) (fun _ _ _ hn => hn)
  have HI := Aside0.mk (is_calls hk x false)
  rw [show isG D x false = true by unfold isG; simp [hl]] at HI
  have HH := Aside0.mk hk
  have HP0 := Aside0.mk h
  have HL := Aside0.mk hl
  have HB := Aside0.mk (below_alloc (below_alloc (Below.refl _ w) (.cells #[.int .i64 x.f0, .int .i64 x.f1, .string x.f2] 23)) (.cells #[.int .i64 y.f0, .int .i64 y.f1, .string y.f2] 23))
  clear h hl hk
  have BX := Aside0.mk (new1 w (.cells #[.int .i64 x.f0, .int .i64 x.f1, .string x.f2] 23) (.cells #[.int .i64 y.f0, .int .i64 y.f1, .string y.f2] 23))
  have BY := Aside0.mk (new2 w (.cells #[.int .i64 x.f0, .int .i64 x.f1, .string x.f2] 23) (.cells #[.int .i64 y.f0, .int .i64 y.f1, .string y.f2] 23))
  have d1 : decide (i < 0) = false := by simp; omega
  have d2 : decide ((l.length : Int) < i) = true := by simp; omega
  go_enter Tryd.func83, Tryd.ntmps83
  go_wp2_with (go_at_call 80; refine hold_ ?_)
  unfold Held
  refine (HI.out).mono ?_
  rintro e w1 ⟨rfl, hb⟩
  have nX := Aside0.mk (blk_below BX.out hb)
  have nY := Aside0.mk (blk_below BY.out hb)
  have nH := Aside0.mk (HH.out.keep (Q := No) (Chg.of_below hb) (fun _ _ _ hn => hn))
  have nB := Aside0.mk (below_step HB.out hb)
  clear HH HB BX BY hb
  have HH := nH
  have HB := nB
  have BX := nX
  have BY := nY
  clear nH nB nX nY
  obtain ⟨⟨b0, b1, b2⟩, f0, f1, f2⟩ := box3 BX.out
  obtain ⟨⟨y0, y1, y2⟩, _, _, _⟩ := box3 BY.out
  go_wp2_with (go_at_call 57; refine hold_ ?_)
  unfold Held
  refine (glen_some HH.out HL.out).mono ?_
  rintro e w2 ⟨rfl, hb⟩
  have nX := Aside0.mk (blk_below BX.out hb)
  have nY := Aside0.mk (blk_below BY.out hb)
  have nH := Aside0.mk (HH.out.keep (Q := No) (Chg.of_below hb) (fun _ _ _ hn => hn))
  have nB := Aside0.mk (below_step HB.out hb)
  clear HH HB BX BY hb
  have HH := nH
  have HB := nB
  have BX := nX
  have BY := nY
  clear nH nB nX nY
  obtain ⟨⟨b0, b1, b2⟩, f0, f1, f2⟩ := box3 BX.out
  obtain ⟨⟨y0, y1, y2⟩, _, _, _⟩ := box3 BY.out
  go_wp2
  go_ret
  exact ⟨rfl, HB.out⟩
set_option maxHeartbeats 2000000 in
set_option maxRecDepth 100000 in
theorem gput_end (h : GPw w O p v xs Os D) {x : S23} {l : List S23} (hl : arrAt D x = some l) (y : S23) (i : Int) (h0 : i = (l.length : Int)) (hR : l.length < 1000000000000) :
    Calls Tryd.prog 83 #[.pointer (some ⟨p, 0, none⟩), .agg #[.int .i64 x.f0, .int .i64 x.f1, .string x.f2], .int .i64 i, .agg #[.int .i64 y.f0, .int .i64 y.f1, .string y.f2]] w fun e w' => e = .returned (.bool true) ∧ GP w' (Grow O w w') p (D.set x.f1.toNat (.arr (l ++ [y]))) ∧ Chg O w w' := by
  have hk := (h.keep (Q := No) (Chg.alloc No w (.cells #[.int .i64 x.f0, .int .i64 x.f1, .string x.f2] 23)) (fun _ _ _ hn => hn)).keep (Q := No) (Chg.alloc No _ (.cells #[.int .i64 y.f0, .int .i64 y.f1, .string y.f2] 23)) (fun _ _ _ hn => hn)
  have HI := Aside0.mk (is_calls hk x false)
  rw [show isG D x false = true by unfold isG; simp [hl]] at HI
  have HH := Aside0.mk hk
  have HP0 := Aside0.mk h
  have HL := Aside0.mk hl
  have HB := Aside0.mk (below_alloc (below_alloc (Below.refl _ w) (.cells #[.int .i64 x.f0, .int .i64 x.f1, .string x.f2] 23)) (.cells #[.int .i64 y.f0, .int .i64 y.f1, .string y.f2] 23))
  clear h hl hk
  have BX := Aside0.mk (new1 w (.cells #[.int .i64 x.f0, .int .i64 x.f1, .string x.f2] 23) (.cells #[.int .i64 y.f0, .int .i64 y.f1, .string y.f2] 23))
  have BY := Aside0.mk (new2 w (.cells #[.int .i64 x.f0, .int .i64 x.f1, .string x.f2] 23) (.cells #[.int .i64 y.f0, .int .i64 y.f1, .string y.f2] 23))
  have h1 : 0 ≤ i := by omega
  have d1 : decide (i < 0) = false := by simp; omega
  have d2 : decide ((l.length : Int) < i) = false := by simp; omega
  have d3 : (i == (l.length : Int)) = true := by simp [h0]
  clear h0
  go_enter Tryd.func83, Tryd.ntmps83
  go_wp2_with (go_at_call 80; refine hold_ ?_)
  unfold Held
  refine (HI.out).mono ?_
  rintro e w1 ⟨rfl, hb⟩
  have nX := Aside0.mk (blk_below BX.out hb)
  have nY := Aside0.mk (blk_below BY.out hb)
  have nH := Aside0.mk (HH.out.keep (Q := No) (Chg.of_below hb) (fun _ _ _ hn => hn))
  have nB := Aside0.mk (below_step HB.out hb)
  clear HH HB BX BY hb
  have HH := nH
  have HB := nB
  have BX := nX
  have BY := nY
  clear nH nB nX nY
  obtain ⟨⟨b0, b1, b2⟩, f0, f1, f2⟩ := box3 BX.out
  obtain ⟨⟨y0, y1, y2⟩, _, _, _⟩ := box3 BY.out
  go_wp2_with (go_at_call 57; refine hold_ ?_)
  unfold Held
  refine (glen_some HH.out HL.out).mono ?_
  rintro e w2 ⟨rfl, hb⟩
  have nX := Aside0.mk (blk_below BX.out hb)
  have nY := Aside0.mk (blk_below BY.out hb)
  have nH := Aside0.mk (HH.out.keep (Q := No) (Chg.of_below hb) (fun _ _ _ hn => hn))
  have nB := Aside0.mk (below_step HB.out hb)
  clear HH HB BX BY hb
  have HH := nH
  have HB := nB
  have BX := nX
  have BY := nY
  clear nH nB nX nY
  obtain ⟨⟨b0, b1, b2⟩, f0, f1, f2⟩ := box3 BX.out
  obtain ⟨⟨y0, y1, y2⟩, _, _, _⟩ := box3 BY.out
  go_wp2_with (go_at_call 57; refine hold_ ?_)
  unfold Held
  refine (glen_some HH.out HL.out).mono ?_
  rintro e w3 ⟨rfl, hb⟩
  have nX := Aside0.mk (blk_below BX.out hb)
  have nY := Aside0.mk (blk_below BY.out hb)
  have nH := Aside0.mk (HH.out.keep (Q := No) (Chg.of_below hb) (fun _ _ _ hn => hn))
  have nB := Aside0.mk (below_step HB.out hb)
  clear HH HB BX BY hb
  have HH := nH
  have HB := nB
  have BX := nX
  have BY := nY
  clear nH nB nX nY
  obtain ⟨⟨b0, b1, b2⟩, f0, f1, f2⟩ := box3 BX.out
  obtain ⟨⟨y0, y1, y2⟩, _, _, _⟩ := box3 BY.out
  go_wp2_with (go_at_call 84; refine hold_ ?_)
  unfold Held
  refine (gpush_some HH.out HL.out y hR).mono ?_
  rintro e w4 ⟨rfl, hg, hc⟩
  have HG := Aside0.mk (And.intro hg hc)
  clear hg hc
  go_wp2
  go_ret
  refine ⟨rfl, ?_⟩
  exact GP.behind HB.out HG.out.1 HG.out.2
set_option maxHeartbeats 2000000 in
set_option maxRecDepth 100000 in
theorem gput_in (h : GPw w O p v xs Os D) {x : S23} {l : List S23} (hl : arrAt D x = some l) (y : S23) (i : Int) (h0 : 0 ≤ i) (h1 : i < (l.length : Int)) :
    Calls Tryd.prog 83 #[.pointer (some ⟨p, 0, none⟩), .agg #[.int .i64 x.f0, .int .i64 x.f1, .string x.f2], .int .i64 i, .agg #[.int .i64 y.f0, .int .i64 y.f1, .string y.f2]] w fun e w' => e = .returned (.bool true) ∧ GP w' (Grow O w w') p (D.set x.f1.toNat (.arr (l.set i.toNat y))) ∧ Chg O w w' := by
  have hk := (h.keep (Q := No) (Chg.alloc No w (.cells #[.int .i64 x.f0, .int .i64 x.f1, .string x.f2] 23)) (fun _ _ _ hn => hn)).keep (Q := No) (Chg.alloc No _ (.cells #[.int .i64 y.f0, .int .i64 y.f1, .string y.f2] 23)) (fun _ _ _ hn => hn)
  have HI := Aside0.mk (is_calls hk x false)
  rw [show isG D x false = true by unfold isG; simp [hl]] at HI
  have HH := Aside0.mk hk
  have HP0 := Aside0.mk h
  have HL := Aside0.mk hl
  have HB := Aside0.mk (below_alloc (below_alloc (Below.refl _ w) (.cells #[.int .i64 x.f0, .int .i64 x.f1, .string x.f2] 23)) (.cells #[.int .i64 y.f0, .int .i64 y.f1, .string y.f2] 23))
  clear h hl hk
  have BX := Aside0.mk (new1 w (.cells #[.int .i64 x.f0, .int .i64 x.f1, .string x.f2] 23) (.cells #[.int .i64 y.f0, .int .i64 y.f1, .string y.f2] 23))
  have BY := Aside0.mk (new2 w (.cells #[.int .i64 x.f0, .int .i64 x.f1, .string x.f2] 23) (.cells #[.int .i64 y.f0, .int .i64 y.f1, .string y.f2] 23))
  have d1 : decide (i < 0) = false := by simp; omega
  have d2 : decide ((l.length : Int) < i) = false := by simp; omega
  have d3 : (i == (l.length : Int)) = false := by simp; omega
  have q2 := eq_true h0
  have q3 := eq_true h1
  have HI2 := Aside0.mk (And.intro h0 h1)
  go_enter Tryd.func83, Tryd.ntmps83
  go_wp2_with (go_at_call 80; refine hold_ ?_)
  unfold Held
  refine (HI.out).mono ?_
  rintro e w1 ⟨rfl, hb⟩
  have nX := Aside0.mk (blk_below BX.out hb)
  have nY := Aside0.mk (blk_below BY.out hb)
  have nH := Aside0.mk (HH.out.keep (Q := No) (Chg.of_below hb) (fun _ _ _ hn => hn))
  have nB := Aside0.mk (below_step HB.out hb)
  clear HH HB BX BY hb
  have HH := nH
  have HB := nB
  have BX := nX
  have BY := nY
  clear nH nB nX nY
  obtain ⟨⟨b0, b1, b2⟩, f0, f1, f2⟩ := box3 BX.out
  obtain ⟨⟨y0, y1, y2⟩, _, _, _⟩ := box3 BY.out
  go_wp2_with (go_at_call 57; refine hold_ ?_)
  unfold Held
  refine (glen_some HH.out HL.out).mono ?_
  rintro e w2 ⟨rfl, hb⟩
  have nX := Aside0.mk (blk_below BX.out hb)
  have nY := Aside0.mk (blk_below BY.out hb)
  have nH := Aside0.mk (HH.out.keep (Q := No) (Chg.of_below hb) (fun _ _ _ hn => hn))
  have nB := Aside0.mk (below_step HB.out hb)
  clear HH HB BX BY hb
  have HH := nH
  have HB := nB
  have BX := nX
  have BY := nY
  clear nH nB nX nY
  obtain ⟨⟨b0, b1, b2⟩, f0, f1, f2⟩ := box3 BX.out
  obtain ⟨⟨y0, y1, y2⟩, _, _, _⟩ := box3 BY.out
  go_wp2_with (go_at_call 57; refine hold_ ?_)
  unfold Held
  refine (glen_some HH.out HL.out).mono ?_
  rintro e w3 ⟨rfl, hb⟩
  have nX := Aside0.mk (blk_below BX.out hb)
  have nY := Aside0.mk (blk_below BY.out hb)
  have nH := Aside0.mk (HH.out.keep (Q := No) (Chg.of_below hb) (fun _ _ _ hn => hn))
  have nB := Aside0.mk (below_step HB.out hb)
  clear HH HB BX BY hb
  have HH := nH
  have HB := nB
  have BX := nX
  have BY := nY
  clear nH nB nX nY
  obtain ⟨⟨b0, b1, b2⟩, f0, f1, f2⟩ := box3 BX.out
  obtain ⟨⟨y0, y1, y2⟩, _, _, _⟩ := box3 BY.out
  go_wp2
  obtain ⟨hx0, hn0, hn1, hD⟩ := arrAt_some HL.out
  have HD := Aside0.mk (And.intro hn0 (And.intro hn1 hD))
  clear hx0
  obtain ⟨A, c, g, ev, eA, g0, g1, g2, g3, q1⟩ := HH.out.place x.f1 hn0 hn1
  obtain ⟨⟨bb, ⟨A0, n0, c0⟩, ⟨A1, n1, c1⟩⟩, er⟩ : ∃ r, r = xs.getD x.f1.toNat tg0 := ⟨_, rfl⟩
  have HT := Aside0.mk (HH.out.th _ _ hD)
  rw [← er] at g1 g2 g3 HT
  simp only [slV] at g2 g3
  have ER := Aside0.mk er
  have q0 := eq_true hn0
  have q1 := eq_true q1
  clear hn0 hn1 hD ev eA er
  obtain ⟨hbb, hr0, hr1⟩ := HT.out
  obtain ⟨gg, cp, e1, _, _, cl, hcl⟩ := Kd.R_form hr1 (by have := HI2.out; omega)
  have e1 : Value.slice A1 n1 c1 = _ := e1
  injection e1 with e1 e2 e3
  subst e1
  subst e2
  subst e3
  clear hcl hbb
  have HR := Aside0.mk (And.intro hr0 hr1)
  clear hr0 hr1
  go_still_tail 12, (by kernel_rfl)
  change wpList _ _ _ _ _ w3.drew
  obtain ⟨hr0, hr1⟩ := HR.out
  have hr1 : Kd.R k23 23 w3 0 _ (.slice (some ⟨gg, 0, none⟩) l.length _) l := hr1
  obtain ⟨cc, hcl, hM, hcc, hcf⟩ := Kd.R_elem hr1 z23 i HI2.out.1 HI2.out.2
  have hseg : cc.take 0 ++ [Value.int .i64 y.f0, .int .i64 y.f1, .string y.f2] ++ cc.drop (0 + [Value.int .i64 y.f0, .int .i64 y.f1, .string y.f2].length) = [Value.int .i64 y.f0, .int .i64 y.f1, .string y.f2] := by
    rw [List.drop_of_length_le (by rw [hcl]; exact Nat.le_refl _)]
    simp
  refine Kd.R_store k23 (w0 := w3.drew) 0 rfl rfl 23 (.tmp 44) (.tmp 43) rfl 23 i 0 l y (.agg #[.int .i64 y.f0, .int .i64 y.f1, .string y.f2]) [.int .i64 y.f0, .int .i64 y.f1, .string y.f2] cc (Os x.f1.toNat) (fun k => Os x.f1.toNat k ∧ k ≠ gg) (by rfl) rfl (by rfl) rfl (by kernel_rfl) (by simp [Value.oneCell']) (Kd.R_drew hr1) HI2.out.1 HI2.out.2 hcl hcc (Nat.le_refl _) (by rw [hseg]; exact k23_mkM _ _ _ y) (fun _ hk => hk) (Below.refl _ _) ?_
  intro w4 hrow1 _ hgrow
  go_wp2
  go_ret
  refine ⟨rfl, HP0.out.inplace (Chg.of_below (below_drew1 HB.out)) hgrow (hr1.1 gg rfl) ?_⟩
  rw [← ER.out]
  exact ⟨HT.out.1, Kd.R_mono (Kd.R_over (Kd.R_drew hr0) (Kd.R_drew hr1) (by decide) hgrow) (fun k hk => Or.inl hk), Kd.R_mono hrow1 (fun k hk => Or.inl hk)⟩
theorem gput_calls (h : GP w O p D) (x y : S23) (i : Int) (hR : Room D 100000000000) :
    Calls Tryd.prog 83 #[.pointer (some ⟨p, 0, none⟩), .agg #[.int .i64 x.f0, .int .i64 x.f1, .string x.f2], .int .i64 i, .agg #[.int .i64 y.f0, .int .i64 y.f1, .string y.f2]] w fun e w' => e = .returned (.bool (aPut D x i y).2) ∧ GP w' (Grow O w w') p (aPut D x i y).1 ∧ Chg O w w' := by
  obtain ⟨v, xs, Os, h⟩ := h
  unfold aPut
  cases hl : arrAt D x with
  | some l =>
    by_cases hi : 0 ≤ i ∧ i ≤ (l.length : Int)
    · simp only [if_pos hi]
      by_cases he : i = (l.length : Int)
      · simp only [if_pos he]
        exact gput_end h hl y i he (by have := hR.arr hl; omega)
      · simp only [if_neg he]
        exact gput_in h hl y i hi.1 (by omega)
    · simp only [if_neg hi]
      by_cases h0 : i < 0
      · exact (gput_low h hl y i h0).mono fun e w' ⟨he, hb⟩ => ⟨he, h.same hb⟩
      · exact (gput_high h hl y i (by omega) (by omega)).mono fun e w' ⟨he, hb⟩ => ⟨he, h.same hb⟩
  | none => exact (gput_none h hl y i).mono fun e w' ⟨he, hb⟩ => ⟨he, h.same hb⟩
end
end Go.Proofs.YtdheakalfleleaaDoor.Val
namespace Go.Proofs.YtdheakalfleleaaDoor.Val
open Go.RowKit Go.Proofs.YtdheakalfleleaaDoor.POper Go.Proofs.YtdheakalfleleaaDoorW.PrintWords Go.Proofs.YtdheakalfleleaaDoorW.PrintLast Go.Proofs.YtdheakalfleleaaDoorW.PrintMore
set_option linter.unusedVariables false
set_option linter.unusedSimpArgs false
theorem kvPut_first : ∀ (kv : List (ByteArray × S23)) (n : ByteArray) (y : S23) (i : Nat), i < kv.length → (∀ j : Nat, j < i → rdOf ByteArray.empty (kv.map Prod.fst) j ≠ n) → rdOf ByteArray.empty (kv.map Prod.fst) i = n → (kvPut kv n y).map Prod.fst = kv.map Prod.fst ∧ (kvPut kv n y).map Prod.snd = (kv.map Prod.snd).set i y
  | [], _, _, _, h, _, _ => absurd h (Nat.not_lt_zero _)
  | (k, z) :: r, n, y, 0, _, _, he => by
    have he : k = n := he
    unfold kvPut
    rw [if_pos he]
    exact ⟨rfl, rfl⟩
  | (k, z) :: r, n, y, i + 1, h, ha, he => by
    have h0 : k ≠ n := ha 0 (Nat.succ_pos _)
    unfold kvPut
    rw [if_neg h0]
    have := kvPut_first r n y i (by simpa using h) (fun j hj => ha (j + 1) (by omega)) he
    simp [this.1, this.2]
theorem kvPut_no : ∀ (kv : List (ByteArray × S23)) (n : ByteArray) (y : S23), (∀ j : Nat, j < kv.length → rdOf ByteArray.empty (kv.map Prod.fst) j ≠ n) → kvPut kv n y = kv ++ [(n, y)]
  | [], _, _, _ => rfl
  | (k, z) :: r, n, y, ha => by
    have h0 : k ≠ n := ha 0 (Nat.succ_pos _)
    unfold kvPut
    rw [if_neg h0, kvPut_no r n y (fun j hj => ha (j + 1) (by simpa using hj))]
    rfl
section
variable {w : World} {O : Nat → Prop} {p : Nat} {v : Value} {xs : List Tg} {Os : Nat → Nat → Prop} {D : List Th}
set_option maxHeartbeats 2000000 in
set_option maxRecDepth 100000 in
theorem gset_none (h : GPw w O p v xs Os D) {x : S23} (hl : objAt D x = none) (y : S23) (n : ByteArray) :
    Calls Tryd.prog 72 #[.pointer (some ⟨p, 0, none⟩), .agg #[.int .i64 x.f0, .int .i64 x.f1, .string x.f2], .string n, .agg #[.int .i64 y.f0, .int .i64 y.f1, .string y.f2]] w fun e w' => e = .returned (.bool false) ∧ Below w.heap.size w w' := by
  have HI := Aside0.mk (is_calls ((h.keep (Q := No) (Chg.alloc No w (.cells #[.int .i64 x.f0, .int .i64 x.f1, .string x.f2] 23)) (fun _ _ _ hn => hn)).keep (Q := No) (Chg.alloc No _ (.cells #[.int .i64 y.f0, .int .i64 y.f1, .string y.f2] 23)) (fun _ _ _ hn => hn)) x true)
  rw [show isG D x true = false by unfold isG; simp [hl]] at HI
  clear h hl
  go_enter Tryd.func72, Tryd.ntmps72
  go_wp2_with (go_at_call 80; refine HI.out.mono ?_; rintro e w' ⟨rfl, hb⟩; have HB := Aside0.mk hb; clear hb)
  go_ret
  exact ⟨rfl, below_step (below_alloc (below_alloc (Below.refl _ _) _) _) HB.out⟩
set_option maxHeartbeats 4000000 in
set_option maxRecDepth 100000 in
theorem gset_some (h : GPw w O p v xs Os D) {x : S23} {kv : List (ByteArray × S23)} (hl : objAt D x = some kv) (y : S23) (n : ByteArray) (hmax : kv.length < 1000000000000) :
    Calls Tryd.prog 72 #[.pointer (some ⟨p, 0, none⟩), .agg #[.int .i64 x.f0, .int .i64 x.f1, .string x.f2], .string n, .agg #[.int .i64 y.f0, .int .i64 y.f1, .string y.f2]] w fun e w' => e = .returned (.bool true) ∧ GP w' (Grow O w w') p (D.set x.f1.toNat (.obj (kvPut kv n y))) ∧ Chg O w w' := by
  have hk := (h.keep (Q := No) (Chg.alloc No w (.cells #[.int .i64 x.f0, .int .i64 x.f1, .string x.f2] 23)) (fun _ _ _ hn => hn)).keep (Q := No) (Chg.alloc No _ (.cells #[.int .i64 y.f0, .int .i64 y.f1, .string y.f2] 23)) (fun _ _ _ hn => hn)
  have HI := Aside0.mk (is_calls hk x true)
  rw [show isG D x true = true by unfold isG; simp [hl]] at HI
  obtain ⟨hx0, q0, hi, hD⟩ := objAt_some hl
  have HP0 := Aside0.mk h
  have HH := Aside0.mk hk
  have HD := Aside0.mk (And.intro q0 (And.intro hi hD))
  obtain ⟨⟨bb, ⟨A0, n0, c0⟩, ⟨A1, n1, c1⟩⟩, er⟩ : ∃ r, r = xs.getD x.f1.toNat tg0 := ⟨_, rfl⟩
  have HT := Aside0.mk (h.th _ _ hD)
  rw [← er] at HT
  have ER := Aside0.mk er
  clear h hl hk q0 hi hD er hx0
  have BX0 := Aside0.mk (new1 w (.cells #[.int .i64 x.f0, .int .i64 x.f1, .string x.f2] 23) (.cells #[.int .i64 y.f0, .int .i64 y.f1, .string y.f2] 23))
  have BY0 := Aside0.mk (new2 w (.cells #[.int .i64 x.f0, .int .i64 x.f1, .string x.f2] 23) (.cells #[.int .i64 y.f0, .int .i64 y.f1, .string y.f2] 23))
  go_enter Tryd.func72, Tryd.ntmps72
  go_wp2_with (go_at_call 80; refine hold_ ?_)
  unfold Held
  refine HI.out.mono ?_
  rintro e w' ⟨rfl, hb⟩
  have BX := Aside0.mk (blk_below BX0.out hb)
  have BY := Aside0.mk (blk_below BY0.out hb)
  obtain ⟨⟨b0, b1, b2⟩, _, _, _⟩ := box3 BX.out
  obtain ⟨A, c, g, ev, eA, g0, g1, g2, g3, q1⟩ := (HH.out.keep (Q := No) (Chg.of_below hb) (fun _ _ _ hn => hn)).place x.f1 HD.out.1 HD.out.2.1
  rw [← ER.out] at g1 g2 g3
  simp only [slV] at g2 g3
  have q0 := eq_true HD.out.1
  have q1 := eq_true q1
  have HB := Aside0.mk hb
  have EV := Aside0.mk ev
  have EA := Aside0.mk eA
  clear hb ev eA
  go_wp2
  refine start_ (n := 10) (S := fun w' => w'.cell? ⟨p, 0, none⟩ = some (.slice (some A) xs.length c) ∧ w'.cell? ⟨w.heap.size, 1, none⟩ = some (.int .i64 x.f1) ∧ w'.cell? (A.add (x.f1.toNat * 3)) = some (.bool bb) ∧ w'.cell? ⟨(A.add (x.f1.toNat * 3)).block, (A.add (x.f1.toNat * 3)).off + 1, none⟩ = some (.slice A0 n0 c0) ∧ w'.cell? ⟨(A.add (x.f1.toNat * 3)).block, (A.add (x.f1.toNat * 3)).off + 2, none⟩ = some (.slice A1 n1 c1)) (ds := [9]) #[false, false, false, false, false, false, false, false, false, false] (by kernel_rfl) rfl rfl ⟨g0, b1, g1, g2, g3⟩ (fun hHeld => ?_)
  refine pure_ (i := 0) (N := some 15) (v := ?_) (a' := ?_) #[true, false, false, false, false, false, false, false, false, false] rfl rfl (by kernel_rfl) (fun _ _ _ h => h) (Or.inl ⟨by rfl, ?_⟩) ?_ ?_
  rotate_left
  · intro w'
    go_simp
    with_reducible rfl
  rotate_left
  · simp only [Act.put, List.setIfInBounds_toArray, List.set_cons_zero, List.set_cons_succ, i64_w, i32_w]
    rfl
  refine pure_ (i := 1) (N := some 16) (v := ?_) (a' := ?_) #[true, true, false, false, false, false, false, false, false, false] rfl rfl (by kernel_rfl) (fun _ _ _ h => h) (Or.inl ⟨by rfl, ?_⟩) ?_ ?_
  rotate_left
  · intro w'
    go_simp
    with_reducible rfl
  rotate_left
  · simp only [Act.put, List.setIfInBounds_toArray, List.set_cons_zero, List.set_cons_succ, i64_w, i32_w]
    rfl
  refine pure_ (i := 2) (N := some 17) (v := ?_) (a' := ?_) #[true, true, true, false, false, false, false, false, false, false] rfl rfl (by kernel_rfl) (fun _ _ _ h => h) (Or.inl ⟨by rfl, ?_⟩) ?_ ?_
  rotate_left
  · intro w'
    go_simp
    with_reducible rfl
  rotate_left
  · simp only [Act.put, List.setIfInBounds_toArray, List.set_cons_zero, List.set_cons_succ, i64_w, i32_w]
    rfl
  refine pure_ (i := 4) (N := some 19) (v := ?_) (a' := ?_) #[true, true, true, false, true, false, false, false, false, false] rfl rfl (by kernel_rfl) (fun _ _ _ h => h) (Or.inl ⟨by rfl, ?_⟩) ?_ ?_
  rotate_left
  · intro w'
    go_simp
    with_reducible rfl
  rotate_left
  · simp only [Act.put, List.setIfInBounds_toArray, List.set_cons_zero, List.set_cons_succ, i64_w, i32_w]
    rfl
  refine take_ (i := 3) (N := some 18) (v := ?_) (a' := ?_) #[true, true, true, true, true, false, false, false, false, false] rfl rfl (by kernel_rfl) (fun _ _ _ h => h) (Or.inl ⟨by rfl, ?_⟩) hHeld ?_ ?_
  rotate_left
  · rintro w' ⟨s0, s1, s2, s3, s4⟩
    go_simp
    with_reducible rfl
  rotate_left
  · simp only [Act.put, List.setIfInBounds_toArray, List.set_cons_zero, List.set_cons_succ, i64_w, i32_w]
    rfl
  refine take_ (i := 5) (N := some 20) (v := ?_) (a' := ?_) #[true, true, true, true, true, true, false, false, false, false] rfl rfl (by kernel_rfl) (fun _ _ _ h => h) (Or.inl ⟨by rfl, ?_⟩) hHeld ?_ ?_
  rotate_left
  · rintro w' ⟨s0, s1, s2, s3, s4⟩
    go_simp
    with_reducible rfl
  rotate_left
  · simp only [Act.put, List.setIfInBounds_toArray, List.set_cons_zero, List.set_cons_succ, i64_w, i32_w]
    rfl
  refine pure_ (i := 6) (N := some 21) (v := ?_) (a' := ?_) #[true, true, true, true, true, true, true, false, false, false] rfl rfl (by kernel_rfl) (fun _ _ _ h => h) (Or.inl ⟨by rfl, ?_⟩) ?_ ?_
  rotate_left
  · intro w'
    go_simp
    with_reducible rfl
  rotate_left
  · simp only [Act.put, List.setIfInBounds_toArray, List.set_cons_zero, List.set_cons_succ, i64_w, i32_w]
    rfl
  refine take_ (i := 7) (N := some 22) (v := ?_) (a' := ?_) #[true, true, true, true, true, true, true, true, false, false] rfl rfl (by kernel_rfl) (fun _ _ _ h => h) (Or.inl ⟨by rfl, ?_⟩) hHeld ?_ ?_
  rotate_left
  · rintro w' ⟨s0, s1, s2, s3, s4⟩
    go_simp
    with_reducible rfl
  rotate_left
  · simp only [Act.put, List.setIfInBounds_toArray, List.set_cons_zero, List.set_cons_succ, i64_w, i32_w]
    rfl
  refine one_ (i := 8) (N := some 9) #[true, true, true, true, true, true, true, true, true, false] rfl rfl (by kernel_rfl) (by decide) (fun K hK => ?_)
  refine value_ (w1 := ?_) (v := ?_) (by rfl) rfl ?_ ?_
  rotate_left 2
  · go_simp
    constructor
    · rfl
    · rfl
  refine hK.out _ _ ⟨cell_alloc hHeld.1 _, cell_alloc hHeld.2.1 _, cell_alloc hHeld.2.2.1 _, cell_alloc hHeld.2.2.2.1 _, cell_alloc hHeld.2.2.2.2 _⟩ (fun hHeld => ?_)
  clear hK K
  refine norm_ (a' := ?_) ?_ ?_
  rotate_left
  · show Act.put _ (some 9) _ = _
    simp only [Act.put, List.setIfInBounds_toArray, List.set_cons_zero, List.set_cons_succ, i64_w, i32_w]
    rfl
  refine last_ (i := 9) (N := none) #[true, true, true, true, true, true, true, true, true, true] rfl rfl (by kernel_rfl) (by decide) (fun K hK => ?_)
  refine skip_ (w1 := ?_) (by rfl) rfl ?_ ?_
  rotate_left
  · go_simp
    rfl
  refine hK.out _ _ ?_
  clear hK K
  refine done_ (by kernel_rfl) ?_
  clear hHeld
  clear hHeld
  have c1w : Chg No w (w'.alloc (.cells #[.bool bb, .slice A0 n0 c0, .slice A1 n1 c1] 98)).drew := Chg.of_below (below_drew1 (below_alloc (below_step (below_alloc (below_alloc (Below.refl _ _) _) _) HB.out) _))
  have bT := blk_drew (heap_alloc_new w' (.cells #[.bool bb, .slice A0 n0 c0, .slice A1 n1 c1] 98))
  have bX := blk_drew (blk_alloc BX.out (.cells #[.bool bb, .slice A0 n0 c0, .slice A1 n1 c1] 98))
  have bY := blk_drew (blk_alloc BY.out (.cells #[.bool bb, .slice A0 n0 c0, .slice A1 n1 c1] 98))
  have hT : w.heap.size ≤ w'.heap.size ∧ w.heap.size + 1 < w'.heap.size := ⟨by have := blk_lt BY.out; omega, blk_lt BY.out⟩
  generalize hW : (w'.alloc (.cells #[.bool bb, .slice A0 n0 c0, .slice A1 n1 c1] 98)).drew = W at bT bX bY c1w
  generalize w'.heap.size = T at bT hT
  clear g0 g1 g2 g3 b0 b1 b2 hW BX BY HB HI HH BX0 BY0
  have C1 := Aside0.mk c1w
  have BT := Aside0.mk bT
  have BX := Aside0.mk bX
  have BY := Aside0.mk bY
  obtain ⟨⟨t0, t1, t2⟩, _, _, _⟩ := box3 bT
  obtain ⟨⟨x0, x1, x2⟩, _, _, _⟩ := box3 bX
  obtain ⟨⟨y0, y1, y2⟩, _, _, _⟩ := box3 bY
  obtain ⟨hbb, hr0, hr1⟩ := HT.out
  have hbb : bb = true := hbb
  have hr0 : Kd.string.R 9 w 0 (Os x.f1.toNat) (.slice A0 n0 c0) (kv.map Prod.fst) := hr0
  have hr1 : k23.R 23 w 0 (Os x.f1.toNat) (.slice A1 n1 c1) (kv.map Prod.snd) := hr1
  have hn0 : n0 = kv.length := by rw [(Kd.R_reads' hr0).1, List.length_map]
  have hn1 : n1 = kv.length := by rw [(Kd.R_reads' hr1).1, List.length_map]
  subst hn0
  subst hn1
  have HLT : Aside0 (∀ k, (Value.slice A0 kv.length c0).ownBlock = some k ∨ (Value.slice A1 kv.length c1).ownBlock = some k → Os x.f1.toNat k ∧ k < w.heap.size) := ⟨fun k hk => by
    rcases hk with hk | hk
    · exact ⟨hr0.1 k hk, Kd.R_lt hr0 k hk⟩
    · exact ⟨hr1.1 k hk, Kd.R_lt hr1 k hk⟩⟩
  have HR := Aside0.mk (And.intro (Kd.R_step hr0 (w1 := W) (fun k _ hlt => C1.out.block k hlt (fun h => h))) (Kd.R_step hr1 (w1 := W) (fun k _ hlt => C1.out.block k hlt (fun h => h))))
  clear hr0 hr1 bT bX bY c1w
  obtain ⟨A', c', g', ev, eA, g0, g1, g2, g3, _⟩ := (HP0.out.keep C1.out (fun _ _ _ hn => hn)).place x.f1 HD.out.1 HD.out.2.1
  rw [← ER.out] at g1 g2 g3
  simp only [slV] at g2 g3
  obtain ⟨eA2, eC2⟩ : A' = A ∧ c' = c := by
    have h_ := ev.symm.trans EV.out
    injection h_ with h1 h2 h3
    exact ⟨Option.some.inj h1, h3⟩
  subst eA2
  subst eC2
  clear ev eA
  go_wp2
  all_goals
    go_loopw [10] (fun v10 wr => ∃ i : Nat, v10 = .int .i64 i ∧ i ≤ kv.length ∧ wr = W ∧ (∀ j : Nat, j < i → rdOf ByteArray.empty (kv.map Prod.fst) j ≠ n)) (fun v10 _ => kv.length - (intOf v10).toNat)
    case atStart => exact ⟨0, rfl, Nat.zero_le _, rfl, fun j h => absurd h (Nat.not_lt_zero j)⟩
    case round =>
      obtain ⟨i, rfl, hi, rfl, hall⟩ := hrel
      have HA := Aside0.mk hall
      clear hall
      by_cases hlt : i < kv.length
      · have d1 : decide ((i : Int) < (kv.length : Int)) = true := by simp; omega
        have hm : kv.length ≤ 9223372036854775807 := by omega
        by_cases he : rdOf ByteArray.empty (kv.map Prod.fst) i = n
        · have d2 : ((rdOf ByteArray.empty (kv.map Prod.fst) i).toList == n.toList) = true := beq_of he
          obtain ⟨ad, eA, hx⟩ := Kd.at_string (Kd.R_reads' HR.out.1).2.2 (i : Int) (by omega) (by simp; omega)
          simp only [Int.toNat_natCast] at hx
          subst eA
          obtain ⟨gg, cp, e1, _, _, cl, hcl⟩ := Kd.R_form HR.out.2 (by simp; omega)
          injection e1 with e1 e2 e3
          subst e1
          subst e3
          clear e2 hcl
          have HE := Aside0.mk he
          clear he
          go_wp2
          go_still_tail 12, (by kernel_rfl)
          change wpList _ _ _ _ _ wr.drew
          have hr1 := HR.out.2
          have hil : (i : Int) < ((kv.length : Nat) : Int) := by omega
          obtain ⟨cc, hcl, hM, hcc, hcf⟩ := Kd.R_elem hr1 z23 (i : Int) (by omega) hil
          have hseg : cc.take 0 ++ [Value.int .i64 y.f0, .int .i64 y.f1, .string y.f2] ++ cc.drop (0 + [Value.int .i64 y.f0, .int .i64 y.f1, .string y.f2].length) = [Value.int .i64 y.f0, .int .i64 y.f1, .string y.f2] := by
            rw [List.drop_of_length_le (by rw [hcl]; exact Nat.le_refl _)]
            simp
          refine Kd.R_store k23 (w0 := wr.drew) 0 rfl rfl 23 (.tmp 48) (.tmp 47) rfl 23 (i : Int) 0 (kv.map Prod.snd) y (.agg #[.int .i64 y.f0, .int .i64 y.f1, .string y.f2]) [.int .i64 y.f0, .int .i64 y.f1, .string y.f2] cc (Os x.f1.toNat) (fun k => Os x.f1.toNat k ∧ k ≠ gg) (by rfl) rfl (by rfl) rfl (by kernel_rfl) (by simp [Value.oneCell']) (Kd.R_drew hr1) (by omega) hil hcl hcc (Nat.le_refl _) (by rw [hseg]; exact k23_mkM _ _ _ y) (fun _ hk => hk) (Below.refl _ _) ?_
          intro w4 hrow1 _ hgrow
          go_wp2
          go_ret
          have hk := kvPut_first kv n y i hlt HA.out HE.out
          refine ⟨rfl, HP0.out.inplace (n := x.f1.toNat) ((C1.out.trans (chg_drew No wr)).mono (fun k _ hq => hq.elim (fun h => h.elim) (fun h => h.1.elim))) hgrow (hr1.1 gg rfl) ?_⟩
          rw [← ER.out]
          refine ⟨HT.out.1, ?_, ?_⟩
          · rw [hk.1]
            exact Kd.R_mono (Kd.R_over (Kd.R_drew HR.out.1) (Kd.R_drew hr1) (by decide) hgrow) (fun k hk => Or.inl hk)
          · rw [hk.2]
            exact Kd.R_mono hrow1 (fun k hk => Or.inl hk)
        · have d2 : ((rdOf ByteArray.empty (kv.map Prod.fst) i).toList == n.toList) = false := beq_not he
          obtain ⟨ad, eA, hx⟩ := Kd.at_string (Kd.R_reads' HR.out.1).2.2 (i : Int) (by omega) (by simp; omega)
          simp only [Int.toNat_natCast] at hx
          subst eA
          have HE := Aside0.mk he
          clear he
          go_wp2
          go_roundw
          case rel => exact ⟨i + 1, by go_num, by omega, trivial, fun j hj => by
              by_cases e : j = i
              · subst e; exact HE.out
              · exact HA.out j (by omega)⟩
          case measure => simp [intOf]; omega
      · have d1 : decide ((i : Int) < (kv.length : Int)) = false := by simp; omega
        have HK := Aside0.mk (kvPut_no kv n y (fun j hj => HA.out j (by omega)))
        clear HA
        go_wp2_with (first | (at_builtin; refine hold_ ?_))
        unfold Held
        have RN := Aside0.mk (Kd.R_mono HR.out.1 (ok' := (fun k => Os x.f1.toNat k ∨ w.heap.size ≤ k)) (fun k hk => Or.inl hk))
        have RV := Aside0.mk (Kd.R_mono HR.out.2 (ok' := (fun k => Os x.f1.toNat k ∨ w.heap.size ≤ k)) (fun k hk => Or.inl hk))
        have CC := Aside0.mk (C1.out.mono (Q := Os x.f1.toNat) (fun k _ h => h.elim))
        clear HR t0 t1 t2 x0 x1 x2 y0 y1 y2 g0 g1 g2 g3 C1
        refine Kd.R_append_rows Kd.string (w0 := wr.alloc (.cells #[.string n] 9)) 0 rfl (.tmp 50) (.tmp 52) 72 9 (.string ⟨#[]⟩) 16 rfl Tryd.underlying72 info9 rfl (by decide) (by omega) (Value.slice A0 kv.length c0) (kv.map Prod.fst) [n] _ _ _ (fun k => Os x.f1.toNat k ∨ w.heap.size ≤ k) (fun _ => False) rfl rfl ?aO ?aR (fun _ _ h => h) (fun _ h => h.elim) ?aF ?aB (Nat.zero_le _) ?aL ?_
        (case aO => exact Kd.R_alloc RN.out _)
        (case aR => exact names_built wr [n] #[.string n] rfl (by simp))
        (case aF => exact fun k hk => Or.inr (by have := CC.out.size; simp at hk; omega))
        (case aB => exact ⟨rfl, rfl, rfl, Nat.le_refl _, fun k hk => absurd hk (Nat.not_lt_zero k)⟩)
        (case aL => simp; omega)
        intro v1 w1 hrow1 _ hgrow hat
        obtain ⟨A2, c2, ev1⟩ := Kd.R_slice hrow1
        have EN : (kv.map Prod.fst ++ [n]).length = kv.length + 1 := by simp
        rw [EN] at ev1
        subst ev1
        have hneB : ∀ k, w.heap.size ≤ k → some k ≠ (Value.slice A0 kv.length c0).ownBlock := fun k hk e => by have := (HLT.out k (Or.inl e.symm)).2; omega
        have bT := blk_grown (blk_alloc BT.out (.cells #[.string n] 9)) hgrow (hneB T hT.1)
        have bX := blk_grown (blk_alloc BX.out (.cells #[.string n] 9)) hgrow (hneB w.heap.size (Nat.le_refl _))
        have bY := blk_grown (blk_alloc BY.out (.cells #[.string n] 9)) hgrow (hneB (w.heap.size + 1) (Nat.le_succ _))
        have cC := ((CC.out.trans (Chg.alloc No wr (.cells #[.string n] 9))).trans (Chg.of_grown (O := fun k => some k = (Value.slice A0 kv.length c0).ownBlock) hgrow (fun k hk => hk.symm))).mono (Q := Os x.f1.toNat) (fun k _ hq => by
          rcases hq with (hq | hq) | hq
          · exact hq
          · exact hq.1.elim
          · exact (HLT.out k (Or.inl hq.1.symm)).1)
        have hro := Kd.R_over (Kd.R_alloc RV.out (.cells #[.string n] 9)) (Kd.R_alloc RN.out (.cells #[.string n] 9)) (by decide) hgrow
        have nC := Aside0.mk ((cC.trans (Chg.setCell (O := fun k => k = T) w1 ⟨T, 1, none⟩ (.slice A2 (kv.length + 1) c2) rfl)).mono (Q := Os x.f1.toNat) (fun k hk hq => by
          rcases hq with hq | hq
          · exact hq
          · have := hT.1; omega))
        have hne1 : w.heap.size ≠ T := by have := hT.1; have := hT.2; omega
        have hne2 : w.heap.size + 1 ≠ T := by have := hT.2; omega
        have nT := Aside0.mk (blk_put bT 1 (.slice A2 (kv.length + 1) c2) rfl)
        have nX := Aside0.mk (blk_far (p := ⟨T, 1, none⟩) bX hne1 (.slice A2 (kv.length + 1) c2))
        have nY := Aside0.mk (blk_far (p := ⟨T, 1, none⟩) bY hne2 (.slice A2 (kv.length + 1) c2))
        have n1 := Aside0.mk (Kd.R_set hrow1 bT (by decide) 1 (.slice A2 (kv.length + 1) c2))
        have n0 := Aside0.mk (Kd.R_set hro bT (by decide) 1 (.slice A2 (kv.length + 1) c2))
        have fT := blk_frozen bT 1
        have cT := (blk_cell bT 1).trans rfl
        clear CC BT BX BY RN RV bT bX bY cC hro hrow1 hgrow hat hneB EN
        have CC := nC
        have BT := nT
        have BX := nX
        have BY := nY
        have RN := n1
        have RV := n0
        clear nC nT nX nY n0 n1
        obtain ⟨⟨t0, t1, t2⟩, _, _, _⟩ := box3 BT.out
        obtain ⟨⟨y0, y1, y2⟩, _, _, _⟩ := box3 BY.out
        go_wp2_with (first | (at_builtin; refine hold_ ?_))
        unfold Held
        clear t0 t1 t2 y0 y1 y2 fT cT
        have hsz : (w1.setCell ⟨T, 1, none⟩ (.slice A2 (kv.length + 1) c2)).heap.size = w1.heap.size := by simp [World.setCell]
        generalize w1.setCell ⟨T, 1, none⟩ (.slice A2 (kv.length + 1) c2) = Wb at *
        refine Kd.R_append_rows k23 (w0 := Wb.alloc (.cells #[.int .i64 y.f0, .int .i64 y.f1, .string y.f2] 23)) 0 rfl (.tmp 56) (.tmp 58) 64 23 (.agg #[(.int .i64 0), (.int .i64 0), (.string ⟨#[]⟩)]) 32 rfl Tryd.underlying64 info32 rfl (by decide) (by omega) (Value.slice A1 kv.length c1) (kv.map Prod.snd) [y] _ _ _ (fun k => Os x.f1.toNat k ∨ w.heap.size ≤ k) (fun _ => False) rfl rfl ?aO ?aR (fun _ _ h => h) (fun _ h => h.elim) ?aF ?aB (Nat.zero_le _) ?aL ?_
        (case aO => exact Kd.R_alloc RV.out _)
        (case aR => exact by rw [← hsz]; exact row_built Wb [y] #[.int .i64 y.f0, .int .i64 y.f1, .string y.f2] rfl (by simp))
        (case aF => exact fun k hk => Or.inr (by have := CC.out.size; simp at hk; omega))
        (case aB => exact ⟨rfl, rfl, rfl, Nat.le_refl _, fun k hk => absurd hk (Nat.not_lt_zero k)⟩)
        (case aL => simp; omega)
        intro v1 w2 hrow1 _ hgrow hat
        obtain ⟨A3, c3, ev1⟩ := Kd.R_slice hrow1
        have EN : (kv.map Prod.snd ++ [y]).length = kv.length + 1 := by simp
        rw [EN] at ev1
        subst ev1
        have hneB : ∀ k, w.heap.size ≤ k → some k ≠ (Value.slice A1 kv.length c1).ownBlock := fun k hk e => by have := (HLT.out k (Or.inr e.symm)).2; omega
        have bT := blk_grown (blk_alloc BT.out (.cells #[.int .i64 y.f0, .int .i64 y.f1, .string y.f2] 23)) hgrow (hneB T hT.1)
        have bX := blk_grown (blk_alloc BX.out (.cells #[.int .i64 y.f0, .int .i64 y.f1, .string y.f2] 23)) hgrow (hneB w.heap.size (Nat.le_refl _))
        have bY := blk_grown (blk_alloc BY.out (.cells #[.int .i64 y.f0, .int .i64 y.f1, .string y.f2] 23)) hgrow (hneB (w.heap.size + 1) (Nat.le_succ _))
        have cC := ((CC.out.trans (Chg.alloc No Wb (.cells #[.int .i64 y.f0, .int .i64 y.f1, .string y.f2] 23))).trans (Chg.of_grown (O := fun k => some k = (Value.slice A1 kv.length c1).ownBlock) hgrow (fun k hk => hk.symm))).mono (Q := Os x.f1.toNat) (fun k _ hq => by
          rcases hq with (hq | hq) | hq
          · exact hq
          · exact hq.1.elim
          · exact (HLT.out k (Or.inr hq.1.symm)).1)
        have hro := Kd.R_over (Kd.R_alloc RN.out (.cells #[.int .i64 y.f0, .int .i64 y.f1, .string y.f2] 23)) (Kd.R_alloc RV.out (.cells #[.int .i64 y.f0, .int .i64 y.f1, .string y.f2] 23)) (by decide) hgrow
        have nC := Aside0.mk ((cC.trans (Chg.setCell (O := fun k => k = T) w2 ⟨T, 2, none⟩ (.slice A3 (kv.length + 1) c3) rfl)).mono (Q := Os x.f1.toNat) (fun k hk hq => by
          rcases hq with hq | hq
          · exact hq
          · have := hT.1; omega))
        have hne1 : w.heap.size ≠ T := by have := hT.1; have := hT.2; omega
        have hne2 : w.heap.size + 1 ≠ T := by have := hT.2; omega
        have nT := Aside0.mk (blk_put bT 2 (.slice A3 (kv.length + 1) c3) rfl)
        have nX := Aside0.mk (blk_far (p := ⟨T, 2, none⟩) bX hne1 (.slice A3 (kv.length + 1) c3))
        have nY := Aside0.mk (blk_far (p := ⟨T, 2, none⟩) bY hne2 (.slice A3 (kv.length + 1) c3))
        have n1 := Aside0.mk (Kd.R_set hrow1 bT (by decide) 2 (.slice A3 (kv.length + 1) c3))
        have n0 := Aside0.mk (Kd.R_set hro bT (by decide) 2 (.slice A3 (kv.length + 1) c3))
        have fT := blk_frozen bT 2
        have cT := (blk_cell bT 2).trans rfl
        clear CC BT BX BY RV RN bT bX bY cC hro hrow1 hgrow hat hneB EN
        have CC := nC
        have BT := nT
        have BX := nX
        have BY := nY
        have RV := n1
        have RN := n0
        clear nC nT nX nY n0 n1
        clear hne1 hne2
        go_wp2
        clear fT cT
        have hA := EA.out
        subst hA
        generalize w2.setCell ⟨T, 2, none⟩ (.slice A3 (kv.length + 1) c3) = Wa at *
        have hv := EV.out
        have hRow := HP0.out.rowAt CC.out
        have bP := CC.out.blk HP0.out.hdr (HP0.out.nop _)
        rw [hv] at bP
        have gp : Wa.cell? ⟨p, 0, none⟩ = some (.slice (some ⟨g, 0, none⟩) xs.length c') := (blk_cell bP 0).trans rfl
        obtain ⟨⟨t0, t1, t2⟩, _, _, _⟩ := box3 BT.out
        obtain ⟨⟨_, b1, _⟩, _, _, _⟩ := box3 BX.out
        have HW := Aside0.mk hRow
        clear hRow bP
        go_still_tail 8, (by kernel_rfl)
        change wpList _ _ _ _ _ Wa.drew
        have hRow2 := HW.out
        rw [hv] at hRow2
        have hxl : x.f1 < (xs.length : Int) := by have := HD.out.2.1; have := HP0.out.len; omega
        obtain ⟨cc, hcl, hM, hcc, hcf⟩ := Kd.R_elem hRow2 tg0 x.f1 HD.out.1 hxl
        have hseg : cc.take 0 ++ [Value.bool true, .slice A2 (kv.length + 1) c2, .slice A3 (kv.length + 1) c3] ++ cc.drop (0 + [Value.bool true, .slice A2 (kv.length + 1) c2, .slice A3 (kv.length + 1) c3].length) = [Value.bool true, .slice A2 (kv.length + 1) c2, .slice A3 (kv.length + 1) c3] := by
          rw [List.drop_of_length_le (by rw [hcl]; exact Nat.le_refl _)]
          simp
        refine Kd.R_store kTg (w0 := Wa.drew) 0 rfl rfl 98 (.tmp 68) (.tmp 67) rfl 98 x.f1 0 xs (true, (A2, kv.length + 1, c2), (A3, kv.length + 1, c3)) (.agg #[.bool true, .slice A2 (kv.length + 1) c2, .slice A3 (kv.length + 1) c3]) [.bool true, .slice A2 (kv.length + 1) c2, .slice A3 (kv.length + 1) c3] cc (fun k => O k ∧ k < w.heap.size) (fun k => (O k ∧ k < w.heap.size) ∧ k ≠ g) (by rfl) rfl (by rfl) rfl (by kernel_rfl) (by simp [Value.oneCell']) (Kd.R_drew hRow2) HD.out.1 hxl hcl hcc (Nat.le_refl _) (by rw [hseg]; exact kTg_mk _ _ _ _) (fun _ hk => hk) (Below.refl _ _) ?_
        intro w4 hrow2 _ hgrow
        rw [← hv] at hrow2
        go_wp2
        go_ret
        refine ⟨rfl, HP0.out.stored ((CC.out.trans (chg_drew No Wa)).mono (fun k _ hq => hq.elim id (fun h => h.1.elim))) (by rw [hv]; rfl) (by have := HD.out.2.1; have := HD.out.1; omega) ?_ hrow2 hgrow⟩
        rw [HK.out]
        refine ⟨rfl, ?_, ?_⟩
        · rw [List.map_append]
          exact Kd.R_drew RN.out
        · rw [List.map_append]
          exact Kd.R_drew RV.out
theorem gset_calls (h : GP w O p D) (x y : S23) (n : ByteArray) (hR : Room D 100000000000) :
    Calls Tryd.prog 72 #[.pointer (some ⟨p, 0, none⟩), .agg #[.int .i64 x.f0, .int .i64 x.f1, .string x.f2], .string n, .agg #[.int .i64 y.f0, .int .i64 y.f1, .string y.f2]] w fun e w' => e = .returned (.bool (oSet D x n y).2) ∧ GP w' (Grow O w w') p (oSet D x n y).1 ∧ Chg O w w' := by
  obtain ⟨v, xs, Os, h⟩ := h
  unfold oSet
  cases hl : objAt D x with
  | some kv => exact gset_some h hl y n (by have := hR.2 _ (List.mem_of_getElem? (objAt_some hl).2.2.2); simp only at this; omega)
  | none => exact (gset_none h hl y n).mono fun e w' ⟨he, hb⟩ => ⟨he, h.same hb⟩
end
end Go.Proofs.YtdheakalfleleaaDoor.Val
