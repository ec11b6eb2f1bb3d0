/- Contracts of what makes a heap's things: Array. -/
import Derived.Test.YtjbolkkbehfnmaaDoorVJ
namespace Go.Proofs.YtjbolkkbehfnmaaDoor.Val
open Go.RowKit Go.Proofs.YtjbolkkbehfnmaaDoor.PVal Go.Proofs.YtjbolkkbehfnmaaDoorW.PrintWords Go.Proofs.YtjbolkkbehfnmaaDoorW.PrintLast Go.Proofs.YtjbolkkbehfnmaaDoorW.PrintMore
set_option linter.unusedVariables false
set_option linter.unusedSimpArgs false
section
variable {w : World} {O : Nat → Prop} {p : Nat} {v : Value} {xs : List (Bool × Nat)} {Os : Nat → Nat → Prop} {D : List Th}
/-- The heap in a world behind, its own blocks bounded by where it was known. -/
theorem HPw.at (h : HPw w O p v xs Os D) {W : World} (hb : Below w.heap.size w W) : HPw W (fun k => O k ∧ k < w.heap.size) p v xs Os D :=
  (h.mono (fun k hk hlt => ⟨hk, hlt⟩)).keep (Q := No) (Chg.of_below hb) (fun _ _ _ hn => hn)
/-- A thing is made in a world behind w, in blocks that are new, and added; g: a block of the call's own. -/
theorem HPw.made (h : HPw w O p v xs Os D) {W : World} (hb : Below w.heap.size w W) {x : Bool × Nat} {t : Th} {g : Nat} {o : Obj} (hg : w.heap.size ≤ g) (hgo : W.heap[g]? = some o) (ht : PT W (fun k => w.heap.size ≤ k ∧ k ≠ g) x t) (kind : Int) (hlen : D.length < 1000000000000) :
    Calls Tryd.prog 34 #[.pointer (some ⟨p, 0, none⟩), .int .i64 kind, thEnc x] W fun e w' => e = .returned (enc ⟨kind, D.length, ⟨#[]⟩⟩) ∧ HP w' (fun k => Grow O w w' k ∧ k ≠ g) p (D ++ [t]) ∧ Chg O w w' ∧ w'.heap[g]? = some o := by
  have hgl := (Array.getElem?_eq_some_iff.1 hgo).1
  refine (add_calls (h.at hb) kind (ht.mono (Q := fun k => (w.heap.size ≤ k ∧ k ≠ g) ∧ k < W.heap.size) (fun k hk hlt => ⟨hk, hlt⟩)) (fun k hk => ⟨hk.2, fun ho => by have := ho.2; omega⟩) hlen).mono ?_
  rintro e w' ⟨rfl, hp, hc⟩
  have hs := hc.size
  have hs0 := hb.size
  refine ⟨rfl, hp.mono (fun k hk hlt => ?_), ((Chg.of_below (O := No) hb).trans hc).mono (fun k _ hq => ?_), hc.blk hgo (fun hk => by omega)⟩
  · rcases hk with hk | hk | hk
    · exact ⟨Or.inr ⟨hk.1.1, by omega⟩, hk.1.2⟩
    · exact ⟨Or.inl hk.1, by omega⟩
    · exact ⟨Or.inr ⟨by omega, hk.2⟩, by omega⟩
  · rcases hq with hq | hq
    · exact hq.elim
    · exact hq.1.1
/-- The result laid into its box, a block of the call's own. -/
theorem store_box {W : World} {u0 u1 u2 : Value} {D' : List Th} (hp : HP W (fun k => Grow O w W k ∧ k ≠ w.heap.size) p D') (hc : Chg O w W) :
    HP (((W.setCell ⟨w.heap.size, 0, none⟩ u0).setCell ⟨w.heap.size, 1, none⟩ u1).setCell ⟨w.heap.size, 2, none⟩ u2) (Grow O w (((W.setCell ⟨w.heap.size, 0, none⟩ u0).setCell ⟨w.heap.size, 1, none⟩ u1).setCell ⟨w.heap.size, 2, none⟩ u2)) p D' ∧ Chg O w (((W.setCell ⟨w.heap.size, 0, none⟩ u0).setCell ⟨w.heap.size, 1, none⟩ u1).setCell ⟨w.heap.size, 2, none⟩ u2) := by
  have c3 : Chg (fun k => k = w.heap.size) W (((W.setCell ⟨w.heap.size, 0, none⟩ u0).setCell ⟨w.heap.size, 1, none⟩ u1).setCell ⟨w.heap.size, 2, none⟩ u2) :=
    (((Chg.setCell (O := fun k => k = w.heap.size) W ⟨w.heap.size, 0, none⟩ u0 rfl).trans (Chg.setCell (O := fun k => k = w.heap.size) _ ⟨w.heap.size, 1, none⟩ u1 rfl)).trans (Chg.setCell (O := fun k => k = w.heap.size) _ ⟨w.heap.size, 2, none⟩ u2 rfl)).mono (fun k _ hq => by
      rcases hq with (hq | hq) | hq
      · exact hq
      · exact hq.1
      · exact hq.1)
  have hs := c3.size
  refine ⟨(hp.keep c3 (fun k hk _ e => hk.2 e)).mono (fun k hk _ => ?_), (hc.trans c3).mono (fun k hlt hq => ?_)⟩
  · rcases hk.1 with h1 | h1
    · exact Or.inl h1
    · exact Or.inr ⟨h1.1, by omega⟩
  · rcases hq with hq | hq
    · exact hq
    · omega
set_option maxHeartbeats 2000000 in
set_option maxRecDepth 100000 in
theorem mkarr_calls (h : HP w O p D) {A : Option Addr} {c : Nat} {l : List S32} (hC : k32.C w A l.length l) (hc : l.length ≤ c) (hmax : l.length < 1000000000000) (hlen : D.length < 1000000000000) :
    Calls Tryd.prog 12 #[.pointer (some ⟨p, 0, none⟩), .slice A l.length c] w fun e w' => e = .returned (enc ⟨5, D.length, ⟨#[]⟩⟩) ∧ HP w' (Grow O w w') p (D ++ [.arr l]) ∧ Chg O w w' := by
  obtain ⟨v, xs, Os, h⟩ := h
  have HH := Aside0.mk h
  clear h
  have HL := Aside0.mk (clone_calls (w.alloc (.cells #[.int .i64 0, .int .i64 0, .string ⟨#[]⟩] 32)) A c l (Kd.C_alloc hC _) hc hmax)
  have HD := Aside0.mk hlen
  clear hC hc hmax hlen
  go_enter Tryd.func12, Tryd.ntmps12
  go_wp2_with (first
    | (go_at_call 35; refine HL.out.mono ?_; rintro e w1 ⟨v1, rfl, hr1, hb1⟩; obtain ⟨A1, c1, ev1⟩ := Kd.R_slice hr1; subst ev1; have HR1 := Aside0.mk hr1; have HB1 := Aside0.mk hb1; clear hr1 hb1)
    | (go_at_call 34; have hW2 : Below w.heap.size w (w1.alloc (.cells #[.slice A1 l.length c1] 65)) := below_alloc (below_step (below_alloc (Below.refl _ _) _) HB1.out) _; have hsz := HB1.out.size; simp at hsz; have hP : PT (w1.alloc (.cells #[.slice A1 l.length c1] 65)) (fun k => w.heap.size ≤ k ∧ k ≠ w.heap.size) (false, w1.heap.size) (.arr l) := ⟨rfl, ⟨by simp; omega, by simp; omega⟩, _, heap_alloc_new _ _, Kd.R_alloc (Kd.R_mono (Kd.R_lower (Kd.R_bound HR1.out) (Nat.zero_le _)) (fun k hk => by have := hk.2.1; simp at this; exact ⟨by omega, by omega⟩)) _⟩; have hbox := blk_alloc (blk_below (heap_alloc_new w (.cells #[.int .i64 0, .int .i64 0, .string ⟨#[]⟩] 32)) HB1.out) (.cells #[.slice A1 l.length c1] 65); refine (HH.out.made hW2 (Nat.le_refl _) hbox hP 5 HD.out).mono ?_; clear hW2 hsz hP hbox; rintro e w3 ⟨rfl, hp3, hc3, hb3⟩; unfold enc; obtain ⟨⟨b0, b1, b2⟩, f0, f1, f2⟩ := box3 hb3; have HE := Aside0.mk (And.intro hp3 (And.intro hc3 hb3)); clear hp3 hc3 hb3))
  obtain ⟨hp3, hc3, hb3⟩ := HE.out
  refine bodyPost_ret (results_cell_row rfl _ _ w.heap.size 32 #[.int .i64 5, .int .i64 D.length, .string ⟨#[]⟩] (0, 0) _ rfl (put3 hb3) Tryd.underlying32 rfl (by kernel_rfl)) rfl ⟨rfl, ?_⟩
  exact store_box hp3 hc3
end
end Go.Proofs.YtjbolkkbehfnmaaDoor.Val
