/- HF, as this claim needs it. -/
import Derived.Test.YtdheakalfleleaaDoorHEq
import Derived.Test.YtdheakalfleleaaDoorPOperx1q
import Derived.Test.YtdheakalfleleaaDoorPOperx2q
import Derived.Test.YtdheakalfleleaaDoorPOperx11q
import Derived.Test.YtdheakalfleleaaDoorPOperx12q
import Derived.Test.YtdheakalfleleaaDoorPOperx10q
namespace Go.Proofs.YtdheakalfleleaaDoor.Val
open Go.RowKit Go.Proofs.YtdheakalfleleaaDoor.POper Go.Proofs.YtdheakalfleleaaDoorW.PrintWords Go.Proofs.YtdheakalfleleaaDoorW.PrintLast Go.Proofs.YtdheakalfleleaaDoorW.PrintMore
set_option linter.unusedVariables false
set_option linter.unusedSimpArgs false
structure Duo (w0 : World) (G L : Nat → Prop) (W1 : World) (p q : Nat) (W : World) (D D' : List Th) (O O' : Nat → Prop) : Prop where
  h : Has w0.heap.size W O p D
  g : HasG w0.heap.size W O' q D'
  dis : ∀ k, O k → ¬ O' k
  bel : Below w0.heap.size w0 W
  no : ∀ k, G k → ¬ O k ∧ ¬ O' k ∧ k < W.heap.size
  loc : ∀ k, L k → G k ∧ k < W1.heap.size ∧ W.heap[k]? = W1.heap[k]?
def Both (w0 : World) (G L : Nat → Prop) (W1 : World) (p q : Nat) (W : World) (D D' : List Th) : Prop := ∃ O O', Duo w0 G L W1 p q W D D' O O'
section
variable {w0 W1 W W' : World} {G L : Nat → Prop} {p q : Nat} {D D' D2 : List Th}
theorem Both.below (h : Both w0 G L W1 p q W D D') (hb : Below W.heap.size W W') : Both w0 G L W1 p q W' D D' := by
  obtain ⟨O, O', d⟩ := h
  have hs := hb.size
  exact ⟨O, O', d.h.below hb, d.g.below hb, d.dis, below_step d.bel hb, fun k hk => ⟨(d.no k hk).1, (d.no k hk).2.1, by have := (d.no k hk).2.2; omega⟩, fun k hk => ⟨(d.loc k hk).1, (d.loc k hk).2.1, (hb.block k (d.no k (d.loc k hk).1).2.2).trans (d.loc k hk).2.2⟩⟩
theorem Both.anew (h : Both w0 G L W1 p q W D D') {G2 L2 : Nat → Prop} (hG : ∀ k, G2 k → G k) (hL : ∀ k, L2 k → G2 k) : Both w0 G2 L2 W p q W D D' := by
  obtain ⟨O, O', d⟩ := h
  exact ⟨O, O', d.h, d.g, d.dis, d.bel, fun k hk => d.no k (hG k hk), fun k hk => ⟨hL k hk, (d.no k (hG k (hL k hk))).2.2, rfl⟩⟩
theorem Both.call1 (h : Both w0 G L W1 p q W D D') {P : Program} {f : FuncId} {args : Array Value} {E : Ending} (hc : ∀ O, Has w0.heap.size W O p D → Calls P f args W fun e w' => e = E ∧ ∃ O1, Has w0.heap.size w' O1 p D2 ∧ (∀ k, k < W.heap.size → ¬ O k → ¬ O1 k) ∧ Chg O W w') :
    Calls P f args W fun e w' => e = E ∧ Both w0 G L W1 p q w' D2 D' := by
  obtain ⟨O, O', d⟩ := h
  refine (hc O d.h).mono ?_
  rintro e w' ⟨rfl, O1, hh, hno, hch⟩
  have hs := hch.size
  exact ⟨rfl, O1, O', hh, d.g.apart hch (fun k hk hn => d.dis k hn hk), fun k h1 h2 => hno k (d.g.2.2 k h2).2 (fun ho => d.dis k ho h2) h1, d.h.own hch d.bel, fun k hk => ⟨hno k (d.no k hk).2.2 (d.no k hk).1, (d.no k hk).2.1, by have := (d.no k hk).2.2; omega⟩, fun k hk => ⟨(d.loc k hk).1, (d.loc k hk).2.1, (hch.block k (d.no k (d.loc k hk).1).2.2 (d.no k (d.loc k hk).1).1).trans (d.loc k hk).2.2⟩⟩
theorem Both.call2 (h : Both w0 G L W1 p q W D D') {P : Program} {f : FuncId} {args : Array Value} {E : Ending} (hc : ∀ O, HasG w0.heap.size W O q D' → Calls P f args W fun e w' => e = E ∧ ∃ O1, HasG w0.heap.size w' O1 q D2 ∧ (∀ k, k < W.heap.size → ¬ O k → ¬ O1 k) ∧ Chg O W w') :
    Calls P f args W fun e w' => e = E ∧ Both w0 G L W1 p q w' D D2 := by
  obtain ⟨O, O', d⟩ := h
  refine (hc O' d.g).mono ?_
  rintro e w' ⟨rfl, O1, hh, hno, hch⟩
  have hs := hch.size
  exact ⟨rfl, O, O1, d.h.apart hch (fun k hk hn => d.dis k hk hn), hh, fun k h1 h2 => hno k (d.h.2.2 k h1).2 (fun ho => d.dis k h1 ho) h2, d.g.own hch d.bel, fun k hk => ⟨(d.no k hk).1, hno k (d.no k hk).2.2 (d.no k hk).2.1, by have := (d.no k hk).2.2; omega⟩, fun k hk => ⟨(d.loc k hk).1, (d.loc k hk).2.1, (hch.block k (d.no k (d.loc k hk).1).2.2 (d.no k (d.loc k hk).1).2.1).trans (d.loc k hk).2.2⟩⟩
theorem Both.bel (h : Both w0 G L W1 p q W D D') : Below w0.heap.size w0 W := by
  obtain ⟨O, O', d⟩ := h
  exact d.bel
theorem Both.blk (h : Both w0 G L W1 p q W D D') {k : Nat} (hk : L k) {o : Obj} (ho : W1.heap[k]? = some o) : W.heap[k]? = some o := by
  obtain ⟨O, O', d⟩ := h
  exact (d.loc k hk).2.2.trans ho
theorem Both.row {α : Type} {κ : Kd α} (h : Both w0 G L W1 p q W D D') {e base : Nat} {v : Value} {xs : List α} (hr : κ.R e W1 base L v xs) : κ.R e W base L v xs := by
  obtain ⟨O, O', d⟩ := h
  exact Kd.R_step hr (fun k hk _ => (d.loc k hk).2.2)
end
theorem Both.fresh {w0 W1 W W2 : World} {G L : Nat → Prop} {p q : Nat} {D D' : List Th} (h : Both w0 G L W1 p q W D D') (hb : Below W.heap.size W W2) {L2 : Nat → Prop} (hL : ∀ k, L2 k → W.heap.size ≤ k ∧ k < W2.heap.size) : Both w0 (fun k => W.heap.size ≤ k ∧ k < W2.heap.size) L2 W2 p q W2 D D' := by
  obtain ⟨O, O', d⟩ := h
  have hs := hb.size
  exact ⟨O, O', d.h.below hb, d.g.below hb, d.dis, below_step d.bel hb, fun k hk => ⟨d.h.free hk.1, d.g.free hk.1, hk.2⟩, fun k hk => ⟨hL k hk, (hL k hk).2, rfl⟩⟩
section
variable {w0 W1 W : World} {G L : Nat → Prop} {p q : Nat} {D D' : List Th}
theorem Both.arr1 (h : Both w0 G L W1 p q W D D') {A : Option Addr} {c : Nat} {l : List S23} (hC : k23.C W A l.length l) (hc : l.length ≤ c) (hmax : l.length < 1000000000000) (hlen : D.length < 1000000000000) :
    Calls Tryd.prog 40 #[.pointer (some ⟨p, 0, none⟩), .slice A l.length c] W fun e w' => e = .returned (.agg #[.int .i64 5, .int .i64 (D.length : Nat), .string ⟨#[]⟩]) ∧ Both w0 G L W1 p q w' (D ++ [.arr l]) D' :=
  h.call1 (fun O hh => hh.arr hC hc hmax hlen)
theorem Both.obj1 (h : Both w0 G L W1 p q W D D') {A A2 : Option Addr} {c c' : Nat} {ns : List ByteArray} {l : List S23} (hN : Kd.string.C W A ns.length ns) (hC : k23.C W A2 l.length l) (hmax : l.length < 1000000000000) (hmax2 : ns.length < 1000000000000) (hlen : D.length < 1000000000000) :
    Calls Tryd.prog 42 #[.pointer (some ⟨p, 0, none⟩), .slice A ns.length c, .slice A2 l.length c'] W fun e w' => e = .returned (.agg #[.int .i64 6, .int .i64 (D.length : Nat), .string ⟨#[]⟩]) ∧ Both w0 G L W1 p q w' (D ++ [.obj (kvFold ns l)]) D' :=
  h.call1 (fun O hh => hh.obj hN hC hmax hmax2 hlen)
theorem Both.put1 (h : Both w0 G L W1 p q W D D') (x y : S23) (i : Int) (hR : Room D 100000000000) :
    Calls Tryd.prog 68 #[.pointer (some ⟨p, 0, none⟩), .agg #[.int .i64 x.f0, .int .i64 x.f1, .string x.f2], .int .i64 i, .agg #[.int .i64 y.f0, .int .i64 y.f1, .string y.f2]] W fun e w' => e = .returned (.bool (aPut D x i y).2) ∧ Both w0 G L W1 p q w' ((aPut D x i y).1) D' :=
  h.call1 (fun O hh => hh.put x y i hR)
theorem Both.arr2 (h : Both w0 G L W1 p q W D D') {A : Option Addr} {c : Nat} {l : List S23} (hC : k23.C W A l.length l) (hmax : l.length < 1000000000000) (hlen : D'.length < 1000000000000) :
    Calls Tryd.prog 41 #[.pointer (some ⟨q, 0, none⟩), .slice A l.length c] W fun e w' => e = .returned (.agg #[.int .i64 5, .int .i64 (D'.length : Nat), .string ⟨#[]⟩]) ∧ Both w0 G L W1 p q w' D (D' ++ [.arr l]) :=
  h.call2 (fun O hh => hh.arr hC hmax hlen)
end
theorem Both.bare {w0 W1 W : World} {G L : Nat → Prop} {p q : Nat} {D D' : List Th} (h : Both w0 G L W1 p q W D D') : Both w0 No No w0 p q W D D' := by
  obtain ⟨O, O', d⟩ := h
  exact ⟨O, O', d.h, d.g, d.dis, d.bel, fun k hk => hk.elim, fun k hk => hk.elim⟩
theorem both_new (w : World) : Both w No No w w.heap.size (w.heap.size + 1) ((w.alloc (.cells #[.slice none 0 0] 90)).alloc (.cells #[.slice none 0 0] 69)) [] [] := by
  refine ⟨fun k => k = w.heap.size, fun k => k = w.heap.size + 1, (Has.new w w (Below.refl _ _)).below (below_alloc (Below.refl _ _) _), ?_, fun k h1 h2 => by omega, below_alloc (below_alloc (Below.refl _ _) _) _, fun k hk => hk.elim, fun k hk => hk.elim⟩
  have h := HasG.new w.heap.size (w.alloc (.cells #[.slice none 0 0] 90)) (by simp)
  rw [show (w.alloc (.cells #[.slice none 0 0] 90)).heap.size = w.heap.size + 1 by simp] at h
  exact h
theorem Both.more {w0 W1 W W2 : World} {G L : Nat → Prop} {p q : Nat} {D D' : List Th} (h : Both w0 G L W1 p q W D D') (hb : Below W.heap.size W W2) : Both w0 (fun k => G k ∨ (W.heap.size ≤ k ∧ k < W2.heap.size)) L W1 p q W2 D D' := by
  obtain ⟨O, O', d⟩ := h
  have hs := hb.size
  exact ⟨O, O', d.h.below hb, d.g.below hb, d.dis, below_step d.bel hb, fun k hk => by
    rcases hk with hk | hk
    · exact ⟨(d.no k hk).1, (d.no k hk).2.1, by have := (d.no k hk).2.2; omega⟩
    · exact ⟨d.h.free hk.1, d.g.free hk.1, hk.2⟩, fun k hk => ⟨Or.inl (d.loc k hk).1, (d.loc k hk).2.1, (hb.block k (d.no k (d.loc k hk).1).2.2).trans (d.loc k hk).2.2⟩⟩
theorem row_blk {W : World} {b : Nat} (l : List S23) (cs : Array Value) (h : W.heap[b]? = some (.cells cs 23 (0, 0))) (hcs : cs.toList = vcells l) (hm : l.length ≤ 9223372036854775807) : k23.C W (some ⟨b, 0, none⟩) l.length l := by
  refine ⟨rfl, hm, fun _ => ⟨⟨b, 0, none⟩, rfl, fun j q hj => ⟨[.int .i64 q.f0, .int .i64 q.f1, .string q.f2], rfl, k23_mk _ q, fun i u hu => ?_⟩⟩⟩
  have key : ∀ (l : List S23) (j : Nat), l[j]? = some q → (vcells l)[j * 3 + i]? = some u := by
    intro l
    induction l with
    | nil => intro j h; simp at h
    | cons a r ih =>
      intro j h
      have hi : i < 3 := by
        have := (List.getElem?_eq_some_iff.1 hu).1
        simpa using this
      cases j with
      | zero =>
        injection h with h
        subst h
        have e : vcells (a :: r) = [.int .i64 a.f0, .int .i64 a.f1, .string a.f2] ++ vcells r := by simp [vcells]
        rw [e, List.getElem?_append_left (by simpa using hi)]
        simpa using hu
      | succ j =>
        have e : vcells (a :: r) = [.int .i64 a.f0, .int .i64 a.f1, .string a.f2] ++ vcells r := by simp [vcells]
        rw [e, List.getElem?_append_right (by simp; omega)]
        have := ih j (by simpa using h)
        rw [← this]
        congr 1
        simp
        omega
  have hk := key l j hj
  rw [← hcs] at hk
  have h1 : W.cell? ⟨b, j * 3 + i, none⟩ = cs[j * 3 + i]? := blk_cell h _
  rw [add_plain]
  exact h1.trans (by simpa using hk)
theorem names_blk {W : World} {b : Nat} (l : List ByteArray) (cs : Array Value) (h : W.heap[b]? = some (.cells cs 9 (0, 0))) (hcs : cs.toList = l.map Value.string) (hm : l.length ≤ 9223372036854775807) : Kd.string.C W (some ⟨b, 0, none⟩) l.length l := by
  refine ⟨rfl, hm, fun _ => ⟨⟨b, 0, none⟩, rfl, fun j q hj => ⟨[.string q], rfl, rfl, fun i u hu => ?_⟩⟩⟩
  have hi : i = 0 := by
    have := (List.getElem?_eq_some_iff.1 hu).1
    simp at this
    omega
  subst hi
  injection hu with hu
  subst hu
  have h1 : W.cell? ⟨b, j, none⟩ = cs[j]? := blk_cell h _
  have hk : cs.toList[j]? = some (.string q) := by rw [hcs, List.getElem?_map, hj]; rfl
  show W.cell? ((⟨b, 0, none⟩ : Addr).add (j * 1 + 0)) = _
  rw [Nat.mul_one, Nat.add_zero, add_plain]
  exact h1.trans (by simpa using hk)
theorem Both.obj2f {w0 W1 W : World} {G L : Nat → Prop} {p q : Nat} {D D' : List Th} (h : Both w0 G L W1 p q W D D') {A A2 : Option Addr} {c d : Nat} {ns : List ByteArray} {l : List S23} (hN : ∀ W2, (∀ k o, G k → W.heap[k]? = some o → W2.heap[k]? = some o) → Kd.string.C W2 A ns.length ns) (hC : ∀ W2, (∀ k o, G k → W.heap[k]? = some o → W2.heap[k]? = some o) → k23.C W2 A2 l.length l) (hmax : l.length < 1000000000) (hmax2 : ns.length < 1000000000) (hlen : D'.length < 1000000000) :
    Calls Tryd.prog 43 #[.pointer (some ⟨q, 0, none⟩), .slice A ns.length c, .slice A2 l.length d] W fun e w' => e = .returned (.agg #[.int .i64 6, .int .i64 (D'.length : Nat), .string ⟨#[]⟩]) ∧ Both w0 G L W1 p q w' D (D' ++ [.obj (kvFold ns l)]) := by
  have h0 := h
  obtain ⟨O, O', u⟩ := h
  have key : ∀ O2, GP W O2 q D' → (∀ k, G k → ¬ O2 k) → Calls Tryd.prog 43 #[.pointer (some ⟨q, 0, none⟩), .slice A ns.length c, .slice A2 l.length d] W fun e w' => e = .returned (enc ⟨6, D'.length, ⟨#[]⟩⟩) ∧ GP w' (Grow O2 W w') q (D' ++ [.obj (kvFold ns l)]) ∧ Chg O2 W w' := fun O2 hp hno =>
    gmkobj_calls hp (fun W2 hc => hN W2 (fun k o hk ho => hc.blk ho (hno k hk))) (fun W2 hc => hC W2 (fun k o hk ho => hc.blk ho (hno k hk))) hmax hmax2 hlen
  refine (key O' u.g.2.1 (fun k hk => (u.no k hk).2.1)).mono ?_
  rintro e w' ⟨rfl, hg, hch⟩
  have hs := hch.size
  have h0' := u.g.1
  refine ⟨rfl, O, Grow O' W w', u.h.apart hch (fun k hk hn => u.dis k hk hn), ⟨by omega, hg, fun k hk => ?_⟩, fun k h1 h2 => ?_, u.g.own hch u.bel, fun k hk => ⟨(u.no k hk).1, fun hg => ?_, by have := (u.no k hk).2.2; omega⟩, fun k hk => ⟨(u.loc k hk).1, (u.loc k hk).2.1, (hch.block k (u.no k (u.loc k hk).1).2.2 (u.no k (u.loc k hk).1).2.1).trans (u.loc k hk).2.2⟩⟩
  · rcases hk with hk | hk
    · exact ⟨(u.g.2.2 k hk.1).1, by omega⟩
    · exact ⟨by omega, hk.2⟩
  · rcases h2 with h2 | h2
    · exact u.dis k h1 h2.1
    · have := (u.h.2.2 k h1).2; omega
  · rcases hg with hg | hg
    · exact (u.no k hk).2.1 hg.1
    · have := (u.no k hk).2.2; omega
end Go.Proofs.YtdheakalfleleaaDoor.Val
namespace Go.Proofs.YtdheakalfleleaaDoor.Val
open Go.RowKit Go.Proofs.YtdheakalfleleaaDoor.POper Go.Proofs.YtdheakalfleleaaDoorW.PrintWords Go.Proofs.YtdheakalfleleaaDoorW.PrintLast Go.Proofs.YtdheakalfleleaaDoorW.PrintMore
set_option linter.unusedVariables false
set_option linter.unusedSimpArgs false
def two : List S23 := [⟨3, 2, ⟨#[]⟩⟩, ⟨4, 0, ⟨#[98]⟩⟩]
def nms : List ByteArray := [⟨#[120]⟩, ⟨#[108, 101, 110, 103, 116, 104]⟩]
def D4 : List Th := [.arr two, .obj (kvFold nms two), .arr [], .obj []]
theorem C_nil (W : World) : k23.C W none ([] : List S23).length [] := ⟨rfl, by decide, fun h => absurd h (by decide)⟩
theorem N_nil (W : World) : Kd.string.C W none ([] : List ByteArray).length [] := ⟨rfl, by decide, fun h => absurd h (by decide)⟩
theorem tw_C {W : World} {b : Nat} (h : W.heap[b]? = some (.cells #[.int .i64 3, .int .i64 2, .string ⟨#[]⟩, .int .i64 4, .int .i64 0, .string ⟨#[98]⟩] 23)) : k23.C W (some ⟨b, 0, none⟩) two.length two := row_blk two _ h rfl (by decide)
theorem nm_C {W : World} {b : Nat} (h : W.heap[b]? = some (.cells #[.string ⟨#[120]⟩, .string ⟨#[108, 101, 110, 103, 116, 104]⟩] 9)) : Kd.string.C W (some ⟨b, 0, none⟩) nms.length nms := names_blk nms _ h rfl (by decide)
set_option maxHeartbeats 8000000 in
set_option maxRecDepth 100000 in
theorem heaps_calls (w : World) :
    Calls Tryd.prog 14 #[] w fun e w' => e = .returned (.tuple #[.pointer (some ⟨w.heap.size, 0, none⟩), .pointer (some ⟨w.heap.size + 1, 0, none⟩)]) ∧ Both w No No w w.heap.size (w.heap.size + 1) w' D4 D4 := by
  have HB0 := Aside0.mk (both_new w)
  go_enter Tryd.func14, Tryd.ntmps14
  go_wp2_with (first
    | (go_at_call 22; refine (new_calls _).mono ?_; rintro e w' ⟨rfl, rfl⟩)
    | (go_at_call 23; refine hold_ ?_))
  unfold Held
  refine (gussetlaw24_num.calls 2 3 2 ⟨#[]⟩ _ rfl).mono ?_
  rintro e w1 ⟨rfl, hb⟩
  have HB1 := Aside0.mk (HB0.out.below hb)
  clear hb HB0
  go_wp2_with (go_at_call 26; refine hold_ ?_)
  unfold Held
  refine (gussetlaw24_text.calls ⟨#[98]⟩ 4 0 ⟨#[98]⟩ _ rfl).mono ?_
  rintro e w2 ⟨rfl, hb⟩
  have HB2 := Aside0.mk (HB1.out.below hb)
  clear hb HB1
  go_wp2_with (go_at_call 40; refine hold_ ?_)
  unfold Held
  have hT := heap_alloc_new w2 (.cells #[.int .i64 3, .int .i64 2, .string ⟨#[]⟩, .int .i64 4, .int .i64 0, .string ⟨#[98]⟩] 23)
  have HB3 := Aside0.mk ((HB2.out.fresh (W2 := w2.alloc (.cells #[.int .i64 3, .int .i64 2, .string ⟨#[]⟩, .int .i64 4, .int .i64 0, .string ⟨#[98]⟩] 23)) (below_alloc (Below.refl _ _) _) (L2 := fun k => k = w2.heap.size) (fun k hk => by subst hk; exact ⟨Nat.le_refl _, by simp⟩)))
  have HT := Aside0.mk hT
  clear HB2 hT
  refine (HB3.out.arr1 (tw_C HT.out) (by decide) (by decide) (by decide)).mono ?_
  rintro e w4 ⟨rfl, hb⟩
  have HB4 := Aside0.mk hb
  clear hb HB3
  go_wp2_with (go_at_call 41; refine hold_ ?_)
  unfold Held
  refine (HB4.out.arr2 (tw_C (HB4.out.blk rfl HT.out)) (by decide) (by decide)).mono ?_
  rintro e w5 ⟨rfl, hb⟩
  have HB5 := Aside0.mk hb
  clear hb HB4
  go_wp2_with (go_at_call 42; refine hold_ ?_)
  unfold Held
  have HB6 := Aside0.mk (HB5.out.below (W' := w5.alloc (.cells #[.string ⟨#[120]⟩, .string ⟨#[108, 101, 110, 103, 116, 104]⟩] 9)) (below_alloc (Below.refl _ _) _))
  refine (HB6.out.obj1 (nm_C (heap_alloc_new w5 (.cells #[.string ⟨#[120]⟩, .string ⟨#[108, 101, 110, 103, 116, 104]⟩] 9))) (tw_C (HB6.out.blk rfl HT.out)) (by decide) (by decide) (by decide)).mono ?_
  rintro e w7 ⟨rfl, hb⟩
  have HB7 := Aside0.mk hb
  clear hb HB6 HB5
  go_wp2_with (go_at_call 43; refine hold_ ?_)
  unfold Held
  have HB8 := Aside0.mk (HB7.out.more (W2 := w7.alloc (.cells #[.string ⟨#[120]⟩, .string ⟨#[108, 101, 110, 103, 116, 104]⟩] 9)) (below_alloc (Below.refl _ _) _))
  refine (HB8.out.obj2f (fun W2 hW => nm_C (hW w7.heap.size _ (Or.inr ⟨Nat.le_refl _, by simp⟩) (heap_alloc_new w7 (.cells #[.string ⟨#[120]⟩, .string ⟨#[108, 101, 110, 103, 116, 104]⟩] 9)))) (fun W2 hW => tw_C (hW w2.heap.size _ (Or.inl ⟨Nat.le_refl _, by simp⟩) (HB8.out.blk rfl HT.out))) (by decide) (by decide) (by decide)).mono ?_
  rintro e w9 ⟨rfl, hb⟩
  have HB9 := Aside0.mk hb
  clear hb HB8 HB7
  go_wp2_with (go_at_call 40; refine hold_ ?_)
  unfold Held
  refine (HB9.out.arr1 (C_nil _) (by decide) (by decide) (by decide)).mono ?_
  rintro e w10 ⟨rfl, hb⟩
  have HB10 := Aside0.mk hb
  clear hb HB9
  go_wp2_with (go_at_call 41; refine hold_ ?_)
  unfold Held
  refine (HB10.out.arr2 (C_nil _) (by decide) (by decide)).mono ?_
  rintro e w11 ⟨rfl, hb⟩
  have HB11 := Aside0.mk hb
  clear hb HB10
  go_wp2_with (go_at_call 42; refine hold_ ?_)
  unfold Held
  refine (HB11.out.obj1 (N_nil _) (C_nil _) (by decide) (by decide) (by decide)).mono ?_
  rintro e w12 ⟨rfl, hb⟩
  have HB12 := Aside0.mk hb
  clear hb HB11
  go_wp2_with (go_at_call 43; refine hold_ ?_)
  unfold Held
  refine (HB12.out.obj2f (fun W2 _ => N_nil _) (fun W2 _ => C_nil _) (by decide) (by decide) (by decide)).mono ?_
  rintro e w13 ⟨rfl, hb⟩
  have HB13 := Aside0.mk hb
  clear hb HB12
  go_wp2
  go_ret2
  exact ⟨rfl, HB13.out.bare⟩
end Go.Proofs.YtdheakalfleleaaDoor.Val
namespace Go.Proofs.YtdheakalfleleaaDoor.Val
open Go.RowKit Go.Proofs.YtdheakalfleleaaDoor.POper Go.Proofs.YtdheakalfleleaaDoorW.PrintWords Go.Proofs.YtdheakalfleleaaDoorW.PrintLast Go.Proofs.YtdheakalfleleaaDoorW.PrintMore
set_option linter.unusedVariables false
set_option linter.unusedSimpArgs false
set_option maxHeartbeats 4000000 in
set_option maxRecDepth 100000 in
theorem member_text (w : World) (q : Option Addr) (i : Int) (t : ByteArray) (n : Int) (h : runes_Count.f t = some n) (hn : oper_number.f n true = some (3, n, ⟨#[]⟩, 0)) :
    Calls Tryd.prog 17 #[.pointer q, .agg #[.int .i64 4, .int .i64 i, .string t], .string ⟨#[108, 101, 110, 103, 116, 104]⟩] w fun e w' => e = .returned (.tuple #[.agg #[.int .i64 3, .int .i64 n, .string ⟨#[]⟩], .int .i64 0]) ∧ Below w.heap.size w w' := by
  have HC := Aside0.mk h
  have HN := Aside0.mk hn
  clear h hn
  have BX0 := Aside0.mk (new2 w (.cells #[.int .i64 4, .int .i64 i, .string t] 23) (.cells #[.int .i64 0, .int .i64 0, .string ⟨#[]⟩] 23))
  have HB0 := Aside0.mk (below_alloc (below_alloc (Below.refl w.heap.size w) (.cells #[.int .i64 4, .int .i64 i, .string t] 23)) (.cells #[.int .i64 0, .int .i64 0, .string ⟨#[]⟩] 23))
  go_enter Tryd.func17, Tryd.ntmps17
  go_wp2_with (first
    | (go_at_call 55; refine (runes_Count.calls t n _ HC.out).mono ?_; rintro e w1 ⟨rfl, hb⟩; have BX1 := Aside0.mk (blk_below BX0.out hb); have HB1 := Aside0.mk (below_step HB0.out hb); clear hb BX0 HB0)
    | (go_at_call 31; refine (oper_number.calls n true 3 n ⟨#[]⟩ 0 _ HN.out).mono ?_; rintro e w2 ⟨rfl, hb⟩; have bx := blk_below BX1.out hb; obtain ⟨⟨b0, b1, b2⟩, f0, f1, f2⟩ := box3 bx; have BX := Aside0.mk bx; clear bx; have HB := Aside0.mk (below_step HB1.out hb); clear hb BX1 HB1))
  refine bodyPost_ret (results_ct rfl _ _ (w.heap.size + 1) 23 #[.int .i64 3, .int .i64 n, .string ⟨#[]⟩] (0, 0) _ rfl (put3 BX.out) Tryd.underlying23 rfl (by kernel_rfl)) rfl ⟨rfl, ?_⟩
  exact below_put3 HB.out (by omega)
set_option maxHeartbeats 4000000 in
set_option maxRecDepth 100000 in
theorem builtin_parse (w : World) [GW w] (q : Option Addr) (b : Nat) (i : Int) (t : ByteArray) (r1 r2 : Int) (r3 : ByteArray) (hb : w.heap[b]? = some (.cells #[.int .i64 4, .int .i64 i, .string t] 23 (0, 0))) (h : oper_parsed.f t = some (r1, r2, r3)) :
    Calls Tryd.prog 37 #[.pointer q, .string ⟨#[112, 97, 114, 115, 101]⟩, .slice (some ⟨b, 0, none⟩) 1 1] w fun e w' => e = .returned (.tuple #[.agg #[.int .i64 r1, .int .i64 r2, .string r3], .int .i64 0]) ∧ Below w.heap.size w w' := by
  have HC := Aside0.mk h
  clear h
  have BX0 := Aside0.mk (heap_alloc_new w (.cells #[.int .i64 0, .int .i64 0, .string ⟨#[]⟩] 23))
  have HB0 := Aside0.mk (below_alloc (Below.refl w.heap.size w) (.cells #[.int .i64 0, .int .i64 0, .string ⟨#[]⟩] 23))
  obtain ⟨⟨b0, b1, b2⟩, _, _, _⟩ := box3 (blk_alloc hb (.cells #[.int .i64 0, .int .i64 0, .string ⟨#[]⟩] 23))
  clear hb
  go_enter Tryd.func37, Tryd.ntmps37
  go_wp2
  go_quiet (fail)
  go_wp2_with (first
    | (go_at_call 67; refine hold_ ?_))
  unfold Held
  refine (oper_parsed.calls t r1 r2 r3 _ HC.out).mono ?_
  rintro e w1 ⟨rfl, hb⟩
  have bx := blk_below (blk_drewN BX0.out _) hb
  obtain ⟨⟨d0, d1, d2⟩, f0, f1, f2⟩ := box3 bx
  have BX := Aside0.mk bx
  clear bx
  have HB := Aside0.mk (below_step (pw_below_drewN HB0.out _) hb)
  clear hb BX0 HB0
  go_wp2
  refine bodyPost_ret (results_ct rfl _ _ w.heap.size 23 #[.int .i64 r1, .int .i64 r2, .string r3] (0, 0) _ rfl (put3 BX.out) Tryd.underlying23 rfl (by kernel_rfl)) rfl ⟨rfl, ?_⟩
  exact below_put3 HB.out (Nat.le_refl _)
section
variable {w0 W1 W : World} {G L : Nat → Prop} {p q : Nat} {D D' : List Th}
set_option maxHeartbeats 4000000 in
set_option maxRecDepth 100000 in
theorem setindex_arr (h : Both w0 G L W1 p q W D D') (n : Int) (s : ByteArray) (i : Int) (s2 : ByteArray) (y : S23) (hR : Room D 100000000000) (hok : (aPut D ⟨5, n, s⟩ i y).2 = true) :
    Calls Tryd.prog 38 #[.pointer (some ⟨p, 0, none⟩), .agg #[.int .i64 5, .int .i64 n, .string s], .agg #[.int .i64 3, .int .i64 i, .string s2], .agg #[.int .i64 y.f0, .int .i64 y.f1, .string y.f2]] W fun e w' => e = .returned (.int .i64 0) ∧ Both w0 G L W1 p q w' (aPut D ⟨5, n, s⟩ i y).1 D' := by
  have H0 := Aside0.mk (h.below (W' := ((W.alloc (.cells #[.int .i64 5, .int .i64 n, .string s] 23)).alloc (.cells #[.int .i64 3, .int .i64 i, .string s2] 23)).alloc (.cells #[.int .i64 y.f0, .int .i64 y.f1, .string y.f2] 23)) (below_alloc (below_alloc (below_alloc (Below.refl _ _) _) _) _))
  have HR := Aside0.mk hR
  have HO := Aside0.mk hok
  clear h hR hok
  go_enter Tryd.func38, Tryd.ntmps38
  go_wp2_with (go_at_call 68; refine hold_ ?_)
  unfold Held
  refine (H0.out.put1 ⟨5, n, s⟩ y i HR.out).mono ?_
  rintro e w1 ⟨rfl, hb⟩
  rw [HO.out]
  have HB := Aside0.mk hb
  clear hb
  go_wp2
  go_ret
  exact ⟨rfl, HB.out⟩
set_option maxHeartbeats 4000000 in
set_option maxRecDepth 100000 in
theorem index_arr (h : Both w0 G L W1 p q W D D') (n : Int) (s : ByteArray) (i : Int) (s2 : ByteArray) (r : S23) (b : Bool) (hr : aAt D ⟨5, n, s⟩ i = (r, b)) :
    Calls Tryd.prog 19 #[.pointer (some ⟨p, 0, none⟩), .agg #[.int .i64 5, .int .i64 n, .string s], .agg #[.int .i64 3, .int .i64 i, .string s2]] W fun e w' => e = .returned (.tuple #[.agg #[.int .i64 r.f0, .int .i64 r.f1, .string r.f2], .int .i64 0]) ∧ Below W.heap.size W w' := by
  have H0 := Aside0.mk (h.below (W' := ((W.alloc (.cells #[.int .i64 5, .int .i64 n, .string s] 23)).alloc (.cells #[.int .i64 3, .int .i64 i, .string s2] 23)).alloc (.cells #[.int .i64 0, .int .i64 0, .string ⟨#[]⟩] 23)) (below_alloc (below_alloc (below_alloc (Below.refl _ _) _) _) _))
  have BX0 : Aside0 ((((W.alloc (.cells #[.int .i64 5, .int .i64 n, .string s] 23)).alloc (.cells #[.int .i64 3, .int .i64 i, .string s2] 23)).alloc (.cells #[.int .i64 0, .int .i64 0, .string ⟨#[]⟩] 23)).heap[W.heap.size + 2]? = some (.cells #[.int .i64 0, .int .i64 0, .string ⟨#[]⟩] 23 (0, 0))) := ⟨by simpa using heap_alloc_new ((W.alloc (.cells #[.int .i64 5, .int .i64 n, .string s] 23)).alloc (.cells #[.int .i64 3, .int .i64 i, .string s2] 23)) (.cells #[.int .i64 0, .int .i64 0, .string ⟨#[]⟩] 23)⟩
  have HR := Aside0.mk hr
  clear h hr
  go_enter Tryd.func19, Tryd.ntmps19
  go_wp2_with (go_at_call 60; refine hold_ ?_)
  unfold Held
  have hat := H0.out
  obtain ⟨O, O', u⟩ := hat
  have hh := u.h.at ⟨5, n, s⟩ i
  rw [HR.out] at hh
  refine hh.mono ?_
  rintro e w1 ⟨rfl, hb⟩
  have H1 := Aside0.mk (below_alloc (below_step (below_alloc (below_alloc (below_alloc (Below.refl W.heap.size W) _) _) _) hb) (.cells #[.int .i64 r.f0, .int .i64 r.f1, .string r.f2] 23))
  have bx := blk_alloc (blk_below BX0.out hb) (.cells #[.int .i64 r.f0, .int .i64 r.f1, .string r.f2] 23)
  obtain ⟨⟨d0, d1, d2⟩, f0, f1, f2⟩ := box3 bx
  have BX := Aside0.mk bx
  clear bx hb u hh H0 BX0
  unfold enc
  go_wp2
  refine bodyPost_ret (results_ct rfl _ _ (W.heap.size + 2) 23 #[.int .i64 r.f0, .int .i64 r.f1, .string r.f2] (0, 0) _ rfl (put3 BX.out) Tryd.underlying23 rfl (by kernel_rfl)) rfl ⟨rfl, ?_⟩
  exact below_put3 H1.out (by omega)
end
set_option maxHeartbeats 4000000 in
set_option maxRecDepth 100000 in
theorem setmember_num (w : World) (q : Option Addr) (i : Int) (s : ByteArray) (n : ByteArray) (y : S23) :
    Calls Tryd.prog 39 #[.pointer q, .agg #[.int .i64 3, .int .i64 i, .string s], .string n, .agg #[.int .i64 y.f0, .int .i64 y.f1, .string y.f2]] w fun e w' => e = .returned (.int .i64 3) ∧ Below w.heap.size w w' := by
  go_enter Tryd.func39, Tryd.ntmps39
  go_wp2
  go_ret
  exact ⟨rfl, below_alloc (below_alloc (Below.refl _ _) _) _⟩
end Go.Proofs.YtdheakalfleleaaDoor.Val
namespace Go.Proofs.YtdheakalfleleaaDoor.Val
open Go.RowKit Go.Proofs.YtdheakalfleleaaDoor.POper Go.Proofs.YtdheakalfleleaaDoorW.PrintWords Go.Proofs.YtdheakalfleleaaDoorW.PrintLast Go.Proofs.YtdheakalfleleaaDoorW.PrintMore
set_option linter.unusedVariables false
set_option linter.unusedSimpArgs false
attribute [local go_sem high] eqA32
def sure13.T : Bool × List (List Nat × List Nat) := (true, [([], []), ([], []), ([0, 1], [0, 1]), ([2, 1], [2]), ([3], [3]), ([4, 3], [3, 4]), ([3, 5], [3, 5]), ([6, 3], [6]), ([7], [7]), ([7, 7], [7]), ([8, 9, 7], [7, 8, 9]), ([7, 10], [7, 10]), ([11, 9], [11]), ([12], [12]), ([13, 12], [12, 13]), ([12, 14], [12, 14]), ([15, 12], [15]), ([16], [16]), ([17, 16], [16, 17]), ([16, 18], [16, 18]), ([19, 16], [19]), ([20], [20]), ([20, 20], [20]), ([21, 22, 20], [20, 21, 22]), ([20, 23], [20, 23]), ([24, 22], [24]), ([25], [25]), ([26, 25], [25, 26]), ([25, 27], [25, 27]), ([28, 25], [28]), ([29], [29]), ([29, 29], [29]), ([30, 31, 29], [29, 30, 31]), ([29, 32], [29, 32]), ([33, 31], [33]), ([34], [34]), ([35, 34], [34, 35]), ([34, 36], [34, 36]), ([37, 34], [37]), ([38], [38]), ([38, 38], [38]), ([39, 40, 38], [38, 39, 40]), ([38, 41], [38, 41]), ([42, 40], [42]), ([43], [43]), ([44, 43], [43, 44]), ([43, 45], [43, 45]), ([46, 43], [46]), ([47], [47]), ([48, 47], [47, 48]), ([47, 49], [47, 49]), ([50, 47], [50]), ([51], [51]), ([51, 51], [51]), ([52, 53, 51], [51, 52, 53]), ([51, 54], [51, 54]), ([55, 53], [55]), ([56], [56]), ([57, 56], [56, 57]), ([56, 58], [56, 58]), ([59, 56], [59]), ([60], [60]), ([61, 60], [60, 61]), ([60, 62], [60, 62]), ([63, 60, 0, 1, 2, 3, 4, 5, 6, 7, 8, 9, 10, 11, 12, 13, 14, 15, 16, 17, 18, 19, 20, 21, 22, 23, 24, 25, 26, 27, 28, 29, 30, 31, 32, 33, 34, 35, 36, 37, 38, 39, 40, 41, 42, 43, 44, 45, 46, 47, 48, 49, 50, 51, 52, 53, 54, 55, 56, 57, 58, 59, 60, 61, 62, 63], [63])])
def sure13.B : List Nat := [0, 0, 3, 7, 15, 31, 63, 127, 255, 255, 1023, 2047, 4095, 8191, 16383, 32767, 65535, 131071, 262143, 524287, 1048575, 2097151, 2097151, 8388607, 16777215, 33554431, 67108863, 134217727, 268435455, 536870911, 1073741823, 1073741823, 4294967295, 8589934591, 17179869183, 34359738367, 68719476735, 137438953471, 274877906943, 549755813887, 549755813887, 2199023255551, 4398046511103, 8796093022207, 17592186044415, 35184372088831, 70368744177663, 140737488355327, 281474976710655, 562949953421311, 1125899906842623, 2251799813685247, 4503599627370495, 4503599627370495, 18014398509481983, 36028797018963967, 72057594037927935, 144115188075855871, 288230376151711743, 576460752303423487, 1152921504606846975, 2305843009213693951, 4611686018427387903, 9223372036854775807, 18446744073709551615]
theorem sure13.tab : rtab .any (opsOf Tryd.f13 13) = sure13.T := by kernel_rfl
theorem sure13.bits : waitsOk sure13.T.2 sure13.B = true := by kernel_rfl
def D5 : List Th := (aPut D4 ⟨5, 0, ⟨#[]⟩⟩ 2 ⟨3, 9, ⟨#[]⟩⟩).1
theorem D4_room : Room D4 100000000000 := ⟨by decide, fun t ht => by
  have h : t = .arr two ∨ t = .obj (kvFold nms two) ∨ t = .arr [] ∨ t = .obj [] := by simpa [D4] using ht
  rcases h with rfl | rfl | rfl | rfl
  · decide
  · exact Nat.le_trans (kvFold_len nms two) (by decide)
  · decide
  · decide⟩
set_option maxHeartbeats 8000000 in
set_option maxRecDepth 100000 in
theorem sure_calls (w : World) [GW w] : Calls Tryd.prog 13 #[] w fun e w' => e = .returned (.bool true) ∧ Below w.heap.size w w' := by
  go_enter Tryd.func13, Tryd.ntmps13
  go_wp2_with (go_at_call 14; refine hold_ ?_)
  unfold Held
  refine (heaps_calls w).mono ?_
  rintro e w0 ⟨rfl, hb⟩
  have HB := Aside0.mk hb
  clear hb
  go_wp2_with (go_at_call 23; refine hold_ ?_)
  unfold Held
  refine (gussetlaw24_num.calls 7 3 7 ⟨#[]⟩ _ (by kernel_rfl)).mono ?_
  rintro e w1 ⟨rfl, hb⟩
  have nH_ := Aside0.mk (HB.out.below (below_step (by repeat (first | (with_reducible exact Below.refl _ _) | (with_reducible apply below_alloc) | (with_reducible apply pw_below_drewN) | (with_reducible apply below_drew1))) hb))
  clear HB hb
  have HB := nH_
  clear nH_
  haveI : GW w1 := GW.of HB.out.bel
  go_wp2_with (go_at_call 23; refine hold_ ?_)
  unfold Held
  refine (gussetlaw24_num.calls (-2) 3 (-2) ⟨#[]⟩ _ (by kernel_rfl)).mono ?_
  rintro e w2 ⟨rfl, hb⟩
  have nH_ := Aside0.mk (HB.out.below (below_step (by repeat (first | (with_reducible exact Below.refl _ _) | (with_reducible apply below_alloc) | (with_reducible apply pw_below_drewN) | (with_reducible apply below_drew1))) hb))
  clear HB hb
  have HB := nH_
  clear nH_
  haveI : GW w2 := GW.of HB.out.bel
  go_wp2_with (go_at_call 15; refine hold_ ?_)
  unfold Held
  refine (oper_Binary.calls (some ⟨w.heap.size, 0, none⟩) 20 0 ⟨#[47]⟩ 3 7 ⟨#[]⟩ 3 (-2) ⟨#[]⟩ 3 (-3) ⟨#[]⟩ 0 _ (by kernel_rfl)).mono ?_
  rintro e w3 ⟨rfl, hb⟩
  have nH_ := Aside0.mk (HB.out.below (below_step (by repeat (first | (with_reducible exact Below.refl _ _) | (with_reducible apply below_alloc) | (with_reducible apply pw_below_drewN) | (with_reducible apply below_drew1))) hb))
  clear HB hb
  have HB := nH_
  clear nH_
  haveI : GW w3 := GW.of HB.out.bel
  have BX0 := Aside0.mk (heap_alloc_new w3 (.cells #[.int .i64 3, .int .i64 (-3), .string ⟨#[]⟩] 23))
  have nH_ := Aside0.mk (HB.out.more (W2 := w3.alloc (.cells #[.int .i64 3, .int .i64 (-3), .string ⟨#[]⟩] 23)) (below_alloc (Below.refl _ _) _))
  clear HB
  have HB := nH_
  clear nH_
  go_wp2_with (go_at_call 26; refine hold_ ?_)
  unfold Held
  refine (gussetlaw24_text.calls ⟨#[97]⟩ 4 0 ⟨#[97]⟩ _ (by kernel_rfl)).mono ?_
  rintro e w4 ⟨rfl, hb⟩
  have nH_ := Aside0.mk (HB.out.below (below_step (by repeat (first | (with_reducible exact Below.refl _ _) | (with_reducible apply below_alloc) | (with_reducible apply pw_below_drewN) | (with_reducible apply below_drew1))) hb))
  have n0_ := Aside0.mk (blk_below (g := w3.heap.size) (o := (.cells #[.int .i64 3, .int .i64 (-3), .string ⟨#[]⟩] 23)) (by repeat (first | (with_reducible exact BX0.out) | (with_reducible refine blk_alloc ?_ _) | (with_reducible refine blk_drewN ?_ _) | (with_reducible refine blk_drew ?_))) hb)
  clear BX0
  have BX0 := n0_
  clear n0_
  clear HB hb
  have HB := nH_
  clear nH_
  haveI : GW w4 := GW.of HB.out.bel
  go_wp2_with (go_at_call 23; refine hold_ ?_)
  unfold Held
  refine (gussetlaw24_num.calls 1 3 1 ⟨#[]⟩ _ (by kernel_rfl)).mono ?_
  rintro e w5 ⟨rfl, hb⟩
  have nH_ := Aside0.mk (HB.out.below (below_step (by repeat (first | (with_reducible exact Below.refl _ _) | (with_reducible apply below_alloc) | (with_reducible apply pw_below_drewN) | (with_reducible apply below_drew1))) hb))
  have n0_ := Aside0.mk (blk_below (g := w3.heap.size) (o := (.cells #[.int .i64 3, .int .i64 (-3), .string ⟨#[]⟩] 23)) (by repeat (first | (with_reducible exact BX0.out) | (with_reducible refine blk_alloc ?_ _) | (with_reducible refine blk_drewN ?_ _) | (with_reducible refine blk_drew ?_))) hb)
  clear BX0
  have BX0 := n0_
  clear n0_
  clear HB hb
  have HB := nH_
  clear nH_
  haveI : GW w5 := GW.of HB.out.bel
  go_wp2_with (go_at_call 15; refine hold_ ?_)
  unfold Held
  refine (oper_Binary.calls (some ⟨w.heap.size, 0, none⟩) 20 0 ⟨#[43]⟩ 4 0 ⟨#[97]⟩ 3 1 ⟨#[]⟩ 4 0 ⟨#[97, 49]⟩ 0 _ (by kernel_rfl)).mono ?_
  rintro e w6 ⟨rfl, hb⟩
  have nH_ := Aside0.mk (HB.out.below (below_step (by repeat (first | (with_reducible exact Below.refl _ _) | (with_reducible apply below_alloc) | (with_reducible apply pw_below_drewN) | (with_reducible apply below_drew1))) hb))
  have n0_ := Aside0.mk (blk_below (g := w3.heap.size) (o := (.cells #[.int .i64 3, .int .i64 (-3), .string ⟨#[]⟩] 23)) (by repeat (first | (with_reducible exact BX0.out) | (with_reducible refine blk_alloc ?_ _) | (with_reducible refine blk_drewN ?_ _) | (with_reducible refine blk_drew ?_))) hb)
  clear BX0
  have BX0 := n0_
  clear n0_
  clear HB hb
  have HB := nH_
  clear nH_
  haveI : GW w6 := GW.of HB.out.bel
  have BX1 := Aside0.mk (heap_alloc_new w6 (.cells #[.int .i64 4, .int .i64 0, .string ⟨#[97, 49]⟩] 23))
  have nH_ := Aside0.mk (HB.out.more (W2 := w6.alloc (.cells #[.int .i64 4, .int .i64 0, .string ⟨#[97, 49]⟩] 23)) (below_alloc (Below.refl _ _) _))
  clear HB
  have HB := nH_
  clear nH_
  go_wp2_with (go_at_call 23; refine hold_ ?_)
  unfold Held
  refine (gussetlaw24_num.calls 9007199254740991 3 9007199254740991 ⟨#[]⟩ _ (by kernel_rfl)).mono ?_
  rintro e w7 ⟨rfl, hb⟩
  have nH_ := Aside0.mk (HB.out.below (below_step (by repeat (first | (with_reducible exact Below.refl _ _) | (with_reducible apply below_alloc) | (with_reducible apply pw_below_drewN) | (with_reducible apply below_drew1))) hb))
  have n0_ := Aside0.mk (blk_below (g := w3.heap.size) (o := (.cells #[.int .i64 3, .int .i64 (-3), .string ⟨#[]⟩] 23)) (by repeat (first | (with_reducible exact BX0.out) | (with_reducible refine blk_alloc ?_ _) | (with_reducible refine blk_drewN ?_ _) | (with_reducible refine blk_drew ?_))) hb)
  have n1_ := Aside0.mk (blk_below (g := w6.heap.size) (o := (.cells #[.int .i64 4, .int .i64 0, .string ⟨#[97, 49]⟩] 23)) (by repeat (first | (with_reducible exact BX1.out) | (with_reducible refine blk_alloc ?_ _) | (with_reducible refine blk_drewN ?_ _) | (with_reducible refine blk_drew ?_))) hb)
  clear BX0
  have BX0 := n0_
  clear n0_
  clear BX1
  have BX1 := n1_
  clear n1_
  clear HB hb
  have HB := nH_
  clear nH_
  haveI : GW w7 := GW.of HB.out.bel
  go_wp2_with (go_at_call 23; refine hold_ ?_)
  unfold Held
  refine (gussetlaw24_num.calls 1 3 1 ⟨#[]⟩ _ (by kernel_rfl)).mono ?_
  rintro e w8 ⟨rfl, hb⟩
  have nH_ := Aside0.mk (HB.out.below (below_step (by repeat (first | (with_reducible exact Below.refl _ _) | (with_reducible apply below_alloc) | (with_reducible apply pw_below_drewN) | (with_reducible apply below_drew1))) hb))
  have n0_ := Aside0.mk (blk_below (g := w3.heap.size) (o := (.cells #[.int .i64 3, .int .i64 (-3), .string ⟨#[]⟩] 23)) (by repeat (first | (with_reducible exact BX0.out) | (with_reducible refine blk_alloc ?_ _) | (with_reducible refine blk_drewN ?_ _) | (with_reducible refine blk_drew ?_))) hb)
  have n1_ := Aside0.mk (blk_below (g := w6.heap.size) (o := (.cells #[.int .i64 4, .int .i64 0, .string ⟨#[97, 49]⟩] 23)) (by repeat (first | (with_reducible exact BX1.out) | (with_reducible refine blk_alloc ?_ _) | (with_reducible refine blk_drewN ?_ _) | (with_reducible refine blk_drew ?_))) hb)
  clear BX0
  have BX0 := n0_
  clear n0_
  clear BX1
  have BX1 := n1_
  clear n1_
  clear HB hb
  have HB := nH_
  clear nH_
  haveI : GW w8 := GW.of HB.out.bel
  go_wp2_with (go_at_call 15; refine hold_ ?_)
  unfold Held
  refine (oper_Binary.calls (some ⟨w.heap.size, 0, none⟩) 20 0 ⟨#[43]⟩ 3 9007199254740991 ⟨#[]⟩ 3 1 ⟨#[]⟩ 0 0 ⟨#[]⟩ 4 _ (by kernel_rfl)).mono ?_
  rintro e w9 ⟨rfl, hb⟩
  have nH_ := Aside0.mk (HB.out.below (below_step (by repeat (first | (with_reducible exact Below.refl _ _) | (with_reducible apply below_alloc) | (with_reducible apply pw_below_drewN) | (with_reducible apply below_drew1))) hb))
  have n0_ := Aside0.mk (blk_below (g := w3.heap.size) (o := (.cells #[.int .i64 3, .int .i64 (-3), .string ⟨#[]⟩] 23)) (by repeat (first | (with_reducible exact BX0.out) | (with_reducible refine blk_alloc ?_ _) | (with_reducible refine blk_drewN ?_ _) | (with_reducible refine blk_drew ?_))) hb)
  have n1_ := Aside0.mk (blk_below (g := w6.heap.size) (o := (.cells #[.int .i64 4, .int .i64 0, .string ⟨#[97, 49]⟩] 23)) (by repeat (first | (with_reducible exact BX1.out) | (with_reducible refine blk_alloc ?_ _) | (with_reducible refine blk_drewN ?_ _) | (with_reducible refine blk_drew ?_))) hb)
  clear BX0
  have BX0 := n0_
  clear n0_
  clear BX1
  have BX1 := n1_
  clear n1_
  clear HB hb
  have HB := nH_
  clear nH_
  haveI : GW w9 := GW.of HB.out.bel
  have BX2 := Aside0.mk (heap_alloc_new w9 (.cells #[.int .i64 0, .int .i64 0, .string ⟨#[]⟩] 23))
  have nH_ := Aside0.mk (HB.out.more (W2 := w9.alloc (.cells #[.int .i64 0, .int .i64 0, .string ⟨#[]⟩] 23)) (below_alloc (Below.refl _ _) _))
  clear HB
  have HB := nH_
  clear nH_
  go_wp2_with (go_at_call 26; refine hold_ ?_)
  unfold Held
  refine (gussetlaw24_text.calls ⟨#[]⟩ 4 0 ⟨#[]⟩ _ (by kernel_rfl)).mono ?_
  rintro e w10 ⟨rfl, hb⟩
  have nH_ := Aside0.mk (HB.out.below (below_step (by repeat (first | (with_reducible exact Below.refl _ _) | (with_reducible apply below_alloc) | (with_reducible apply pw_below_drewN) | (with_reducible apply below_drew1))) hb))
  have n0_ := Aside0.mk (blk_below (g := w3.heap.size) (o := (.cells #[.int .i64 3, .int .i64 (-3), .string ⟨#[]⟩] 23)) (by repeat (first | (with_reducible exact BX0.out) | (with_reducible refine blk_alloc ?_ _) | (with_reducible refine blk_drewN ?_ _) | (with_reducible refine blk_drew ?_))) hb)
  have n1_ := Aside0.mk (blk_below (g := w6.heap.size) (o := (.cells #[.int .i64 4, .int .i64 0, .string ⟨#[97, 49]⟩] 23)) (by repeat (first | (with_reducible exact BX1.out) | (with_reducible refine blk_alloc ?_ _) | (with_reducible refine blk_drewN ?_ _) | (with_reducible refine blk_drew ?_))) hb)
  have n2_ := Aside0.mk (blk_below (g := w9.heap.size) (o := (.cells #[.int .i64 0, .int .i64 0, .string ⟨#[]⟩] 23)) (by repeat (first | (with_reducible exact BX2.out) | (with_reducible refine blk_alloc ?_ _) | (with_reducible refine blk_drewN ?_ _) | (with_reducible refine blk_drew ?_))) hb)
  clear BX0
  have BX0 := n0_
  clear n0_
  clear BX1
  have BX1 := n1_
  clear n1_
  clear BX2
  have BX2 := n2_
  clear n2_
  clear HB hb
  have HB := nH_
  clear nH_
  haveI : GW w10 := GW.of HB.out.bel
  go_wp2_with (go_at_call 11; refine hold_ ?_)
  unfold Held
  refine (oper_Unary.calls 20 ⟨#[116, 121, 112, 101, 111, 102]⟩ 4 0 ⟨#[]⟩ 4 0 ⟨#[115, 116, 114, 105, 110, 103]⟩ 0 _ (by kernel_rfl)).mono ?_
  rintro e w11 ⟨rfl, hb⟩
  have nH_ := Aside0.mk (HB.out.below (below_step (by repeat (first | (with_reducible exact Below.refl _ _) | (with_reducible apply below_alloc) | (with_reducible apply pw_below_drewN) | (with_reducible apply below_drew1))) hb))
  have n0_ := Aside0.mk (blk_below (g := w3.heap.size) (o := (.cells #[.int .i64 3, .int .i64 (-3), .string ⟨#[]⟩] 23)) (by repeat (first | (with_reducible exact BX0.out) | (with_reducible refine blk_alloc ?_ _) | (with_reducible refine blk_drewN ?_ _) | (with_reducible refine blk_drew ?_))) hb)
  have n1_ := Aside0.mk (blk_below (g := w6.heap.size) (o := (.cells #[.int .i64 4, .int .i64 0, .string ⟨#[97, 49]⟩] 23)) (by repeat (first | (with_reducible exact BX1.out) | (with_reducible refine blk_alloc ?_ _) | (with_reducible refine blk_drewN ?_ _) | (with_reducible refine blk_drew ?_))) hb)
  have n2_ := Aside0.mk (blk_below (g := w9.heap.size) (o := (.cells #[.int .i64 0, .int .i64 0, .string ⟨#[]⟩] 23)) (by repeat (first | (with_reducible exact BX2.out) | (with_reducible refine blk_alloc ?_ _) | (with_reducible refine blk_drewN ?_ _) | (with_reducible refine blk_drew ?_))) hb)
  clear BX0
  have BX0 := n0_
  clear n0_
  clear BX1
  have BX1 := n1_
  clear n1_
  clear BX2
  have BX2 := n2_
  clear n2_
  clear HB hb
  have HB := nH_
  clear nH_
  haveI : GW w11 := GW.of HB.out.bel
  have BX3 := Aside0.mk (heap_alloc_new w11 (.cells #[.int .i64 4, .int .i64 0, .string ⟨#[115, 116, 114, 105, 110, 103]⟩] 23))
  have nH_ := Aside0.mk (HB.out.more (W2 := w11.alloc (.cells #[.int .i64 4, .int .i64 0, .string ⟨#[115, 116, 114, 105, 110, 103]⟩] 23)) (below_alloc (Below.refl _ _) _))
  clear HB
  have HB := nH_
  clear nH_
  go_wp2_with (go_at_call 26; refine hold_ ?_)
  unfold Held
  refine (gussetlaw24_text.calls ⟨#[97, 195, 164]⟩ 4 0 ⟨#[97, 195, 164]⟩ _ (by kernel_rfl)).mono ?_
  rintro e w12 ⟨rfl, hb⟩
  have nH_ := Aside0.mk (HB.out.below (below_step (by repeat (first | (with_reducible exact Below.refl _ _) | (with_reducible apply below_alloc) | (with_reducible apply pw_below_drewN) | (with_reducible apply below_drew1))) hb))
  have n0_ := Aside0.mk (blk_below (g := w3.heap.size) (o := (.cells #[.int .i64 3, .int .i64 (-3), .string ⟨#[]⟩] 23)) (by repeat (first | (with_reducible exact BX0.out) | (with_reducible refine blk_alloc ?_ _) | (with_reducible refine blk_drewN ?_ _) | (with_reducible refine blk_drew ?_))) hb)
  have n1_ := Aside0.mk (blk_below (g := w6.heap.size) (o := (.cells #[.int .i64 4, .int .i64 0, .string ⟨#[97, 49]⟩] 23)) (by repeat (first | (with_reducible exact BX1.out) | (with_reducible refine blk_alloc ?_ _) | (with_reducible refine blk_drewN ?_ _) | (with_reducible refine blk_drew ?_))) hb)
  have n2_ := Aside0.mk (blk_below (g := w9.heap.size) (o := (.cells #[.int .i64 0, .int .i64 0, .string ⟨#[]⟩] 23)) (by repeat (first | (with_reducible exact BX2.out) | (with_reducible refine blk_alloc ?_ _) | (with_reducible refine blk_drewN ?_ _) | (with_reducible refine blk_drew ?_))) hb)
  have n3_ := Aside0.mk (blk_below (g := w11.heap.size) (o := (.cells #[.int .i64 4, .int .i64 0, .string ⟨#[115, 116, 114, 105, 110, 103]⟩] 23)) (by repeat (first | (with_reducible exact BX3.out) | (with_reducible refine blk_alloc ?_ _) | (with_reducible refine blk_drewN ?_ _) | (with_reducible refine blk_drew ?_))) hb)
  clear BX0
  have BX0 := n0_
  clear n0_
  clear BX1
  have BX1 := n1_
  clear n1_
  clear BX2
  have BX2 := n2_
  clear n2_
  clear BX3
  have BX3 := n3_
  clear n3_
  clear HB hb
  have HB := nH_
  clear nH_
  haveI : GW w12 := GW.of HB.out.bel
  go_wp2_with (go_at_call 17; refine hold_ ?_)
  unfold Held
  refine (member_text _ (some ⟨w.heap.size, 0, none⟩) 0 ⟨#[97, 195, 164]⟩ 2 (by kernel_rfl) (by kernel_rfl)).mono ?_
  rintro e w13 ⟨rfl, hb⟩
  have nH_ := Aside0.mk (HB.out.below (below_step (by repeat (first | (with_reducible exact Below.refl _ _) | (with_reducible apply below_alloc) | (with_reducible apply pw_below_drewN) | (with_reducible apply below_drew1))) hb))
  have n0_ := Aside0.mk (blk_below (g := w3.heap.size) (o := (.cells #[.int .i64 3, .int .i64 (-3), .string ⟨#[]⟩] 23)) (by repeat (first | (with_reducible exact BX0.out) | (with_reducible refine blk_alloc ?_ _) | (with_reducible refine blk_drewN ?_ _) | (with_reducible refine blk_drew ?_))) hb)
  have n1_ := Aside0.mk (blk_below (g := w6.heap.size) (o := (.cells #[.int .i64 4, .int .i64 0, .string ⟨#[97, 49]⟩] 23)) (by repeat (first | (with_reducible exact BX1.out) | (with_reducible refine blk_alloc ?_ _) | (with_reducible refine blk_drewN ?_ _) | (with_reducible refine blk_drew ?_))) hb)
  have n2_ := Aside0.mk (blk_below (g := w9.heap.size) (o := (.cells #[.int .i64 0, .int .i64 0, .string ⟨#[]⟩] 23)) (by repeat (first | (with_reducible exact BX2.out) | (with_reducible refine blk_alloc ?_ _) | (with_reducible refine blk_drewN ?_ _) | (with_reducible refine blk_drew ?_))) hb)
  have n3_ := Aside0.mk (blk_below (g := w11.heap.size) (o := (.cells #[.int .i64 4, .int .i64 0, .string ⟨#[115, 116, 114, 105, 110, 103]⟩] 23)) (by repeat (first | (with_reducible exact BX3.out) | (with_reducible refine blk_alloc ?_ _) | (with_reducible refine blk_drewN ?_ _) | (with_reducible refine blk_drew ?_))) hb)
  clear BX0
  have BX0 := n0_
  clear n0_
  clear BX1
  have BX1 := n1_
  clear n1_
  clear BX2
  have BX2 := n2_
  clear n2_
  clear BX3
  have BX3 := n3_
  clear n3_
  clear HB hb
  have HB := nH_
  clear nH_
  haveI : GW w13 := GW.of HB.out.bel
  have BX4 := Aside0.mk (heap_alloc_new w13 (.cells #[.int .i64 3, .int .i64 2, .string ⟨#[]⟩] 23))
  have nH_ := Aside0.mk (HB.out.more (W2 := w13.alloc (.cells #[.int .i64 3, .int .i64 2, .string ⟨#[]⟩] 23)) (below_alloc (Below.refl _ _) _))
  clear HB
  have HB := nH_
  clear nH_
  go_wp2_with (go_at_call 26; refine hold_ ?_)
  unfold Held
  refine (gussetlaw24_text.calls ⟨#[45, 53]⟩ 4 0 ⟨#[45, 53]⟩ _ (by kernel_rfl)).mono ?_
  rintro e w14 ⟨rfl, hb⟩
  have nH_ := Aside0.mk (HB.out.below (below_step (by repeat (first | (with_reducible exact Below.refl _ _) | (with_reducible apply below_alloc) | (with_reducible apply pw_below_drewN) | (with_reducible apply below_drew1))) hb))
  have n0_ := Aside0.mk (blk_below (g := w3.heap.size) (o := (.cells #[.int .i64 3, .int .i64 (-3), .string ⟨#[]⟩] 23)) (by repeat (first | (with_reducible exact BX0.out) | (with_reducible refine blk_alloc ?_ _) | (with_reducible refine blk_drewN ?_ _) | (with_reducible refine blk_drew ?_))) hb)
  have n1_ := Aside0.mk (blk_below (g := w6.heap.size) (o := (.cells #[.int .i64 4, .int .i64 0, .string ⟨#[97, 49]⟩] 23)) (by repeat (first | (with_reducible exact BX1.out) | (with_reducible refine blk_alloc ?_ _) | (with_reducible refine blk_drewN ?_ _) | (with_reducible refine blk_drew ?_))) hb)
  have n2_ := Aside0.mk (blk_below (g := w9.heap.size) (o := (.cells #[.int .i64 0, .int .i64 0, .string ⟨#[]⟩] 23)) (by repeat (first | (with_reducible exact BX2.out) | (with_reducible refine blk_alloc ?_ _) | (with_reducible refine blk_drewN ?_ _) | (with_reducible refine blk_drew ?_))) hb)
  have n3_ := Aside0.mk (blk_below (g := w11.heap.size) (o := (.cells #[.int .i64 4, .int .i64 0, .string ⟨#[115, 116, 114, 105, 110, 103]⟩] 23)) (by repeat (first | (with_reducible exact BX3.out) | (with_reducible refine blk_alloc ?_ _) | (with_reducible refine blk_drewN ?_ _) | (with_reducible refine blk_drew ?_))) hb)
  have n4_ := Aside0.mk (blk_below (g := w13.heap.size) (o := (.cells #[.int .i64 3, .int .i64 2, .string ⟨#[]⟩] 23)) (by repeat (first | (with_reducible exact BX4.out) | (with_reducible refine blk_alloc ?_ _) | (with_reducible refine blk_drewN ?_ _) | (with_reducible refine blk_drew ?_))) hb)
  clear BX0
  have BX0 := n0_
  clear n0_
  clear BX1
  have BX1 := n1_
  clear n1_
  clear BX2
  have BX2 := n2_
  clear n2_
  clear BX3
  have BX3 := n3_
  clear n3_
  clear BX4
  have BX4 := n4_
  clear n4_
  clear HB hb
  have HB := nH_
  clear nH_
  haveI : GW w14 := GW.of HB.out.bel
  go_wp2_with (go_at_call 37; refine hold_ ?_)
  unfold Held
  refine (builtin_parse _ (some ⟨w.heap.size, 0, none⟩) w14.heap.size 0 ⟨#[45, 53]⟩ 3 (-5) ⟨#[]⟩ (heap_alloc_new w14 (.cells #[.int .i64 4, .int .i64 0, .string ⟨#[45, 53]⟩] 23)) (by kernel_rfl)).mono ?_
  rintro e w15 ⟨rfl, hb⟩
  have nH_ := Aside0.mk (HB.out.below (below_step (by repeat (first | (with_reducible exact Below.refl _ _) | (with_reducible apply below_alloc) | (with_reducible apply pw_below_drewN) | (with_reducible apply below_drew1))) hb))
  have n0_ := Aside0.mk (blk_below (g := w3.heap.size) (o := (.cells #[.int .i64 3, .int .i64 (-3), .string ⟨#[]⟩] 23)) (by repeat (first | (with_reducible exact BX0.out) | (with_reducible refine blk_alloc ?_ _) | (with_reducible refine blk_drewN ?_ _) | (with_reducible refine blk_drew ?_))) hb)
  have n1_ := Aside0.mk (blk_below (g := w6.heap.size) (o := (.cells #[.int .i64 4, .int .i64 0, .string ⟨#[97, 49]⟩] 23)) (by repeat (first | (with_reducible exact BX1.out) | (with_reducible refine blk_alloc ?_ _) | (with_reducible refine blk_drewN ?_ _) | (with_reducible refine blk_drew ?_))) hb)
  have n2_ := Aside0.mk (blk_below (g := w9.heap.size) (o := (.cells #[.int .i64 0, .int .i64 0, .string ⟨#[]⟩] 23)) (by repeat (first | (with_reducible exact BX2.out) | (with_reducible refine blk_alloc ?_ _) | (with_reducible refine blk_drewN ?_ _) | (with_reducible refine blk_drew ?_))) hb)
  have n3_ := Aside0.mk (blk_below (g := w11.heap.size) (o := (.cells #[.int .i64 4, .int .i64 0, .string ⟨#[115, 116, 114, 105, 110, 103]⟩] 23)) (by repeat (first | (with_reducible exact BX3.out) | (with_reducible refine blk_alloc ?_ _) | (with_reducible refine blk_drewN ?_ _) | (with_reducible refine blk_drew ?_))) hb)
  have n4_ := Aside0.mk (blk_below (g := w13.heap.size) (o := (.cells #[.int .i64 3, .int .i64 2, .string ⟨#[]⟩] 23)) (by repeat (first | (with_reducible exact BX4.out) | (with_reducible refine blk_alloc ?_ _) | (with_reducible refine blk_drewN ?_ _) | (with_reducible refine blk_drew ?_))) hb)
  clear BX0
  have BX0 := n0_
  clear n0_
  clear BX1
  have BX1 := n1_
  clear n1_
  clear BX2
  have BX2 := n2_
  clear n2_
  clear BX3
  have BX3 := n3_
  clear n3_
  clear BX4
  have BX4 := n4_
  clear n4_
  clear HB hb
  have HB := nH_
  clear nH_
  haveI : GW w15 := GW.of HB.out.bel
  have BX5 := Aside0.mk (heap_alloc_new w15 (.cells #[.int .i64 3, .int .i64 (-5), .string ⟨#[]⟩] 23))
  have nH_ := Aside0.mk (HB.out.more (W2 := w15.alloc (.cells #[.int .i64 3, .int .i64 (-5), .string ⟨#[]⟩] 23)) (below_alloc (Below.refl _ _) _))
  clear HB
  have HB := nH_
  clear nH_
  go_wp2_with (go_at_call 23; refine hold_ ?_)
  unfold Held
  refine (gussetlaw24_num.calls 2 3 2 ⟨#[]⟩ _ (by kernel_rfl)).mono ?_
  rintro e w16 ⟨rfl, hb⟩
  have nH_ := Aside0.mk (HB.out.below (below_step (by repeat (first | (with_reducible exact Below.refl _ _) | (with_reducible apply below_alloc) | (with_reducible apply pw_below_drewN) | (with_reducible apply below_drew1))) hb))
  have n0_ := Aside0.mk (blk_below (g := w3.heap.size) (o := (.cells #[.int .i64 3, .int .i64 (-3), .string ⟨#[]⟩] 23)) (by repeat (first | (with_reducible exact BX0.out) | (with_reducible refine blk_alloc ?_ _) | (with_reducible refine blk_drewN ?_ _) | (with_reducible refine blk_drew ?_))) hb)
  have n1_ := Aside0.mk (blk_below (g := w6.heap.size) (o := (.cells #[.int .i64 4, .int .i64 0, .string ⟨#[97, 49]⟩] 23)) (by repeat (first | (with_reducible exact BX1.out) | (with_reducible refine blk_alloc ?_ _) | (with_reducible refine blk_drewN ?_ _) | (with_reducible refine blk_drew ?_))) hb)
  have n2_ := Aside0.mk (blk_below (g := w9.heap.size) (o := (.cells #[.int .i64 0, .int .i64 0, .string ⟨#[]⟩] 23)) (by repeat (first | (with_reducible exact BX2.out) | (with_reducible refine blk_alloc ?_ _) | (with_reducible refine blk_drewN ?_ _) | (with_reducible refine blk_drew ?_))) hb)
  have n3_ := Aside0.mk (blk_below (g := w11.heap.size) (o := (.cells #[.int .i64 4, .int .i64 0, .string ⟨#[115, 116, 114, 105, 110, 103]⟩] 23)) (by repeat (first | (with_reducible exact BX3.out) | (with_reducible refine blk_alloc ?_ _) | (with_reducible refine blk_drewN ?_ _) | (with_reducible refine blk_drew ?_))) hb)
  have n4_ := Aside0.mk (blk_below (g := w13.heap.size) (o := (.cells #[.int .i64 3, .int .i64 2, .string ⟨#[]⟩] 23)) (by repeat (first | (with_reducible exact BX4.out) | (with_reducible refine blk_alloc ?_ _) | (with_reducible refine blk_drewN ?_ _) | (with_reducible refine blk_drew ?_))) hb)
  have n5_ := Aside0.mk (blk_below (g := w15.heap.size) (o := (.cells #[.int .i64 3, .int .i64 (-5), .string ⟨#[]⟩] 23)) (by repeat (first | (with_reducible exact BX5.out) | (with_reducible refine blk_alloc ?_ _) | (with_reducible refine blk_drewN ?_ _) | (with_reducible refine blk_drew ?_))) hb)
  clear BX0
  have BX0 := n0_
  clear n0_
  clear BX1
  have BX1 := n1_
  clear n1_
  clear BX2
  have BX2 := n2_
  clear n2_
  clear BX3
  have BX3 := n3_
  clear n3_
  clear BX4
  have BX4 := n4_
  clear n4_
  clear BX5
  have BX5 := n5_
  clear n5_
  clear HB hb
  have HB := nH_
  clear nH_
  haveI : GW w16 := GW.of HB.out.bel
  go_wp2_with (go_at_call 23; refine hold_ ?_)
  unfold Held
  refine (gussetlaw24_num.calls 9 3 9 ⟨#[]⟩ _ (by kernel_rfl)).mono ?_
  rintro e w17 ⟨rfl, hb⟩
  have nH_ := Aside0.mk (HB.out.below (below_step (by repeat (first | (with_reducible exact Below.refl _ _) | (with_reducible apply below_alloc) | (with_reducible apply pw_below_drewN) | (with_reducible apply below_drew1))) hb))
  have n0_ := Aside0.mk (blk_below (g := w3.heap.size) (o := (.cells #[.int .i64 3, .int .i64 (-3), .string ⟨#[]⟩] 23)) (by repeat (first | (with_reducible exact BX0.out) | (with_reducible refine blk_alloc ?_ _) | (with_reducible refine blk_drewN ?_ _) | (with_reducible refine blk_drew ?_))) hb)
  have n1_ := Aside0.mk (blk_below (g := w6.heap.size) (o := (.cells #[.int .i64 4, .int .i64 0, .string ⟨#[97, 49]⟩] 23)) (by repeat (first | (with_reducible exact BX1.out) | (with_reducible refine blk_alloc ?_ _) | (with_reducible refine blk_drewN ?_ _) | (with_reducible refine blk_drew ?_))) hb)
  have n2_ := Aside0.mk (blk_below (g := w9.heap.size) (o := (.cells #[.int .i64 0, .int .i64 0, .string ⟨#[]⟩] 23)) (by repeat (first | (with_reducible exact BX2.out) | (with_reducible refine blk_alloc ?_ _) | (with_reducible refine blk_drewN ?_ _) | (with_reducible refine blk_drew ?_))) hb)
  have n3_ := Aside0.mk (blk_below (g := w11.heap.size) (o := (.cells #[.int .i64 4, .int .i64 0, .string ⟨#[115, 116, 114, 105, 110, 103]⟩] 23)) (by repeat (first | (with_reducible exact BX3.out) | (with_reducible refine blk_alloc ?_ _) | (with_reducible refine blk_drewN ?_ _) | (with_reducible refine blk_drew ?_))) hb)
  have n4_ := Aside0.mk (blk_below (g := w13.heap.size) (o := (.cells #[.int .i64 3, .int .i64 2, .string ⟨#[]⟩] 23)) (by repeat (first | (with_reducible exact BX4.out) | (with_reducible refine blk_alloc ?_ _) | (with_reducible refine blk_drewN ?_ _) | (with_reducible refine blk_drew ?_))) hb)
  have n5_ := Aside0.mk (blk_below (g := w15.heap.size) (o := (.cells #[.int .i64 3, .int .i64 (-5), .string ⟨#[]⟩] 23)) (by repeat (first | (with_reducible exact BX5.out) | (with_reducible refine blk_alloc ?_ _) | (with_reducible refine blk_drewN ?_ _) | (with_reducible refine blk_drew ?_))) hb)
  clear BX0
  have BX0 := n0_
  clear n0_
  clear BX1
  have BX1 := n1_
  clear n1_
  clear BX2
  have BX2 := n2_
  clear n2_
  clear BX3
  have BX3 := n3_
  clear n3_
  clear BX4
  have BX4 := n4_
  clear n4_
  clear BX5
  have BX5 := n5_
  clear n5_
  clear HB hb
  have HB := nH_
  clear nH_
  haveI : GW w17 := GW.of HB.out.bel
  go_wp2_with (go_at_call 38; refine hold_ ?_)
  unfold Held
  have nL_ := HB.out.anew (G2 := _) (L2 := _) (fun k h => h) (fun k h => h)
  refine (setindex_arr nL_ 0 ⟨#[]⟩ 2 ⟨#[]⟩ ⟨3, 9, ⟨#[]⟩⟩ D4_room (by decide)).mono ?_
  rintro e w18 ⟨rfl, hb⟩
  change Both _ _ _ _ _ _ _ D5 _ at hb
  have n0_ := Aside0.mk (hb.blk (k := w3.heap.size) (o := (.cells #[.int .i64 3, .int .i64 (-3), .string ⟨#[]⟩] 23)) (Or.inl (Or.inl (Or.inl (Or.inl (Or.inl (Or.inr ⟨Nat.le_refl _, by simp⟩)))))) (by repeat (first | (with_reducible exact BX0.out) | (with_reducible refine blk_alloc ?_ _) | (with_reducible refine blk_drewN ?_ _) | (with_reducible refine blk_drew ?_))))
  have n1_ := Aside0.mk (hb.blk (k := w6.heap.size) (o := (.cells #[.int .i64 4, .int .i64 0, .string ⟨#[97, 49]⟩] 23)) (Or.inl (Or.inl (Or.inl (Or.inl (Or.inr ⟨Nat.le_refl _, by simp⟩))))) (by repeat (first | (with_reducible exact BX1.out) | (with_reducible refine blk_alloc ?_ _) | (with_reducible refine blk_drewN ?_ _) | (with_reducible refine blk_drew ?_))))
  have n2_ := Aside0.mk (hb.blk (k := w9.heap.size) (o := (.cells #[.int .i64 0, .int .i64 0, .string ⟨#[]⟩] 23)) (Or.inl (Or.inl (Or.inl (Or.inr ⟨Nat.le_refl _, by simp⟩)))) (by repeat (first | (with_reducible exact BX2.out) | (with_reducible refine blk_alloc ?_ _) | (with_reducible refine blk_drewN ?_ _) | (with_reducible refine blk_drew ?_))))
  have n3_ := Aside0.mk (hb.blk (k := w11.heap.size) (o := (.cells #[.int .i64 4, .int .i64 0, .string ⟨#[115, 116, 114, 105, 110, 103]⟩] 23)) (Or.inl (Or.inl (Or.inr ⟨Nat.le_refl _, by simp⟩))) (by repeat (first | (with_reducible exact BX3.out) | (with_reducible refine blk_alloc ?_ _) | (with_reducible refine blk_drewN ?_ _) | (with_reducible refine blk_drew ?_))))
  have n4_ := Aside0.mk (hb.blk (k := w13.heap.size) (o := (.cells #[.int .i64 3, .int .i64 2, .string ⟨#[]⟩] 23)) (Or.inl (Or.inr ⟨Nat.le_refl _, by simp⟩)) (by repeat (first | (with_reducible exact BX4.out) | (with_reducible refine blk_alloc ?_ _) | (with_reducible refine blk_drewN ?_ _) | (with_reducible refine blk_drew ?_))))
  have n5_ := Aside0.mk (hb.blk (k := w15.heap.size) (o := (.cells #[.int .i64 3, .int .i64 (-5), .string ⟨#[]⟩] 23)) (Or.inr ⟨Nat.le_refl _, by simp⟩) (by repeat (first | (with_reducible exact BX5.out) | (with_reducible refine blk_alloc ?_ _) | (with_reducible refine blk_drewN ?_ _) | (with_reducible refine blk_drew ?_))))
  have nH_ := Aside0.mk hb
  clear HB hb nL_ BX0 BX1 BX2 BX3 BX4 BX5
  have HB := nH_
  clear nH_
  have BX0 := n0_
  clear n0_
  have BX1 := n1_
  clear n1_
  have BX2 := n2_
  clear n2_
  have BX3 := n3_
  clear n3_
  have BX4 := n4_
  clear n4_
  have BX5 := n5_
  clear n5_
  haveI : GW w18 := GW.of HB.out.bel
  go_wp2_with (go_at_call 23; refine hold_ ?_)
  unfold Held
  refine (gussetlaw24_num.calls 2 3 2 ⟨#[]⟩ _ (by kernel_rfl)).mono ?_
  rintro e w19 ⟨rfl, hb⟩
  have nH_ := Aside0.mk (HB.out.below (below_step (by repeat (first | (with_reducible exact Below.refl _ _) | (with_reducible apply below_alloc) | (with_reducible apply pw_below_drewN) | (with_reducible apply below_drew1))) hb))
  have n0_ := Aside0.mk (blk_below (g := w3.heap.size) (o := (.cells #[.int .i64 3, .int .i64 (-3), .string ⟨#[]⟩] 23)) (by repeat (first | (with_reducible exact BX0.out) | (with_reducible refine blk_alloc ?_ _) | (with_reducible refine blk_drewN ?_ _) | (with_reducible refine blk_drew ?_))) hb)
  have n1_ := Aside0.mk (blk_below (g := w6.heap.size) (o := (.cells #[.int .i64 4, .int .i64 0, .string ⟨#[97, 49]⟩] 23)) (by repeat (first | (with_reducible exact BX1.out) | (with_reducible refine blk_alloc ?_ _) | (with_reducible refine blk_drewN ?_ _) | (with_reducible refine blk_drew ?_))) hb)
  have n2_ := Aside0.mk (blk_below (g := w9.heap.size) (o := (.cells #[.int .i64 0, .int .i64 0, .string ⟨#[]⟩] 23)) (by repeat (first | (with_reducible exact BX2.out) | (with_reducible refine blk_alloc ?_ _) | (with_reducible refine blk_drewN ?_ _) | (with_reducible refine blk_drew ?_))) hb)
  have n3_ := Aside0.mk (blk_below (g := w11.heap.size) (o := (.cells #[.int .i64 4, .int .i64 0, .string ⟨#[115, 116, 114, 105, 110, 103]⟩] 23)) (by repeat (first | (with_reducible exact BX3.out) | (with_reducible refine blk_alloc ?_ _) | (with_reducible refine blk_drewN ?_ _) | (with_reducible refine blk_drew ?_))) hb)
  have n4_ := Aside0.mk (blk_below (g := w13.heap.size) (o := (.cells #[.int .i64 3, .int .i64 2, .string ⟨#[]⟩] 23)) (by repeat (first | (with_reducible exact BX4.out) | (with_reducible refine blk_alloc ?_ _) | (with_reducible refine blk_drewN ?_ _) | (with_reducible refine blk_drew ?_))) hb)
  have n5_ := Aside0.mk (blk_below (g := w15.heap.size) (o := (.cells #[.int .i64 3, .int .i64 (-5), .string ⟨#[]⟩] 23)) (by repeat (first | (with_reducible exact BX5.out) | (with_reducible refine blk_alloc ?_ _) | (with_reducible refine blk_drewN ?_ _) | (with_reducible refine blk_drew ?_))) hb)
  clear BX0
  have BX0 := n0_
  clear n0_
  clear BX1
  have BX1 := n1_
  clear n1_
  clear BX2
  have BX2 := n2_
  clear n2_
  clear BX3
  have BX3 := n3_
  clear n3_
  clear BX4
  have BX4 := n4_
  clear n4_
  clear BX5
  have BX5 := n5_
  clear n5_
  clear HB hb
  have HB := nH_
  clear nH_
  haveI : GW w19 := GW.of HB.out.bel
  go_wp2_with (go_at_call 19; refine hold_ ?_)
  unfold Held
  refine (index_arr (HB.out.below (W' := _) (by repeat (first | (with_reducible exact Below.refl _ _) | (with_reducible apply below_alloc) | (with_reducible apply pw_below_drewN) | (with_reducible apply below_drew1)))) 0 ⟨#[]⟩ 2 ⟨#[]⟩ ⟨3, 9, ⟨#[]⟩⟩ true rfl).mono ?_
  rintro e w20 ⟨rfl, hb⟩
  have nH_ := Aside0.mk (HB.out.below (below_step (by repeat (first | (with_reducible exact Below.refl _ _) | (with_reducible apply below_alloc) | (with_reducible apply pw_below_drewN) | (with_reducible apply below_drew1))) hb))
  have n0_ := Aside0.mk (blk_below (g := w3.heap.size) (o := (.cells #[.int .i64 3, .int .i64 (-3), .string ⟨#[]⟩] 23)) (by repeat (first | (with_reducible exact BX0.out) | (with_reducible refine blk_alloc ?_ _) | (with_reducible refine blk_drewN ?_ _) | (with_reducible refine blk_drew ?_))) hb)
  have n1_ := Aside0.mk (blk_below (g := w6.heap.size) (o := (.cells #[.int .i64 4, .int .i64 0, .string ⟨#[97, 49]⟩] 23)) (by repeat (first | (with_reducible exact BX1.out) | (with_reducible refine blk_alloc ?_ _) | (with_reducible refine blk_drewN ?_ _) | (with_reducible refine blk_drew ?_))) hb)
  have n2_ := Aside0.mk (blk_below (g := w9.heap.size) (o := (.cells #[.int .i64 0, .int .i64 0, .string ⟨#[]⟩] 23)) (by repeat (first | (with_reducible exact BX2.out) | (with_reducible refine blk_alloc ?_ _) | (with_reducible refine blk_drewN ?_ _) | (with_reducible refine blk_drew ?_))) hb)
  have n3_ := Aside0.mk (blk_below (g := w11.heap.size) (o := (.cells #[.int .i64 4, .int .i64 0, .string ⟨#[115, 116, 114, 105, 110, 103]⟩] 23)) (by repeat (first | (with_reducible exact BX3.out) | (with_reducible refine blk_alloc ?_ _) | (with_reducible refine blk_drewN ?_ _) | (with_reducible refine blk_drew ?_))) hb)
  have n4_ := Aside0.mk (blk_below (g := w13.heap.size) (o := (.cells #[.int .i64 3, .int .i64 2, .string ⟨#[]⟩] 23)) (by repeat (first | (with_reducible exact BX4.out) | (with_reducible refine blk_alloc ?_ _) | (with_reducible refine blk_drewN ?_ _) | (with_reducible refine blk_drew ?_))) hb)
  have n5_ := Aside0.mk (blk_below (g := w15.heap.size) (o := (.cells #[.int .i64 3, .int .i64 (-5), .string ⟨#[]⟩] 23)) (by repeat (first | (with_reducible exact BX5.out) | (with_reducible refine blk_alloc ?_ _) | (with_reducible refine blk_drewN ?_ _) | (with_reducible refine blk_drew ?_))) hb)
  clear BX0
  have BX0 := n0_
  clear n0_
  clear BX1
  have BX1 := n1_
  clear n1_
  clear BX2
  have BX2 := n2_
  clear n2_
  clear BX3
  have BX3 := n3_
  clear n3_
  clear BX4
  have BX4 := n4_
  clear n4_
  clear BX5
  have BX5 := n5_
  clear n5_
  clear HB hb
  have HB := nH_
  clear nH_
  haveI : GW w20 := GW.of HB.out.bel
  have BX6 := Aside0.mk (heap_alloc_new w20 (.cells #[.int .i64 3, .int .i64 9, .string ⟨#[]⟩] 23))
  have nH_ := Aside0.mk (HB.out.more (W2 := w20.alloc (.cells #[.int .i64 3, .int .i64 9, .string ⟨#[]⟩] 23)) (below_alloc (Below.refl _ _) _))
  clear HB
  have HB := nH_
  clear nH_
  go_wp2_with (go_at_call 23; refine hold_ ?_)
  unfold Held
  refine (gussetlaw24_num.calls 1 3 1 ⟨#[]⟩ _ (by kernel_rfl)).mono ?_
  rintro e w21 ⟨rfl, hb⟩
  have nH_ := Aside0.mk (HB.out.below (below_step (by repeat (first | (with_reducible exact Below.refl _ _) | (with_reducible apply below_alloc) | (with_reducible apply pw_below_drewN) | (with_reducible apply below_drew1))) hb))
  have n0_ := Aside0.mk (blk_below (g := w3.heap.size) (o := (.cells #[.int .i64 3, .int .i64 (-3), .string ⟨#[]⟩] 23)) (by repeat (first | (with_reducible exact BX0.out) | (with_reducible refine blk_alloc ?_ _) | (with_reducible refine blk_drewN ?_ _) | (with_reducible refine blk_drew ?_))) hb)
  have n1_ := Aside0.mk (blk_below (g := w6.heap.size) (o := (.cells #[.int .i64 4, .int .i64 0, .string ⟨#[97, 49]⟩] 23)) (by repeat (first | (with_reducible exact BX1.out) | (with_reducible refine blk_alloc ?_ _) | (with_reducible refine blk_drewN ?_ _) | (with_reducible refine blk_drew ?_))) hb)
  have n2_ := Aside0.mk (blk_below (g := w9.heap.size) (o := (.cells #[.int .i64 0, .int .i64 0, .string ⟨#[]⟩] 23)) (by repeat (first | (with_reducible exact BX2.out) | (with_reducible refine blk_alloc ?_ _) | (with_reducible refine blk_drewN ?_ _) | (with_reducible refine blk_drew ?_))) hb)
  have n3_ := Aside0.mk (blk_below (g := w11.heap.size) (o := (.cells #[.int .i64 4, .int .i64 0, .string ⟨#[115, 116, 114, 105, 110, 103]⟩] 23)) (by repeat (first | (with_reducible exact BX3.out) | (with_reducible refine blk_alloc ?_ _) | (with_reducible refine blk_drewN ?_ _) | (with_reducible refine blk_drew ?_))) hb)
  have n4_ := Aside0.mk (blk_below (g := w13.heap.size) (o := (.cells #[.int .i64 3, .int .i64 2, .string ⟨#[]⟩] 23)) (by repeat (first | (with_reducible exact BX4.out) | (with_reducible refine blk_alloc ?_ _) | (with_reducible refine blk_drewN ?_ _) | (with_reducible refine blk_drew ?_))) hb)
  have n5_ := Aside0.mk (blk_below (g := w15.heap.size) (o := (.cells #[.int .i64 3, .int .i64 (-5), .string ⟨#[]⟩] 23)) (by repeat (first | (with_reducible exact BX5.out) | (with_reducible refine blk_alloc ?_ _) | (with_reducible refine blk_drewN ?_ _) | (with_reducible refine blk_drew ?_))) hb)
  have n6_ := Aside0.mk (blk_below (g := w20.heap.size) (o := (.cells #[.int .i64 3, .int .i64 9, .string ⟨#[]⟩] 23)) (by repeat (first | (with_reducible exact BX6.out) | (with_reducible refine blk_alloc ?_ _) | (with_reducible refine blk_drewN ?_ _) | (with_reducible refine blk_drew ?_))) hb)
  clear BX0
  have BX0 := n0_
  clear n0_
  clear BX1
  have BX1 := n1_
  clear n1_
  clear BX2
  have BX2 := n2_
  clear n2_
  clear BX3
  have BX3 := n3_
  clear n3_
  clear BX4
  have BX4 := n4_
  clear n4_
  clear BX5
  have BX5 := n5_
  clear n5_
  clear BX6
  have BX6 := n6_
  clear n6_
  clear HB hb
  have HB := nH_
  clear nH_
  haveI : GW w21 := GW.of HB.out.bel
  go_wp2_with (go_at_call 23; refine hold_ ?_)
  unfold Held
  refine (gussetlaw24_num.calls 1 3 1 ⟨#[]⟩ _ (by kernel_rfl)).mono ?_
  rintro e w22 ⟨rfl, hb⟩
  have nH_ := Aside0.mk (HB.out.below (below_step (by repeat (first | (with_reducible exact Below.refl _ _) | (with_reducible apply below_alloc) | (with_reducible apply pw_below_drewN) | (with_reducible apply below_drew1))) hb))
  have n0_ := Aside0.mk (blk_below (g := w3.heap.size) (o := (.cells #[.int .i64 3, .int .i64 (-3), .string ⟨#[]⟩] 23)) (by repeat (first | (with_reducible exact BX0.out) | (with_reducible refine blk_alloc ?_ _) | (with_reducible refine blk_drewN ?_ _) | (with_reducible refine blk_drew ?_))) hb)
  have n1_ := Aside0.mk (blk_below (g := w6.heap.size) (o := (.cells #[.int .i64 4, .int .i64 0, .string ⟨#[97, 49]⟩] 23)) (by repeat (first | (with_reducible exact BX1.out) | (with_reducible refine blk_alloc ?_ _) | (with_reducible refine blk_drewN ?_ _) | (with_reducible refine blk_drew ?_))) hb)
  have n2_ := Aside0.mk (blk_below (g := w9.heap.size) (o := (.cells #[.int .i64 0, .int .i64 0, .string ⟨#[]⟩] 23)) (by repeat (first | (with_reducible exact BX2.out) | (with_reducible refine blk_alloc ?_ _) | (with_reducible refine blk_drewN ?_ _) | (with_reducible refine blk_drew ?_))) hb)
  have n3_ := Aside0.mk (blk_below (g := w11.heap.size) (o := (.cells #[.int .i64 4, .int .i64 0, .string ⟨#[115, 116, 114, 105, 110, 103]⟩] 23)) (by repeat (first | (with_reducible exact BX3.out) | (with_reducible refine blk_alloc ?_ _) | (with_reducible refine blk_drewN ?_ _) | (with_reducible refine blk_drew ?_))) hb)
  have n4_ := Aside0.mk (blk_below (g := w13.heap.size) (o := (.cells #[.int .i64 3, .int .i64 2, .string ⟨#[]⟩] 23)) (by repeat (first | (with_reducible exact BX4.out) | (with_reducible refine blk_alloc ?_ _) | (with_reducible refine blk_drewN ?_ _) | (with_reducible refine blk_drew ?_))) hb)
  have n5_ := Aside0.mk (blk_below (g := w15.heap.size) (o := (.cells #[.int .i64 3, .int .i64 (-5), .string ⟨#[]⟩] 23)) (by repeat (first | (with_reducible exact BX5.out) | (with_reducible refine blk_alloc ?_ _) | (with_reducible refine blk_drewN ?_ _) | (with_reducible refine blk_drew ?_))) hb)
  have n6_ := Aside0.mk (blk_below (g := w20.heap.size) (o := (.cells #[.int .i64 3, .int .i64 9, .string ⟨#[]⟩] 23)) (by repeat (first | (with_reducible exact BX6.out) | (with_reducible refine blk_alloc ?_ _) | (with_reducible refine blk_drewN ?_ _) | (with_reducible refine blk_drew ?_))) hb)
  clear BX0
  have BX0 := n0_
  clear n0_
  clear BX1
  have BX1 := n1_
  clear n1_
  clear BX2
  have BX2 := n2_
  clear n2_
  clear BX3
  have BX3 := n3_
  clear n3_
  clear BX4
  have BX4 := n4_
  clear n4_
  clear BX5
  have BX5 := n5_
  clear n5_
  clear BX6
  have BX6 := n6_
  clear n6_
  clear HB hb
  have HB := nH_
  clear nH_
  haveI : GW w22 := GW.of HB.out.bel
  go_wp2_with (go_at_call 39; refine hold_ ?_)
  unfold Held
  refine (setmember_num _ (some ⟨w.heap.size, 0, none⟩) 1 ⟨#[]⟩ ⟨#[120]⟩ ⟨3, 1, ⟨#[]⟩⟩).mono ?_
  rintro e w23 ⟨rfl, hb⟩
  have nH_ := Aside0.mk (HB.out.below (below_step (by repeat (first | (with_reducible exact Below.refl _ _) | (with_reducible apply below_alloc) | (with_reducible apply pw_below_drewN) | (with_reducible apply below_drew1))) hb))
  have n0_ := Aside0.mk (blk_below (g := w3.heap.size) (o := (.cells #[.int .i64 3, .int .i64 (-3), .string ⟨#[]⟩] 23)) (by repeat (first | (with_reducible exact BX0.out) | (with_reducible refine blk_alloc ?_ _) | (with_reducible refine blk_drewN ?_ _) | (with_reducible refine blk_drew ?_))) hb)
  have n1_ := Aside0.mk (blk_below (g := w6.heap.size) (o := (.cells #[.int .i64 4, .int .i64 0, .string ⟨#[97, 49]⟩] 23)) (by repeat (first | (with_reducible exact BX1.out) | (with_reducible refine blk_alloc ?_ _) | (with_reducible refine blk_drewN ?_ _) | (with_reducible refine blk_drew ?_))) hb)
  have n2_ := Aside0.mk (blk_below (g := w9.heap.size) (o := (.cells #[.int .i64 0, .int .i64 0, .string ⟨#[]⟩] 23)) (by repeat (first | (with_reducible exact BX2.out) | (with_reducible refine blk_alloc ?_ _) | (with_reducible refine blk_drewN ?_ _) | (with_reducible refine blk_drew ?_))) hb)
  have n3_ := Aside0.mk (blk_below (g := w11.heap.size) (o := (.cells #[.int .i64 4, .int .i64 0, .string ⟨#[115, 116, 114, 105, 110, 103]⟩] 23)) (by repeat (first | (with_reducible exact BX3.out) | (with_reducible refine blk_alloc ?_ _) | (with_reducible refine blk_drewN ?_ _) | (with_reducible refine blk_drew ?_))) hb)
  have n4_ := Aside0.mk (blk_below (g := w13.heap.size) (o := (.cells #[.int .i64 3, .int .i64 2, .string ⟨#[]⟩] 23)) (by repeat (first | (with_reducible exact BX4.out) | (with_reducible refine blk_alloc ?_ _) | (with_reducible refine blk_drewN ?_ _) | (with_reducible refine blk_drew ?_))) hb)
  have n5_ := Aside0.mk (blk_below (g := w15.heap.size) (o := (.cells #[.int .i64 3, .int .i64 (-5), .string ⟨#[]⟩] 23)) (by repeat (first | (with_reducible exact BX5.out) | (with_reducible refine blk_alloc ?_ _) | (with_reducible refine blk_drewN ?_ _) | (with_reducible refine blk_drew ?_))) hb)
  have n6_ := Aside0.mk (blk_below (g := w20.heap.size) (o := (.cells #[.int .i64 3, .int .i64 9, .string ⟨#[]⟩] 23)) (by repeat (first | (with_reducible exact BX6.out) | (with_reducible refine blk_alloc ?_ _) | (with_reducible refine blk_drewN ?_ _) | (with_reducible refine blk_drew ?_))) hb)
  clear BX0
  have BX0 := n0_
  clear n0_
  clear BX1
  have BX1 := n1_
  clear n1_
  clear BX2
  have BX2 := n2_
  clear n2_
  clear BX3
  have BX3 := n3_
  clear n3_
  clear BX4
  have BX4 := n4_
  clear n4_
  clear BX5
  have BX5 := n5_
  clear n5_
  clear BX6
  have BX6 := n6_
  clear n6_
  clear HB hb
  have HB := nH_
  clear nH_
  haveI : GW w23 := GW.of HB.out.bel
  go_wp2
  refine start_ (n := 65) (S := fun w' => w'.cell? ⟨w3.heap.size, 0, none⟩ = some (.int .i64 3) ∧ w'.cell? ⟨w3.heap.size, 1, none⟩ = some (.int .i64 (-3)) ∧ w'.cell? ⟨w3.heap.size, 2, none⟩ = some (.string ⟨#[]⟩) ∧ w'.cell? ⟨w6.heap.size, 0, none⟩ = some (.int .i64 4) ∧ w'.cell? ⟨w6.heap.size, 1, none⟩ = some (.int .i64 0) ∧ w'.cell? ⟨w6.heap.size, 2, none⟩ = some (.string ⟨#[97, 49]⟩) ∧ w'.cell? ⟨w11.heap.size, 0, none⟩ = some (.int .i64 4) ∧ w'.cell? ⟨w11.heap.size, 1, none⟩ = some (.int .i64 0) ∧ w'.cell? ⟨w11.heap.size, 2, none⟩ = some (.string ⟨#[115, 116, 114, 105, 110, 103]⟩) ∧ w'.cell? ⟨w13.heap.size, 0, none⟩ = some (.int .i64 3) ∧ w'.cell? ⟨w13.heap.size, 1, none⟩ = some (.int .i64 2) ∧ w'.cell? ⟨w13.heap.size, 2, none⟩ = some (.string ⟨#[]⟩) ∧ w'.cell? ⟨w15.heap.size, 0, none⟩ = some (.int .i64 3) ∧ w'.cell? ⟨w15.heap.size, 1, none⟩ = some (.int .i64 (-5)) ∧ w'.cell? ⟨w15.heap.size, 2, none⟩ = some (.string ⟨#[]⟩) ∧ w'.cell? ⟨w20.heap.size, 0, none⟩ = some (.int .i64 3) ∧ w'.cell? ⟨w20.heap.size, 1, none⟩ = some (.int .i64 9) ∧ w'.cell? ⟨w20.heap.size, 2, none⟩ = some (.string ⟨#[]⟩)) (ds := []) #[false, false, false, false, false, false, false, false, false, false, false, false, false, false, false, false, false, false, false, false, false, false, false, false, false, false, false, false, false, false, false, false, false, false, false, false, false, false, false, false, false, false, false, false, false, false, false, false, false, false, false, false, false, false, false, false, false, false, false, false, false, false, false, false, false] (by kernel_rfl) rfl rfl ⟨(blk_cell BX0.out 0).trans rfl, (blk_cell BX0.out 1).trans rfl, (blk_cell BX0.out 2).trans rfl, (blk_cell BX1.out 0).trans rfl, (blk_cell BX1.out 1).trans rfl, (blk_cell BX1.out 2).trans rfl, (blk_cell BX3.out 0).trans rfl, (blk_cell BX3.out 1).trans rfl, (blk_cell BX3.out 2).trans rfl, (blk_cell BX4.out 0).trans rfl, (blk_cell BX4.out 1).trans rfl, (blk_cell BX4.out 2).trans rfl, (blk_cell BX5.out 0).trans rfl, (blk_cell BX5.out 1).trans rfl, (blk_cell BX5.out 2).trans rfl, (blk_cell BX6.out 0).trans rfl, (blk_cell BX6.out 1).trans rfl, (blk_cell BX6.out 2).trans rfl⟩ (fun hHeld => ?_); refine with_tabW sure13.tab sure13.bits (fun HT_ HW_ => ?_)
  refine take_ (i := 0) (N := some 80) (v := ?_) (a' := ?_) #[true, false, false, false, false, false, false, false, false, false, false, false, false, false, false, false, false, false, false, false, false, false, false, false, false, false, false, false, false, false, false, false, false, false, false, false, false, false, false, false, false, false, false, false, false, false, false, false, false, false, false, false, false, false, false, false, false, false, false, false, false, false, false, false, false] rfl rfl (take_ofW HT_.out HW_.out (by kernel_rfl)) (fun _ _ _ h => h) (Or.inl ⟨by rfl, ?_⟩) hHeld ?_ ?_
  rotate_left
  · rintro w' ⟨s0, s1, s2, s3, s4, s5, s6, s7, s8, s9, s10, s11, s12, s13, s14, s15, s16, s17⟩
    go_simp
    with_reducible rfl
  rotate_left
  · simp only [Act.put, List.setIfInBounds_toArray, List.set_cons_zero, List.set_cons_succ, i64_w, i32_w]
    rfl
  refine one_ (i := 1) (N := some 81) #[true, true, false, false, false, false, false, false, false, false, false, false, false, false, false, false, false, false, false, false, false, false, false, false, false, false, false, false, false, false, false, false, false, false, false, false, false, false, false, false, false, false, false, false, false, false, false, false, false, false, false, false, false, false, false, false, false, false, false, false, false, false, false, false, false] rfl rfl (one_of HT_.out (by kernel_rfl)) (by decide) (fun K hK => ?_)
  refine goes_ Tryd.func23 (by kernel_rfl) rfl #[.int .i64 (-3)] (by rfl) rfl rfl (by (try simp only [List.map_toArray, List.map_cons, List.map_nil]); first | done | rfl) ?_
  refine (gussetlaw24_num.calls (-3) 3 (-3) ⟨#[]⟩ _ (by kernel_rfl)).mono ?_
  rintro e x1 ⟨rfl, hb⟩
  refine ⟨_, rfl, ?_⟩
  have nH_ := Aside0.mk (HB.out.below (below_step (by repeat (first | (with_reducible exact Below.refl _ _) | (with_reducible apply below_alloc) | (with_reducible apply pw_below_drewN) | (with_reducible apply below_drew1))) hb))
  have n0_ := Aside0.mk (blk_below (g := w3.heap.size) (o := (.cells #[.int .i64 3, .int .i64 (-3), .string ⟨#[]⟩] 23)) (by repeat (first | (with_reducible exact BX0.out) | (with_reducible refine blk_alloc ?_ _) | (with_reducible refine blk_drewN ?_ _) | (with_reducible refine blk_drew ?_))) hb)
  have n1_ := Aside0.mk (blk_below (g := w6.heap.size) (o := (.cells #[.int .i64 4, .int .i64 0, .string ⟨#[97, 49]⟩] 23)) (by repeat (first | (with_reducible exact BX1.out) | (with_reducible refine blk_alloc ?_ _) | (with_reducible refine blk_drewN ?_ _) | (with_reducible refine blk_drew ?_))) hb)
  have n2_ := Aside0.mk (blk_below (g := w9.heap.size) (o := (.cells #[.int .i64 0, .int .i64 0, .string ⟨#[]⟩] 23)) (by repeat (first | (with_reducible exact BX2.out) | (with_reducible refine blk_alloc ?_ _) | (with_reducible refine blk_drewN ?_ _) | (with_reducible refine blk_drew ?_))) hb)
  have n3_ := Aside0.mk (blk_below (g := w11.heap.size) (o := (.cells #[.int .i64 4, .int .i64 0, .string ⟨#[115, 116, 114, 105, 110, 103]⟩] 23)) (by repeat (first | (with_reducible exact BX3.out) | (with_reducible refine blk_alloc ?_ _) | (with_reducible refine blk_drewN ?_ _) | (with_reducible refine blk_drew ?_))) hb)
  have n4_ := Aside0.mk (blk_below (g := w13.heap.size) (o := (.cells #[.int .i64 3, .int .i64 2, .string ⟨#[]⟩] 23)) (by repeat (first | (with_reducible exact BX4.out) | (with_reducible refine blk_alloc ?_ _) | (with_reducible refine blk_drewN ?_ _) | (with_reducible refine blk_drew ?_))) hb)
  have n5_ := Aside0.mk (blk_below (g := w15.heap.size) (o := (.cells #[.int .i64 3, .int .i64 (-5), .string ⟨#[]⟩] 23)) (by repeat (first | (with_reducible exact BX5.out) | (with_reducible refine blk_alloc ?_ _) | (with_reducible refine blk_drewN ?_ _) | (with_reducible refine blk_drew ?_))) hb)
  have n6_ := Aside0.mk (blk_below (g := w20.heap.size) (o := (.cells #[.int .i64 3, .int .i64 9, .string ⟨#[]⟩] 23)) (by repeat (first | (with_reducible exact BX6.out) | (with_reducible refine blk_alloc ?_ _) | (with_reducible refine blk_drewN ?_ _) | (with_reducible refine blk_drew ?_))) hb)
  clear BX0
  have BX0 := n0_
  clear n0_
  clear BX1
  have BX1 := n1_
  clear n1_
  clear BX2
  have BX2 := n2_
  clear n2_
  clear BX3
  have BX3 := n3_
  clear n3_
  clear BX4
  have BX4 := n4_
  clear n4_
  clear BX5
  have BX5 := n5_
  clear n5_
  clear BX6
  have BX6 := n6_
  clear n6_
  clear HB hb
  have HB := nH_
  clear nH_
  refine hK.out _ _ ⟨(blk_cell BX0.out 0).trans rfl, (blk_cell BX0.out 1).trans rfl, (blk_cell BX0.out 2).trans rfl, (blk_cell BX1.out 0).trans rfl, (blk_cell BX1.out 1).trans rfl, (blk_cell BX1.out 2).trans rfl, (blk_cell BX3.out 0).trans rfl, (blk_cell BX3.out 1).trans rfl, (blk_cell BX3.out 2).trans rfl, (blk_cell BX4.out 0).trans rfl, (blk_cell BX4.out 1).trans rfl, (blk_cell BX4.out 2).trans rfl, (blk_cell BX5.out 0).trans rfl, (blk_cell BX5.out 1).trans rfl, (blk_cell BX5.out 2).trans rfl, (blk_cell BX6.out 0).trans rfl, (blk_cell BX6.out 1).trans rfl, (blk_cell BX6.out 2).trans rfl⟩ (fun hHeld => ?_)
  clear hK K
  refine norm_ (a' := ?_) ?_ ?_
  rotate_left
  · show Act.put _ (some 81) _ = _
    simp only [Act.put, List.setIfInBounds_toArray, List.set_cons_zero, List.set_cons_succ, i64_w, i32_w]
    rfl
  refine pure_ (i := 2) (N := some 82) (v := ?_) (a' := ?_) #[true, true, true, false, false, false, false, false, false, false, false, false, false, false, false, false, false, false, false, false, false, false, false, false, false, false, false, false, false, false, false, false, false, false, false, false, false, false, false, false, false, false, false, false, false, false, false, false, false, false, false, false, false, false, false, false, false, false, false, false, false, false, false, false, false] rfl rfl (any_of HT_.out (by kernel_rfl)) (fun _ _ _ h => h) (Or.inl ⟨by rfl, ?_⟩) ?_ ?_
  rotate_left
  · intro w'
    go_simp
    with_reducible rfl
  rotate_left
  · simp only [Act.put, List.setIfInBounds_toArray, List.set_cons_zero, List.set_cons_succ, i64_w, i32_w]
    rfl
  refine pure_ (i := 3) (N := some 83) (v := ?_) (a' := ?_) #[true, true, true, true, false, false, false, false, false, false, false, false, false, false, false, false, false, false, false, false, false, false, false, false, false, false, false, false, false, false, false, false, false, false, false, false, false, false, false, false, false, false, false, false, false, false, false, false, false, false, false, false, false, false, false, false, false, false, false, false, false, false, false, false, false] rfl rfl (any_of HT_.out (by kernel_rfl)) (fun _ _ _ h => h) (Or.inl ⟨by rfl, ?_⟩) ?_ ?_
  rotate_left
  · intro w'
    go_simp
    with_reducible rfl
  rotate_left
  · simp only [Act.put, List.setIfInBounds_toArray, List.set_cons_zero, List.set_cons_succ, i64_w, i32_w]
    rfl
  refine pure_ (i := 4) (N := some 84) (v := ?_) (a' := ?_) #[true, true, true, true, true, false, false, false, false, false, false, false, false, false, false, false, false, false, false, false, false, false, false, false, false, false, false, false, false, false, false, false, false, false, false, false, false, false, false, false, false, false, false, false, false, false, false, false, false, false, false, false, false, false, false, false, false, false, false, false, false, false, false, false, false] rfl rfl (any_of HT_.out (by kernel_rfl)) (fun _ _ _ h => h) (Or.inl ⟨by rfl, ?_⟩) ?_ ?_
  rotate_left
  · intro w'
    go_simp
    with_reducible rfl
  rotate_left
  · simp only [Act.put, List.setIfInBounds_toArray, List.set_cons_zero, List.set_cons_succ, i64_w, i32_w]
    rfl
  refine pure_ (i := 5) (N := some 85) (v := ?_) (a' := ?_) #[true, true, true, true, true, true, false, false, false, false, false, false, false, false, false, false, false, false, false, false, false, false, false, false, false, false, false, false, false, false, false, false, false, false, false, false, false, false, false, false, false, false, false, false, false, false, false, false, false, false, false, false, false, false, false, false, false, false, false, false, false, false, false, false, false] rfl rfl (any_of HT_.out (by kernel_rfl)) (fun _ _ _ h => h) (Or.inl ⟨by rfl, ?_⟩) ?_ ?_
  rotate_left
  · intro w'
    go_simp
    with_reducible rfl
  rotate_left
  · simp only [Act.put, List.setIfInBounds_toArray, List.set_cons_zero, List.set_cons_succ, i64_w, i32_w]
    rfl
  refine pure_ (i := 6) (N := some 86) (v := ?_) (a' := ?_) #[true, true, true, true, true, true, true, false, false, false, false, false, false, false, false, false, false, false, false, false, false, false, false, false, false, false, false, false, false, false, false, false, false, false, false, false, false, false, false, false, false, false, false, false, false, false, false, false, false, false, false, false, false, false, false, false, false, false, false, false, false, false, false, false, false] rfl rfl (any_of HT_.out (by kernel_rfl)) (fun _ _ _ h => h) (Or.inl ⟨by rfl, ?_⟩) ?_ ?_
  rotate_left
  · intro w'
    go_simp
    with_reducible rfl
  rotate_left
  · simp only [Act.put, List.setIfInBounds_toArray, List.set_cons_zero, List.set_cons_succ, i64_w, i32_w]
    rfl
  refine pure_ (i := 7) (N := some 87) (v := ?_) (a' := ?_) #[true, true, true, true, true, true, true, true, false, false, false, false, false, false, false, false, false, false, false, false, false, false, false, false, false, false, false, false, false, false, false, false, false, false, false, false, false, false, false, false, false, false, false, false, false, false, false, false, false, false, false, false, false, false, false, false, false, false, false, false, false, false, false, false, false] rfl rfl (any_of HT_.out (by kernel_rfl)) (fun _ _ _ h => h) (Or.inl ⟨by rfl, ?_⟩) ?_ ?_
  rotate_left
  · intro w'
    go_simp
    with_reducible rfl
  rotate_left
  · simp only [Act.put, List.setIfInBounds_toArray, List.set_cons_zero, List.set_cons_succ, i64_w, i32_w]
    rfl
  refine take_ (i := 8) (N := some 88) (v := ?_) (a' := ?_) #[true, true, true, true, true, true, true, true, true, false, false, false, false, false, false, false, false, false, false, false, false, false, false, false, false, false, false, false, false, false, false, false, false, false, false, false, false, false, false, false, false, false, false, false, false, false, false, false, false, false, false, false, false, false, false, false, false, false, false, false, false, false, false, false, false] rfl rfl (take_ofW HT_.out HW_.out (by kernel_rfl)) (fun _ _ _ h => h) (Or.inl ⟨by rfl, ?_⟩) hHeld ?_ ?_
  rotate_left
  · rintro w' ⟨s0, s1, s2, s3, s4, s5, s6, s7, s8, s9, s10, s11, s12, s13, s14, s15, s16, s17⟩
    go_simp
    with_reducible rfl
  rotate_left
  · simp only [Act.put, List.setIfInBounds_toArray, List.set_cons_zero, List.set_cons_succ, i64_w, i32_w]
    rfl
  refine one_ (i := 9) (N := some 89) #[true, true, true, true, true, true, true, true, true, true, false, false, false, false, false, false, false, false, false, false, false, false, false, false, false, false, false, false, false, false, false, false, false, false, false, false, false, false, false, false, false, false, false, false, false, false, false, false, false, false, false, false, false, false, false, false, false, false, false, false, false, false, false, false, false] rfl rfl (one_of HT_.out (by kernel_rfl)) (by decide) (fun K hK => ?_)
  refine goes_ Tryd.func26 (by kernel_rfl) rfl #[.string ⟨#[97, 49]⟩] (by rfl) rfl rfl (by (try simp only [List.map_toArray, List.map_cons, List.map_nil]); first | done | rfl) ?_
  refine (gussetlaw24_text.calls ⟨#[97, 49]⟩ 4 0 ⟨#[97, 49]⟩ _ (by kernel_rfl)).mono ?_
  rintro e x2 ⟨rfl, hb⟩
  refine ⟨_, rfl, ?_⟩
  have nH_ := Aside0.mk (HB.out.below (below_step (by repeat (first | (with_reducible exact Below.refl _ _) | (with_reducible apply below_alloc) | (with_reducible apply pw_below_drewN) | (with_reducible apply below_drew1))) hb))
  have n0_ := Aside0.mk (blk_below (g := w3.heap.size) (o := (.cells #[.int .i64 3, .int .i64 (-3), .string ⟨#[]⟩] 23)) (by repeat (first | (with_reducible exact BX0.out) | (with_reducible refine blk_alloc ?_ _) | (with_reducible refine blk_drewN ?_ _) | (with_reducible refine blk_drew ?_))) hb)
  have n1_ := Aside0.mk (blk_below (g := w6.heap.size) (o := (.cells #[.int .i64 4, .int .i64 0, .string ⟨#[97, 49]⟩] 23)) (by repeat (first | (with_reducible exact BX1.out) | (with_reducible refine blk_alloc ?_ _) | (with_reducible refine blk_drewN ?_ _) | (with_reducible refine blk_drew ?_))) hb)
  have n2_ := Aside0.mk (blk_below (g := w9.heap.size) (o := (.cells #[.int .i64 0, .int .i64 0, .string ⟨#[]⟩] 23)) (by repeat (first | (with_reducible exact BX2.out) | (with_reducible refine blk_alloc ?_ _) | (with_reducible refine blk_drewN ?_ _) | (with_reducible refine blk_drew ?_))) hb)
  have n3_ := Aside0.mk (blk_below (g := w11.heap.size) (o := (.cells #[.int .i64 4, .int .i64 0, .string ⟨#[115, 116, 114, 105, 110, 103]⟩] 23)) (by repeat (first | (with_reducible exact BX3.out) | (with_reducible refine blk_alloc ?_ _) | (with_reducible refine blk_drewN ?_ _) | (with_reducible refine blk_drew ?_))) hb)
  have n4_ := Aside0.mk (blk_below (g := w13.heap.size) (o := (.cells #[.int .i64 3, .int .i64 2, .string ⟨#[]⟩] 23)) (by repeat (first | (with_reducible exact BX4.out) | (with_reducible refine blk_alloc ?_ _) | (with_reducible refine blk_drewN ?_ _) | (with_reducible refine blk_drew ?_))) hb)
  have n5_ := Aside0.mk (blk_below (g := w15.heap.size) (o := (.cells #[.int .i64 3, .int .i64 (-5), .string ⟨#[]⟩] 23)) (by repeat (first | (with_reducible exact BX5.out) | (with_reducible refine blk_alloc ?_ _) | (with_reducible refine blk_drewN ?_ _) | (with_reducible refine blk_drew ?_))) hb)
  have n6_ := Aside0.mk (blk_below (g := w20.heap.size) (o := (.cells #[.int .i64 3, .int .i64 9, .string ⟨#[]⟩] 23)) (by repeat (first | (with_reducible exact BX6.out) | (with_reducible refine blk_alloc ?_ _) | (with_reducible refine blk_drewN ?_ _) | (with_reducible refine blk_drew ?_))) hb)
  clear BX0
  have BX0 := n0_
  clear n0_
  clear BX1
  have BX1 := n1_
  clear n1_
  clear BX2
  have BX2 := n2_
  clear n2_
  clear BX3
  have BX3 := n3_
  clear n3_
  clear BX4
  have BX4 := n4_
  clear n4_
  clear BX5
  have BX5 := n5_
  clear n5_
  clear BX6
  have BX6 := n6_
  clear n6_
  clear HB hb
  have HB := nH_
  clear nH_
  refine hK.out _ _ ⟨(blk_cell BX0.out 0).trans rfl, (blk_cell BX0.out 1).trans rfl, (blk_cell BX0.out 2).trans rfl, (blk_cell BX1.out 0).trans rfl, (blk_cell BX1.out 1).trans rfl, (blk_cell BX1.out 2).trans rfl, (blk_cell BX3.out 0).trans rfl, (blk_cell BX3.out 1).trans rfl, (blk_cell BX3.out 2).trans rfl, (blk_cell BX4.out 0).trans rfl, (blk_cell BX4.out 1).trans rfl, (blk_cell BX4.out 2).trans rfl, (blk_cell BX5.out 0).trans rfl, (blk_cell BX5.out 1).trans rfl, (blk_cell BX5.out 2).trans rfl, (blk_cell BX6.out 0).trans rfl, (blk_cell BX6.out 1).trans rfl, (blk_cell BX6.out 2).trans rfl⟩ (fun hHeld => ?_)
  clear hK K
  refine norm_ (a' := ?_) ?_ ?_
  rotate_left
  · show Act.put _ (some 89) _ = _
    simp only [Act.put, List.setIfInBounds_toArray, List.set_cons_zero, List.set_cons_succ, i64_w, i32_w]
    rfl
  refine pure_ (i := 10) (N := some 90) (v := ?_) (a' := ?_) #[true, true, true, true, true, true, true, true, true, true, true, false, false, false, false, false, false, false, false, false, false, false, false, false, false, false, false, false, false, false, false, false, false, false, false, false, false, false, false, false, false, false, false, false, false, false, false, false, false, false, false, false, false, false, false, false, false, false, false, false, false, false, false, false, false] rfl rfl (any_of HT_.out (by kernel_rfl)) (fun _ _ _ h => h) (Or.inl ⟨by rfl, ?_⟩) ?_ ?_
  rotate_left
  · intro w'
    go_simp
    with_reducible rfl
  rotate_left
  · simp only [Act.put, List.setIfInBounds_toArray, List.set_cons_zero, List.set_cons_succ, i64_w, i32_w]
    rfl
  refine pure_ (i := 11) (N := some 91) (v := ?_) (a' := ?_) #[true, true, true, true, true, true, true, true, true, true, true, true, false, false, false, false, false, false, false, false, false, false, false, false, false, false, false, false, false, false, false, false, false, false, false, false, false, false, false, false, false, false, false, false, false, false, false, false, false, false, false, false, false, false, false, false, false, false, false, false, false, false, false, false, false] rfl rfl (any_of HT_.out (by kernel_rfl)) (fun _ _ _ h => h) (Or.inl ⟨by rfl, ?_⟩) ?_ ?_
  rotate_left
  · intro w'
    go_simp
    with_reducible rfl
  rotate_left
  · simp only [Act.put, List.setIfInBounds_toArray, List.set_cons_zero, List.set_cons_succ, i64_w, i32_w]
    rfl
  refine pure_ (i := 12) (N := some 92) (v := ?_) (a' := ?_) #[true, true, true, true, true, true, true, true, true, true, true, true, true, false, false, false, false, false, false, false, false, false, false, false, false, false, false, false, false, false, false, false, false, false, false, false, false, false, false, false, false, false, false, false, false, false, false, false, false, false, false, false, false, false, false, false, false, false, false, false, false, false, false, false, false] rfl rfl (any_of HT_.out (by kernel_rfl)) (fun _ _ _ h => h) (Or.inl ⟨by rfl, ?_⟩) ?_ ?_
  rotate_left
  · intro w'
    go_simp
    with_reducible rfl
  rotate_left
  · simp only [Act.put, List.setIfInBounds_toArray, List.set_cons_zero, List.set_cons_succ, i64_w, i32_w]
    rfl
  refine pure_ (i := 13) (N := some 93) (v := ?_) (a' := ?_) #[true, true, true, true, true, true, true, true, true, true, true, true, true, true, false, false, false, false, false, false, false, false, false, false, false, false, false, false, false, false, false, false, false, false, false, false, false, false, false, false, false, false, false, false, false, false, false, false, false, false, false, false, false, false, false, false, false, false, false, false, false, false, false, false, false] rfl rfl (any_of HT_.out (by kernel_rfl)) (fun _ _ _ h => h) (Or.inl ⟨by rfl, ?_⟩) ?_ ?_
  rotate_left
  · intro w'
    go_simp
    with_reducible rfl
  rotate_left
  · simp only [Act.put, List.setIfInBounds_toArray, List.set_cons_zero, List.set_cons_succ, i64_w, i32_w]
    rfl
  refine pure_ (i := 14) (N := some 94) (v := ?_) (a' := ?_) #[true, true, true, true, true, true, true, true, true, true, true, true, true, true, true, false, false, false, false, false, false, false, false, false, false, false, false, false, false, false, false, false, false, false, false, false, false, false, false, false, false, false, false, false, false, false, false, false, false, false, false, false, false, false, false, false, false, false, false, false, false, false, false, false, false] rfl rfl (any_of HT_.out (by kernel_rfl)) (fun _ _ _ h => h) (Or.inl ⟨by rfl, ?_⟩) ?_ ?_
  rotate_left
  · intro w'
    go_simp
    with_reducible rfl
  rotate_left
  · simp only [Act.put, List.setIfInBounds_toArray, List.set_cons_zero, List.set_cons_succ, i64_w, i32_w]
    rfl
  refine pure_ (i := 15) (N := some 95) (v := ?_) (a' := ?_) #[true, true, true, true, true, true, true, true, true, true, true, true, true, true, true, true, false, false, false, false, false, false, false, false, false, false, false, false, false, false, false, false, false, false, false, false, false, false, false, false, false, false, false, false, false, false, false, false, false, false, false, false, false, false, false, false, false, false, false, false, false, false, false, false, false] rfl rfl (any_of HT_.out (by kernel_rfl)) (fun _ _ _ h => h) (Or.inl ⟨by rfl, ?_⟩) ?_ ?_
  rotate_left
  · intro w'
    go_simp
    with_reducible rfl
  rotate_left
  · simp only [Act.put, List.setIfInBounds_toArray, List.set_cons_zero, List.set_cons_succ, i64_w, i32_w]
    rfl
  refine pure_ (i := 16) (N := some 96) (v := ?_) (a' := ?_) #[true, true, true, true, true, true, true, true, true, true, true, true, true, true, true, true, true, false, false, false, false, false, false, false, false, false, false, false, false, false, false, false, false, false, false, false, false, false, false, false, false, false, false, false, false, false, false, false, false, false, false, false, false, false, false, false, false, false, false, false, false, false, false, false, false] rfl rfl (any_of HT_.out (by kernel_rfl)) (fun _ _ _ h => h) (Or.inl ⟨by rfl, ?_⟩) ?_ ?_
  rotate_left
  · intro w'
    go_simp
    with_reducible rfl
  rotate_left
  · simp only [Act.put, List.setIfInBounds_toArray, List.set_cons_zero, List.set_cons_succ, i64_w, i32_w]
    rfl
  refine pure_ (i := 17) (N := some 97) (v := ?_) (a' := ?_) #[true, true, true, true, true, true, true, true, true, true, true, true, true, true, true, true, true, true, false, false, false, false, false, false, false, false, false, false, false, false, false, false, false, false, false, false, false, false, false, false, false, false, false, false, false, false, false, false, false, false, false, false, false, false, false, false, false, false, false, false, false, false, false, false, false] rfl rfl (any_of HT_.out (by kernel_rfl)) (fun _ _ _ h => h) (Or.inl ⟨by rfl, ?_⟩) ?_ ?_
  rotate_left
  · intro w'
    go_simp
    with_reducible rfl
  rotate_left
  · simp only [Act.put, List.setIfInBounds_toArray, List.set_cons_zero, List.set_cons_succ, i64_w, i32_w]
    rfl
  refine pure_ (i := 18) (N := some 98) (v := ?_) (a' := ?_) #[true, true, true, true, true, true, true, true, true, true, true, true, true, true, true, true, true, true, true, false, false, false, false, false, false, false, false, false, false, false, false, false, false, false, false, false, false, false, false, false, false, false, false, false, false, false, false, false, false, false, false, false, false, false, false, false, false, false, false, false, false, false, false, false, false] rfl rfl (any_of HT_.out (by kernel_rfl)) (fun _ _ _ h => h) (Or.inl ⟨by rfl, ?_⟩) ?_ ?_
  rotate_left
  · intro w'
    go_simp
    with_reducible rfl
  rotate_left
  · simp only [Act.put, List.setIfInBounds_toArray, List.set_cons_zero, List.set_cons_succ, i64_w, i32_w]
    rfl
  refine pure_ (i := 19) (N := some 99) (v := ?_) (a' := ?_) #[true, true, true, true, true, true, true, true, true, true, true, true, true, true, true, true, true, true, true, true, false, false, false, false, false, false, false, false, false, false, false, false, false, false, false, false, false, false, false, false, false, false, false, false, false, false, false, false, false, false, false, false, false, false, false, false, false, false, false, false, false, false, false, false, false] rfl rfl (any_of HT_.out (by kernel_rfl)) (fun _ _ _ h => h) (Or.inl ⟨by rfl, ?_⟩) ?_ ?_
  rotate_left
  · intro w'
    go_simp
    with_reducible rfl
  rotate_left
  · simp only [Act.put, List.setIfInBounds_toArray, List.set_cons_zero, List.set_cons_succ, i64_w, i32_w]
    rfl
  refine pure_ (i := 20) (N := some 100) (v := ?_) (a' := ?_) #[true, true, true, true, true, true, true, true, true, true, true, true, true, true, true, true, true, true, true, true, true, false, false, false, false, false, false, false, false, false, false, false, false, false, false, false, false, false, false, false, false, false, false, false, false, false, false, false, false, false, false, false, false, false, false, false, false, false, false, false, false, false, false, false, false] rfl rfl (any_of HT_.out (by kernel_rfl)) (fun _ _ _ h => h) (Or.inl ⟨by rfl, ?_⟩) ?_ ?_
  rotate_left
  · intro w'
    go_simp
    with_reducible rfl
  rotate_left
  · simp only [Act.put, List.setIfInBounds_toArray, List.set_cons_zero, List.set_cons_succ, i64_w, i32_w]
    rfl
  refine take_ (i := 21) (N := some 101) (v := ?_) (a' := ?_) #[true, true, true, true, true, true, true, true, true, true, true, true, true, true, true, true, true, true, true, true, true, true, false, false, false, false, false, false, false, false, false, false, false, false, false, false, false, false, false, false, false, false, false, false, false, false, false, false, false, false, false, false, false, false, false, false, false, false, false, false, false, false, false, false, false] rfl rfl (take_ofW HT_.out HW_.out (by kernel_rfl)) (fun _ _ _ h => h) (Or.inl ⟨by rfl, ?_⟩) hHeld ?_ ?_
  rotate_left
  · rintro w' ⟨s0, s1, s2, s3, s4, s5, s6, s7, s8, s9, s10, s11, s12, s13, s14, s15, s16, s17⟩
    go_simp
    with_reducible rfl
  rotate_left
  · simp only [Act.put, List.setIfInBounds_toArray, List.set_cons_zero, List.set_cons_succ, i64_w, i32_w]
    rfl
  refine one_ (i := 22) (N := some 102) #[true, true, true, true, true, true, true, true, true, true, true, true, true, true, true, true, true, true, true, true, true, true, true, false, false, false, false, false, false, false, false, false, false, false, false, false, false, false, false, false, false, false, false, false, false, false, false, false, false, false, false, false, false, false, false, false, false, false, false, false, false, false, false, false, false] rfl rfl (one_of HT_.out (by kernel_rfl)) (by decide) (fun K hK => ?_)
  refine goes_ Tryd.func26 (by kernel_rfl) rfl #[.string ⟨#[115, 116, 114, 105, 110, 103]⟩] (by rfl) rfl rfl (by (try simp only [List.map_toArray, List.map_cons, List.map_nil]); first | done | rfl) ?_
  refine (gussetlaw24_text.calls ⟨#[115, 116, 114, 105, 110, 103]⟩ 4 0 ⟨#[115, 116, 114, 105, 110, 103]⟩ _ (by kernel_rfl)).mono ?_
  rintro e x3 ⟨rfl, hb⟩
  refine ⟨_, rfl, ?_⟩
  have nH_ := Aside0.mk (HB.out.below (below_step (by repeat (first | (with_reducible exact Below.refl _ _) | (with_reducible apply below_alloc) | (with_reducible apply pw_below_drewN) | (with_reducible apply below_drew1))) hb))
  have n0_ := Aside0.mk (blk_below (g := w3.heap.size) (o := (.cells #[.int .i64 3, .int .i64 (-3), .string ⟨#[]⟩] 23)) (by repeat (first | (with_reducible exact BX0.out) | (with_reducible refine blk_alloc ?_ _) | (with_reducible refine blk_drewN ?_ _) | (with_reducible refine blk_drew ?_))) hb)
  have n1_ := Aside0.mk (blk_below (g := w6.heap.size) (o := (.cells #[.int .i64 4, .int .i64 0, .string ⟨#[97, 49]⟩] 23)) (by repeat (first | (with_reducible exact BX1.out) | (with_reducible refine blk_alloc ?_ _) | (with_reducible refine blk_drewN ?_ _) | (with_reducible refine blk_drew ?_))) hb)
  have n2_ := Aside0.mk (blk_below (g := w9.heap.size) (o := (.cells #[.int .i64 0, .int .i64 0, .string ⟨#[]⟩] 23)) (by repeat (first | (with_reducible exact BX2.out) | (with_reducible refine blk_alloc ?_ _) | (with_reducible refine blk_drewN ?_ _) | (with_reducible refine blk_drew ?_))) hb)
  have n3_ := Aside0.mk (blk_below (g := w11.heap.size) (o := (.cells #[.int .i64 4, .int .i64 0, .string ⟨#[115, 116, 114, 105, 110, 103]⟩] 23)) (by repeat (first | (with_reducible exact BX3.out) | (with_reducible refine blk_alloc ?_ _) | (with_reducible refine blk_drewN ?_ _) | (with_reducible refine blk_drew ?_))) hb)
  have n4_ := Aside0.mk (blk_below (g := w13.heap.size) (o := (.cells #[.int .i64 3, .int .i64 2, .string ⟨#[]⟩] 23)) (by repeat (first | (with_reducible exact BX4.out) | (with_reducible refine blk_alloc ?_ _) | (with_reducible refine blk_drewN ?_ _) | (with_reducible refine blk_drew ?_))) hb)
  have n5_ := Aside0.mk (blk_below (g := w15.heap.size) (o := (.cells #[.int .i64 3, .int .i64 (-5), .string ⟨#[]⟩] 23)) (by repeat (first | (with_reducible exact BX5.out) | (with_reducible refine blk_alloc ?_ _) | (with_reducible refine blk_drewN ?_ _) | (with_reducible refine blk_drew ?_))) hb)
  have n6_ := Aside0.mk (blk_below (g := w20.heap.size) (o := (.cells #[.int .i64 3, .int .i64 9, .string ⟨#[]⟩] 23)) (by repeat (first | (with_reducible exact BX6.out) | (with_reducible refine blk_alloc ?_ _) | (with_reducible refine blk_drewN ?_ _) | (with_reducible refine blk_drew ?_))) hb)
  clear BX0
  have BX0 := n0_
  clear n0_
  clear BX1
  have BX1 := n1_
  clear n1_
  clear BX2
  have BX2 := n2_
  clear n2_
  clear BX3
  have BX3 := n3_
  clear n3_
  clear BX4
  have BX4 := n4_
  clear n4_
  clear BX5
  have BX5 := n5_
  clear n5_
  clear BX6
  have BX6 := n6_
  clear n6_
  clear HB hb
  have HB := nH_
  clear nH_
  refine hK.out _ _ ⟨(blk_cell BX0.out 0).trans rfl, (blk_cell BX0.out 1).trans rfl, (blk_cell BX0.out 2).trans rfl, (blk_cell BX1.out 0).trans rfl, (blk_cell BX1.out 1).trans rfl, (blk_cell BX1.out 2).trans rfl, (blk_cell BX3.out 0).trans rfl, (blk_cell BX3.out 1).trans rfl, (blk_cell BX3.out 2).trans rfl, (blk_cell BX4.out 0).trans rfl, (blk_cell BX4.out 1).trans rfl, (blk_cell BX4.out 2).trans rfl, (blk_cell BX5.out 0).trans rfl, (blk_cell BX5.out 1).trans rfl, (blk_cell BX5.out 2).trans rfl, (blk_cell BX6.out 0).trans rfl, (blk_cell BX6.out 1).trans rfl, (blk_cell BX6.out 2).trans rfl⟩ (fun hHeld => ?_)
  clear hK K
  refine norm_ (a' := ?_) ?_ ?_
  rotate_left
  · show Act.put _ (some 102) _ = _
    simp only [Act.put, List.setIfInBounds_toArray, List.set_cons_zero, List.set_cons_succ, i64_w, i32_w]
    rfl
  refine pure_ (i := 23) (N := some 103) (v := ?_) (a' := ?_) #[true, true, true, true, true, true, true, true, true, true, true, true, true, true, true, true, true, true, true, true, true, true, true, true, false, false, false, false, false, false, false, false, false, false, false, false, false, false, false, false, false, false, false, false, false, false, false, false, false, false, false, false, false, false, false, false, false, false, false, false, false, false, false, false, false] rfl rfl (any_of HT_.out (by kernel_rfl)) (fun _ _ _ h => h) (Or.inl ⟨by rfl, ?_⟩) ?_ ?_
  rotate_left
  · intro w'
    go_simp
    with_reducible rfl
  rotate_left
  · simp only [Act.put, List.setIfInBounds_toArray, List.set_cons_zero, List.set_cons_succ, i64_w, i32_w]
    rfl
  refine pure_ (i := 24) (N := some 104) (v := ?_) (a' := ?_) #[true, true, true, true, true, true, true, true, true, true, true, true, true, true, true, true, true, true, true, true, true, true, true, true, true, false, false, false, false, false, false, false, false, false, false, false, false, false, false, false, false, false, false, false, false, false, false, false, false, false, false, false, false, false, false, false, false, false, false, false, false, false, false, false, false] rfl rfl (any_of HT_.out (by kernel_rfl)) (fun _ _ _ h => h) (Or.inl ⟨by rfl, ?_⟩) ?_ ?_
  rotate_left
  · intro w'
    go_simp
    with_reducible rfl
  rotate_left
  · simp only [Act.put, List.setIfInBounds_toArray, List.set_cons_zero, List.set_cons_succ, i64_w, i32_w]
    rfl
  refine pure_ (i := 25) (N := some 105) (v := ?_) (a' := ?_) #[true, true, true, true, true, true, true, true, true, true, true, true, true, true, true, true, true, true, true, true, true, true, true, true, true, true, false, false, false, false, false, false, false, false, false, false, false, false, false, false, false, false, false, false, false, false, false, false, false, false, false, false, false, false, false, false, false, false, false, false, false, false, false, false, false] rfl rfl (any_of HT_.out (by kernel_rfl)) (fun _ _ _ h => h) (Or.inl ⟨by rfl, ?_⟩) ?_ ?_
  rotate_left
  · intro w'
    go_simp
    with_reducible rfl
  rotate_left
  · simp only [Act.put, List.setIfInBounds_toArray, List.set_cons_zero, List.set_cons_succ, i64_w, i32_w]
    rfl
  refine pure_ (i := 26) (N := some 106) (v := ?_) (a' := ?_) #[true, true, true, true, true, true, true, true, true, true, true, true, true, true, true, true, true, true, true, true, true, true, true, true, true, true, true, false, false, false, false, false, false, false, false, false, false, false, false, false, false, false, false, false, false, false, false, false, false, false, false, false, false, false, false, false, false, false, false, false, false, false, false, false, false] rfl rfl (any_of HT_.out (by kernel_rfl)) (fun _ _ _ h => h) (Or.inl ⟨by rfl, ?_⟩) ?_ ?_
  rotate_left
  · intro w'
    go_simp
    with_reducible rfl
  rotate_left
  · simp only [Act.put, List.setIfInBounds_toArray, List.set_cons_zero, List.set_cons_succ, i64_w, i32_w]
    rfl
  refine pure_ (i := 27) (N := some 107) (v := ?_) (a' := ?_) #[true, true, true, true, true, true, true, true, true, true, true, true, true, true, true, true, true, true, true, true, true, true, true, true, true, true, true, true, false, false, false, false, false, false, false, false, false, false, false, false, false, false, false, false, false, false, false, false, false, false, false, false, false, false, false, false, false, false, false, false, false, false, false, false, false] rfl rfl (any_of HT_.out (by kernel_rfl)) (fun _ _ _ h => h) (Or.inl ⟨by rfl, ?_⟩) ?_ ?_
  rotate_left
  · intro w'
    go_simp
    with_reducible rfl
  rotate_left
  · simp only [Act.put, List.setIfInBounds_toArray, List.set_cons_zero, List.set_cons_succ, i64_w, i32_w]
    rfl
  refine pure_ (i := 28) (N := some 108) (v := ?_) (a' := ?_) #[true, true, true, true, true, true, true, true, true, true, true, true, true, true, true, true, true, true, true, true, true, true, true, true, true, true, true, true, true, false, false, false, false, false, false, false, false, false, false, false, false, false, false, false, false, false, false, false, false, false, false, false, false, false, false, false, false, false, false, false, false, false, false, false, false] rfl rfl (any_of HT_.out (by kernel_rfl)) (fun _ _ _ h => h) (Or.inl ⟨by rfl, ?_⟩) ?_ ?_
  rotate_left
  · intro w'
    go_simp
    with_reducible rfl
  rotate_left
  · simp only [Act.put, List.setIfInBounds_toArray, List.set_cons_zero, List.set_cons_succ, i64_w, i32_w]
    rfl
  refine pure_ (i := 29) (N := some 109) (v := ?_) (a' := ?_) #[true, true, true, true, true, true, true, true, true, true, true, true, true, true, true, true, true, true, true, true, true, true, true, true, true, true, true, true, true, true, false, false, false, false, false, false, false, false, false, false, false, false, false, false, false, false, false, false, false, false, false, false, false, false, false, false, false, false, false, false, false, false, false, false, false] rfl rfl (any_of HT_.out (by kernel_rfl)) (fun _ _ _ h => h) (Or.inl ⟨by rfl, ?_⟩) ?_ ?_
  rotate_left
  · intro w'
    go_simp
    with_reducible rfl
  rotate_left
  · simp only [Act.put, List.setIfInBounds_toArray, List.set_cons_zero, List.set_cons_succ, i64_w, i32_w]
    rfl
  refine take_ (i := 30) (N := some 110) (v := ?_) (a' := ?_) #[true, true, true, true, true, true, true, true, true, true, true, true, true, true, true, true, true, true, true, true, true, true, true, true, true, true, true, true, true, true, true, false, false, false, false, false, false, false, false, false, false, false, false, false, false, false, false, false, false, false, false, false, false, false, false, false, false, false, false, false, false, false, false, false, false] rfl rfl (take_ofW HT_.out HW_.out (by kernel_rfl)) (fun _ _ _ h => h) (Or.inl ⟨by rfl, ?_⟩) hHeld ?_ ?_
  rotate_left
  · rintro w' ⟨s0, s1, s2, s3, s4, s5, s6, s7, s8, s9, s10, s11, s12, s13, s14, s15, s16, s17⟩
    go_simp
    with_reducible rfl
  rotate_left
  · simp only [Act.put, List.setIfInBounds_toArray, List.set_cons_zero, List.set_cons_succ, i64_w, i32_w]
    rfl
  refine one_ (i := 31) (N := some 111) #[true, true, true, true, true, true, true, true, true, true, true, true, true, true, true, true, true, true, true, true, true, true, true, true, true, true, true, true, true, true, true, true, false, false, false, false, false, false, false, false, false, false, false, false, false, false, false, false, false, false, false, false, false, false, false, false, false, false, false, false, false, false, false, false, false] rfl rfl (one_of HT_.out (by kernel_rfl)) (by decide) (fun K hK => ?_)
  refine goes_ Tryd.func23 (by kernel_rfl) rfl #[.int .i64 2] (by rfl) rfl rfl (by (try simp only [List.map_toArray, List.map_cons, List.map_nil]); first | done | rfl) ?_
  refine (gussetlaw24_num.calls 2 3 2 ⟨#[]⟩ _ (by kernel_rfl)).mono ?_
  rintro e x4 ⟨rfl, hb⟩
  refine ⟨_, rfl, ?_⟩
  have nH_ := Aside0.mk (HB.out.below (below_step (by repeat (first | (with_reducible exact Below.refl _ _) | (with_reducible apply below_alloc) | (with_reducible apply pw_below_drewN) | (with_reducible apply below_drew1))) hb))
  have n0_ := Aside0.mk (blk_below (g := w3.heap.size) (o := (.cells #[.int .i64 3, .int .i64 (-3), .string ⟨#[]⟩] 23)) (by repeat (first | (with_reducible exact BX0.out) | (with_reducible refine blk_alloc ?_ _) | (with_reducible refine blk_drewN ?_ _) | (with_reducible refine blk_drew ?_))) hb)
  have n1_ := Aside0.mk (blk_below (g := w6.heap.size) (o := (.cells #[.int .i64 4, .int .i64 0, .string ⟨#[97, 49]⟩] 23)) (by repeat (first | (with_reducible exact BX1.out) | (with_reducible refine blk_alloc ?_ _) | (with_reducible refine blk_drewN ?_ _) | (with_reducible refine blk_drew ?_))) hb)
  have n2_ := Aside0.mk (blk_below (g := w9.heap.size) (o := (.cells #[.int .i64 0, .int .i64 0, .string ⟨#[]⟩] 23)) (by repeat (first | (with_reducible exact BX2.out) | (with_reducible refine blk_alloc ?_ _) | (with_reducible refine blk_drewN ?_ _) | (with_reducible refine blk_drew ?_))) hb)
  have n3_ := Aside0.mk (blk_below (g := w11.heap.size) (o := (.cells #[.int .i64 4, .int .i64 0, .string ⟨#[115, 116, 114, 105, 110, 103]⟩] 23)) (by repeat (first | (with_reducible exact BX3.out) | (with_reducible refine blk_alloc ?_ _) | (with_reducible refine blk_drewN ?_ _) | (with_reducible refine blk_drew ?_))) hb)
  have n4_ := Aside0.mk (blk_below (g := w13.heap.size) (o := (.cells #[.int .i64 3, .int .i64 2, .string ⟨#[]⟩] 23)) (by repeat (first | (with_reducible exact BX4.out) | (with_reducible refine blk_alloc ?_ _) | (with_reducible refine blk_drewN ?_ _) | (with_reducible refine blk_drew ?_))) hb)
  have n5_ := Aside0.mk (blk_below (g := w15.heap.size) (o := (.cells #[.int .i64 3, .int .i64 (-5), .string ⟨#[]⟩] 23)) (by repeat (first | (with_reducible exact BX5.out) | (with_reducible refine blk_alloc ?_ _) | (with_reducible refine blk_drewN ?_ _) | (with_reducible refine blk_drew ?_))) hb)
  have n6_ := Aside0.mk (blk_below (g := w20.heap.size) (o := (.cells #[.int .i64 3, .int .i64 9, .string ⟨#[]⟩] 23)) (by repeat (first | (with_reducible exact BX6.out) | (with_reducible refine blk_alloc ?_ _) | (with_reducible refine blk_drewN ?_ _) | (with_reducible refine blk_drew ?_))) hb)
  clear BX0
  have BX0 := n0_
  clear n0_
  clear BX1
  have BX1 := n1_
  clear n1_
  clear BX2
  have BX2 := n2_
  clear n2_
  clear BX3
  have BX3 := n3_
  clear n3_
  clear BX4
  have BX4 := n4_
  clear n4_
  clear BX5
  have BX5 := n5_
  clear n5_
  clear BX6
  have BX6 := n6_
  clear n6_
  clear HB hb
  have HB := nH_
  clear nH_
  refine hK.out _ _ ⟨(blk_cell BX0.out 0).trans rfl, (blk_cell BX0.out 1).trans rfl, (blk_cell BX0.out 2).trans rfl, (blk_cell BX1.out 0).trans rfl, (blk_cell BX1.out 1).trans rfl, (blk_cell BX1.out 2).trans rfl, (blk_cell BX3.out 0).trans rfl, (blk_cell BX3.out 1).trans rfl, (blk_cell BX3.out 2).trans rfl, (blk_cell BX4.out 0).trans rfl, (blk_cell BX4.out 1).trans rfl, (blk_cell BX4.out 2).trans rfl, (blk_cell BX5.out 0).trans rfl, (blk_cell BX5.out 1).trans rfl, (blk_cell BX5.out 2).trans rfl, (blk_cell BX6.out 0).trans rfl, (blk_cell BX6.out 1).trans rfl, (blk_cell BX6.out 2).trans rfl⟩ (fun hHeld => ?_)
  clear hK K
  refine norm_ (a' := ?_) ?_ ?_
  rotate_left
  · show Act.put _ (some 111) _ = _
    simp only [Act.put, List.setIfInBounds_toArray, List.set_cons_zero, List.set_cons_succ, i64_w, i32_w]
    rfl
  refine pure_ (i := 32) (N := some 112) (v := ?_) (a' := ?_) #[true, true, true, true, true, true, true, true, true, true, true, true, true, true, true, true, true, true, true, true, true, true, true, true, true, true, true, true, true, true, true, true, true, false, false, false, false, false, false, false, false, false, false, false, false, false, false, false, false, false, false, false, false, false, false, false, false, false, false, false, false, false, false, false, false] rfl rfl (any_of HT_.out (by kernel_rfl)) (fun _ _ _ h => h) (Or.inl ⟨by rfl, ?_⟩) ?_ ?_
  rotate_left
  · intro w'
    go_simp
    with_reducible rfl
  rotate_left
  · simp only [Act.put, List.setIfInBounds_toArray, List.set_cons_zero, List.set_cons_succ, i64_w, i32_w]
    rfl
  refine pure_ (i := 33) (N := some 113) (v := ?_) (a' := ?_) #[true, true, true, true, true, true, true, true, true, true, true, true, true, true, true, true, true, true, true, true, true, true, true, true, true, true, true, true, true, true, true, true, true, true, false, false, false, false, false, false, false, false, false, false, false, false, false, false, false, false, false, false, false, false, false, false, false, false, false, false, false, false, false, false, false] rfl rfl (any_of HT_.out (by kernel_rfl)) (fun _ _ _ h => h) (Or.inl ⟨by rfl, ?_⟩) ?_ ?_
  rotate_left
  · intro w'
    go_simp
    with_reducible rfl
  rotate_left
  · simp only [Act.put, List.setIfInBounds_toArray, List.set_cons_zero, List.set_cons_succ, i64_w, i32_w]
    rfl
  refine pure_ (i := 34) (N := some 114) (v := ?_) (a' := ?_) #[true, true, true, true, true, true, true, true, true, true, true, true, true, true, true, true, true, true, true, true, true, true, true, true, true, true, true, true, true, true, true, true, true, true, true, false, false, false, false, false, false, false, false, false, false, false, false, false, false, false, false, false, false, false, false, false, false, false, false, false, false, false, false, false, false] rfl rfl (any_of HT_.out (by kernel_rfl)) (fun _ _ _ h => h) (Or.inl ⟨by rfl, ?_⟩) ?_ ?_
  rotate_left
  · intro w'
    go_simp
    with_reducible rfl
  rotate_left
  · simp only [Act.put, List.setIfInBounds_toArray, List.set_cons_zero, List.set_cons_succ, i64_w, i32_w]
    rfl
  refine pure_ (i := 35) (N := some 115) (v := ?_) (a' := ?_) #[true, true, true, true, true, true, true, true, true, true, true, true, true, true, true, true, true, true, true, true, true, true, true, true, true, true, true, true, true, true, true, true, true, true, true, true, false, false, false, false, false, false, false, false, false, false, false, false, false, false, false, false, false, false, false, false, false, false, false, false, false, false, false, false, false] rfl rfl (any_of HT_.out (by kernel_rfl)) (fun _ _ _ h => h) (Or.inl ⟨by rfl, ?_⟩) ?_ ?_
  rotate_left
  · intro w'
    go_simp
    with_reducible rfl
  rotate_left
  · simp only [Act.put, List.setIfInBounds_toArray, List.set_cons_zero, List.set_cons_succ, i64_w, i32_w]
    rfl
  refine pure_ (i := 36) (N := some 116) (v := ?_) (a' := ?_) #[true, true, true, true, true, true, true, true, true, true, true, true, true, true, true, true, true, true, true, true, true, true, true, true, true, true, true, true, true, true, true, true, true, true, true, true, true, false, false, false, false, false, false, false, false, false, false, false, false, false, false, false, false, false, false, false, false, false, false, false, false, false, false, false, false] rfl rfl (any_of HT_.out (by kernel_rfl)) (fun _ _ _ h => h) (Or.inl ⟨by rfl, ?_⟩) ?_ ?_
  rotate_left
  · intro w'
    go_simp
    with_reducible rfl
  rotate_left
  · simp only [Act.put, List.setIfInBounds_toArray, List.set_cons_zero, List.set_cons_succ, i64_w, i32_w]
    rfl
  refine pure_ (i := 37) (N := some 117) (v := ?_) (a' := ?_) #[true, true, true, true, true, true, true, true, true, true, true, true, true, true, true, true, true, true, true, true, true, true, true, true, true, true, true, true, true, true, true, true, true, true, true, true, true, true, false, false, false, false, false, false, false, false, false, false, false, false, false, false, false, false, false, false, false, false, false, false, false, false, false, false, false] rfl rfl (any_of HT_.out (by kernel_rfl)) (fun _ _ _ h => h) (Or.inl ⟨by rfl, ?_⟩) ?_ ?_
  rotate_left
  · intro w'
    go_simp
    with_reducible rfl
  rotate_left
  · simp only [Act.put, List.setIfInBounds_toArray, List.set_cons_zero, List.set_cons_succ, i64_w, i32_w]
    rfl
  refine pure_ (i := 38) (N := some 118) (v := ?_) (a' := ?_) #[true, true, true, true, true, true, true, true, true, true, true, true, true, true, true, true, true, true, true, true, true, true, true, true, true, true, true, true, true, true, true, true, true, true, true, true, true, true, true, false, false, false, false, false, false, false, false, false, false, false, false, false, false, false, false, false, false, false, false, false, false, false, false, false, false] rfl rfl (any_of HT_.out (by kernel_rfl)) (fun _ _ _ h => h) (Or.inl ⟨by rfl, ?_⟩) ?_ ?_
  rotate_left
  · intro w'
    go_simp
    with_reducible rfl
  rotate_left
  · simp only [Act.put, List.setIfInBounds_toArray, List.set_cons_zero, List.set_cons_succ, i64_w, i32_w]
    rfl
  refine take_ (i := 39) (N := some 119) (v := ?_) (a' := ?_) #[true, true, true, true, true, true, true, true, true, true, true, true, true, true, true, true, true, true, true, true, true, true, true, true, true, true, true, true, true, true, true, true, true, true, true, true, true, true, true, true, false, false, false, false, false, false, false, false, false, false, false, false, false, false, false, false, false, false, false, false, false, false, false, false, false] rfl rfl (take_ofW HT_.out HW_.out (by kernel_rfl)) (fun _ _ _ h => h) (Or.inl ⟨by rfl, ?_⟩) hHeld ?_ ?_
  rotate_left
  · rintro w' ⟨s0, s1, s2, s3, s4, s5, s6, s7, s8, s9, s10, s11, s12, s13, s14, s15, s16, s17⟩
    go_simp
    with_reducible rfl
  rotate_left
  · simp only [Act.put, List.setIfInBounds_toArray, List.set_cons_zero, List.set_cons_succ, i64_w, i32_w]
    rfl
  refine one_ (i := 40) (N := some 120) #[true, true, true, true, true, true, true, true, true, true, true, true, true, true, true, true, true, true, true, true, true, true, true, true, true, true, true, true, true, true, true, true, true, true, true, true, true, true, true, true, true, false, false, false, false, false, false, false, false, false, false, false, false, false, false, false, false, false, false, false, false, false, false, false, false] rfl rfl (one_of HT_.out (by kernel_rfl)) (by decide) (fun K hK => ?_)
  refine goes_ Tryd.func23 (by kernel_rfl) rfl #[.int .i64 (-5)] (by rfl) rfl rfl (by (try simp only [List.map_toArray, List.map_cons, List.map_nil]); first | done | rfl) ?_
  refine (gussetlaw24_num.calls (-5) 3 (-5) ⟨#[]⟩ _ (by kernel_rfl)).mono ?_
  rintro e x5 ⟨rfl, hb⟩
  refine ⟨_, rfl, ?_⟩
  have nH_ := Aside0.mk (HB.out.below (below_step (by repeat (first | (with_reducible exact Below.refl _ _) | (with_reducible apply below_alloc) | (with_reducible apply pw_below_drewN) | (with_reducible apply below_drew1))) hb))
  have n0_ := Aside0.mk (blk_below (g := w3.heap.size) (o := (.cells #[.int .i64 3, .int .i64 (-3), .string ⟨#[]⟩] 23)) (by repeat (first | (with_reducible exact BX0.out) | (with_reducible refine blk_alloc ?_ _) | (with_reducible refine blk_drewN ?_ _) | (with_reducible refine blk_drew ?_))) hb)
  have n1_ := Aside0.mk (blk_below (g := w6.heap.size) (o := (.cells #[.int .i64 4, .int .i64 0, .string ⟨#[97, 49]⟩] 23)) (by repeat (first | (with_reducible exact BX1.out) | (with_reducible refine blk_alloc ?_ _) | (with_reducible refine blk_drewN ?_ _) | (with_reducible refine blk_drew ?_))) hb)
  have n2_ := Aside0.mk (blk_below (g := w9.heap.size) (o := (.cells #[.int .i64 0, .int .i64 0, .string ⟨#[]⟩] 23)) (by repeat (first | (with_reducible exact BX2.out) | (with_reducible refine blk_alloc ?_ _) | (with_reducible refine blk_drewN ?_ _) | (with_reducible refine blk_drew ?_))) hb)
  have n3_ := Aside0.mk (blk_below (g := w11.heap.size) (o := (.cells #[.int .i64 4, .int .i64 0, .string ⟨#[115, 116, 114, 105, 110, 103]⟩] 23)) (by repeat (first | (with_reducible exact BX3.out) | (with_reducible refine blk_alloc ?_ _) | (with_reducible refine blk_drewN ?_ _) | (with_reducible refine blk_drew ?_))) hb)
  have n4_ := Aside0.mk (blk_below (g := w13.heap.size) (o := (.cells #[.int .i64 3, .int .i64 2, .string ⟨#[]⟩] 23)) (by repeat (first | (with_reducible exact BX4.out) | (with_reducible refine blk_alloc ?_ _) | (with_reducible refine blk_drewN ?_ _) | (with_reducible refine blk_drew ?_))) hb)
  have n5_ := Aside0.mk (blk_below (g := w15.heap.size) (o := (.cells #[.int .i64 3, .int .i64 (-5), .string ⟨#[]⟩] 23)) (by repeat (first | (with_reducible exact BX5.out) | (with_reducible refine blk_alloc ?_ _) | (with_reducible refine blk_drewN ?_ _) | (with_reducible refine blk_drew ?_))) hb)
  have n6_ := Aside0.mk (blk_below (g := w20.heap.size) (o := (.cells #[.int .i64 3, .int .i64 9, .string ⟨#[]⟩] 23)) (by repeat (first | (with_reducible exact BX6.out) | (with_reducible refine blk_alloc ?_ _) | (with_reducible refine blk_drewN ?_ _) | (with_reducible refine blk_drew ?_))) hb)
  clear BX0
  have BX0 := n0_
  clear n0_
  clear BX1
  have BX1 := n1_
  clear n1_
  clear BX2
  have BX2 := n2_
  clear n2_
  clear BX3
  have BX3 := n3_
  clear n3_
  clear BX4
  have BX4 := n4_
  clear n4_
  clear BX5
  have BX5 := n5_
  clear n5_
  clear BX6
  have BX6 := n6_
  clear n6_
  clear HB hb
  have HB := nH_
  clear nH_
  refine hK.out _ _ ⟨(blk_cell BX0.out 0).trans rfl, (blk_cell BX0.out 1).trans rfl, (blk_cell BX0.out 2).trans rfl, (blk_cell BX1.out 0).trans rfl, (blk_cell BX1.out 1).trans rfl, (blk_cell BX1.out 2).trans rfl, (blk_cell BX3.out 0).trans rfl, (blk_cell BX3.out 1).trans rfl, (blk_cell BX3.out 2).trans rfl, (blk_cell BX4.out 0).trans rfl, (blk_cell BX4.out 1).trans rfl, (blk_cell BX4.out 2).trans rfl, (blk_cell BX5.out 0).trans rfl, (blk_cell BX5.out 1).trans rfl, (blk_cell BX5.out 2).trans rfl, (blk_cell BX6.out 0).trans rfl, (blk_cell BX6.out 1).trans rfl, (blk_cell BX6.out 2).trans rfl⟩ (fun hHeld => ?_)
  clear hK K
  refine norm_ (a' := ?_) ?_ ?_
  rotate_left
  · show Act.put _ (some 120) _ = _
    simp only [Act.put, List.setIfInBounds_toArray, List.set_cons_zero, List.set_cons_succ, i64_w, i32_w]
    rfl
  refine pure_ (i := 41) (N := some 121) (v := ?_) (a' := ?_) #[true, true, true, true, true, true, true, true, true, true, true, true, true, true, true, true, true, true, true, true, true, true, true, true, true, true, true, true, true, true, true, true, true, true, true, true, true, true, true, true, true, true, false, false, false, false, false, false, false, false, false, false, false, false, false, false, false, false, false, false, false, false, false, false, false] rfl rfl (any_of HT_.out (by kernel_rfl)) (fun _ _ _ h => h) (Or.inl ⟨by rfl, ?_⟩) ?_ ?_
  rotate_left
  · intro w'
    go_simp
    with_reducible rfl
  rotate_left
  · simp only [Act.put, List.setIfInBounds_toArray, List.set_cons_zero, List.set_cons_succ, i64_w, i32_w]
    rfl
  refine pure_ (i := 42) (N := some 122) (v := ?_) (a' := ?_) #[true, true, true, true, true, true, true, true, true, true, true, true, true, true, true, true, true, true, true, true, true, true, true, true, true, true, true, true, true, true, true, true, true, true, true, true, true, true, true, true, true, true, true, false, false, false, false, false, false, false, false, false, false, false, false, false, false, false, false, false, false, false, false, false, false] rfl rfl (any_of HT_.out (by kernel_rfl)) (fun _ _ _ h => h) (Or.inl ⟨by rfl, ?_⟩) ?_ ?_
  rotate_left
  · intro w'
    go_simp
    with_reducible rfl
  rotate_left
  · simp only [Act.put, List.setIfInBounds_toArray, List.set_cons_zero, List.set_cons_succ, i64_w, i32_w]
    rfl
  refine pure_ (i := 43) (N := some 123) (v := ?_) (a' := ?_) #[true, true, true, true, true, true, true, true, true, true, true, true, true, true, true, true, true, true, true, true, true, true, true, true, true, true, true, true, true, true, true, true, true, true, true, true, true, true, true, true, true, true, true, true, false, false, false, false, false, false, false, false, false, false, false, false, false, false, false, false, false, false, false, false, false] rfl rfl (any_of HT_.out (by kernel_rfl)) (fun _ _ _ h => h) (Or.inl ⟨by rfl, ?_⟩) ?_ ?_
  rotate_left
  · intro w'
    go_simp
    with_reducible rfl
  rotate_left
  · simp only [Act.put, List.setIfInBounds_toArray, List.set_cons_zero, List.set_cons_succ, i64_w, i32_w]
    rfl
  refine pure_ (i := 44) (N := some 124) (v := ?_) (a' := ?_) #[true, true, true, true, true, true, true, true, true, true, true, true, true, true, true, true, true, true, true, true, true, true, true, true, true, true, true, true, true, true, true, true, true, true, true, true, true, true, true, true, true, true, true, true, true, false, false, false, false, false, false, false, false, false, false, false, false, false, false, false, false, false, false, false, false] rfl rfl (any_of HT_.out (by kernel_rfl)) (fun _ _ _ h => h) (Or.inl ⟨by rfl, ?_⟩) ?_ ?_
  rotate_left
  · intro w'
    go_simp
    with_reducible rfl
  rotate_left
  · simp only [Act.put, List.setIfInBounds_toArray, List.set_cons_zero, List.set_cons_succ, i64_w, i32_w]
    rfl
  refine pure_ (i := 45) (N := some 125) (v := ?_) (a' := ?_) #[true, true, true, true, true, true, true, true, true, true, true, true, true, true, true, true, true, true, true, true, true, true, true, true, true, true, true, true, true, true, true, true, true, true, true, true, true, true, true, true, true, true, true, true, true, true, false, false, false, false, false, false, false, false, false, false, false, false, false, false, false, false, false, false, false] rfl rfl (any_of HT_.out (by kernel_rfl)) (fun _ _ _ h => h) (Or.inl ⟨by rfl, ?_⟩) ?_ ?_
  rotate_left
  · intro w'
    go_simp
    with_reducible rfl
  rotate_left
  · simp only [Act.put, List.setIfInBounds_toArray, List.set_cons_zero, List.set_cons_succ, i64_w, i32_w]
    rfl
  refine pure_ (i := 46) (N := some 126) (v := ?_) (a' := ?_) #[true, true, true, true, true, true, true, true, true, true, true, true, true, true, true, true, true, true, true, true, true, true, true, true, true, true, true, true, true, true, true, true, true, true, true, true, true, true, true, true, true, true, true, true, true, true, true, false, false, false, false, false, false, false, false, false, false, false, false, false, false, false, false, false, false] rfl rfl (any_of HT_.out (by kernel_rfl)) (fun _ _ _ h => h) (Or.inl ⟨by rfl, ?_⟩) ?_ ?_
  rotate_left
  · intro w'
    go_simp
    with_reducible rfl
  rotate_left
  · simp only [Act.put, List.setIfInBounds_toArray, List.set_cons_zero, List.set_cons_succ, i64_w, i32_w]
    rfl
  refine pure_ (i := 47) (N := some 127) (v := ?_) (a' := ?_) #[true, true, true, true, true, true, true, true, true, true, true, true, true, true, true, true, true, true, true, true, true, true, true, true, true, true, true, true, true, true, true, true, true, true, true, true, true, true, true, true, true, true, true, true, true, true, true, true, false, false, false, false, false, false, false, false, false, false, false, false, false, false, false, false, false] rfl rfl (any_of HT_.out (by kernel_rfl)) (fun _ _ _ h => h) (Or.inl ⟨by rfl, ?_⟩) ?_ ?_
  rotate_left
  · intro w'
    go_simp
    with_reducible rfl
  rotate_left
  · simp only [Act.put, List.setIfInBounds_toArray, List.set_cons_zero, List.set_cons_succ, i64_w, i32_w]
    rfl
  refine pure_ (i := 48) (N := some 128) (v := ?_) (a' := ?_) #[true, true, true, true, true, true, true, true, true, true, true, true, true, true, true, true, true, true, true, true, true, true, true, true, true, true, true, true, true, true, true, true, true, true, true, true, true, true, true, true, true, true, true, true, true, true, true, true, true, false, false, false, false, false, false, false, false, false, false, false, false, false, false, false, false] rfl rfl (any_of HT_.out (by kernel_rfl)) (fun _ _ _ h => h) (Or.inl ⟨by rfl, ?_⟩) ?_ ?_
  rotate_left
  · intro w'
    go_simp
    with_reducible rfl
  rotate_left
  · simp only [Act.put, List.setIfInBounds_toArray, List.set_cons_zero, List.set_cons_succ, i64_w, i32_w]
    rfl
  refine pure_ (i := 49) (N := some 129) (v := ?_) (a' := ?_) #[true, true, true, true, true, true, true, true, true, true, true, true, true, true, true, true, true, true, true, true, true, true, true, true, true, true, true, true, true, true, true, true, true, true, true, true, true, true, true, true, true, true, true, true, true, true, true, true, true, true, false, false, false, false, false, false, false, false, false, false, false, false, false, false, false] rfl rfl (any_of HT_.out (by kernel_rfl)) (fun _ _ _ h => h) (Or.inl ⟨by rfl, ?_⟩) ?_ ?_
  rotate_left
  · intro w'
    go_simp
    with_reducible rfl
  rotate_left
  · simp only [Act.put, List.setIfInBounds_toArray, List.set_cons_zero, List.set_cons_succ, i64_w, i32_w]
    rfl
  refine pure_ (i := 50) (N := some 130) (v := ?_) (a' := ?_) #[true, true, true, true, true, true, true, true, true, true, true, true, true, true, true, true, true, true, true, true, true, true, true, true, true, true, true, true, true, true, true, true, true, true, true, true, true, true, true, true, true, true, true, true, true, true, true, true, true, true, true, false, false, false, false, false, false, false, false, false, false, false, false, false, false] rfl rfl (any_of HT_.out (by kernel_rfl)) (fun _ _ _ h => h) (Or.inl ⟨by rfl, ?_⟩) ?_ ?_
  rotate_left
  · intro w'
    go_simp
    with_reducible rfl
  rotate_left
  · simp only [Act.put, List.setIfInBounds_toArray, List.set_cons_zero, List.set_cons_succ, i64_w, i32_w]
    rfl
  refine pure_ (i := 51) (N := some 131) (v := ?_) (a' := ?_) #[true, true, true, true, true, true, true, true, true, true, true, true, true, true, true, true, true, true, true, true, true, true, true, true, true, true, true, true, true, true, true, true, true, true, true, true, true, true, true, true, true, true, true, true, true, true, true, true, true, true, true, true, false, false, false, false, false, false, false, false, false, false, false, false, false] rfl rfl (any_of HT_.out (by kernel_rfl)) (fun _ _ _ h => h) (Or.inl ⟨by rfl, ?_⟩) ?_ ?_
  rotate_left
  · intro w'
    go_simp
    with_reducible rfl
  rotate_left
  · simp only [Act.put, List.setIfInBounds_toArray, List.set_cons_zero, List.set_cons_succ, i64_w, i32_w]
    rfl
  refine take_ (i := 52) (N := some 132) (v := ?_) (a' := ?_) #[true, true, true, true, true, true, true, true, true, true, true, true, true, true, true, true, true, true, true, true, true, true, true, true, true, true, true, true, true, true, true, true, true, true, true, true, true, true, true, true, true, true, true, true, true, true, true, true, true, true, true, true, true, false, false, false, false, false, false, false, false, false, false, false, false] rfl rfl (take_ofW HT_.out HW_.out (by kernel_rfl)) (fun _ _ _ h => h) (Or.inl ⟨by rfl, ?_⟩) hHeld ?_ ?_
  rotate_left
  · rintro w' ⟨s0, s1, s2, s3, s4, s5, s6, s7, s8, s9, s10, s11, s12, s13, s14, s15, s16, s17⟩
    go_simp
    with_reducible rfl
  rotate_left
  · simp only [Act.put, List.setIfInBounds_toArray, List.set_cons_zero, List.set_cons_succ, i64_w, i32_w]
    rfl
  refine one_ (i := 53) (N := some 133) #[true, true, true, true, true, true, true, true, true, true, true, true, true, true, true, true, true, true, true, true, true, true, true, true, true, true, true, true, true, true, true, true, true, true, true, true, true, true, true, true, true, true, true, true, true, true, true, true, true, true, true, true, true, true, false, false, false, false, false, false, false, false, false, false, false] rfl rfl (one_of HT_.out (by kernel_rfl)) (by decide) (fun K hK => ?_)
  refine goes_ Tryd.func23 (by kernel_rfl) rfl #[.int .i64 9] (by rfl) rfl rfl (by (try simp only [List.map_toArray, List.map_cons, List.map_nil]); first | done | rfl) ?_
  refine (gussetlaw24_num.calls 9 3 9 ⟨#[]⟩ _ (by kernel_rfl)).mono ?_
  rintro e x6 ⟨rfl, hb⟩
  refine ⟨_, rfl, ?_⟩
  have nH_ := Aside0.mk (HB.out.below (below_step (by repeat (first | (with_reducible exact Below.refl _ _) | (with_reducible apply below_alloc) | (with_reducible apply pw_below_drewN) | (with_reducible apply below_drew1))) hb))
  have n0_ := Aside0.mk (blk_below (g := w3.heap.size) (o := (.cells #[.int .i64 3, .int .i64 (-3), .string ⟨#[]⟩] 23)) (by repeat (first | (with_reducible exact BX0.out) | (with_reducible refine blk_alloc ?_ _) | (with_reducible refine blk_drewN ?_ _) | (with_reducible refine blk_drew ?_))) hb)
  have n1_ := Aside0.mk (blk_below (g := w6.heap.size) (o := (.cells #[.int .i64 4, .int .i64 0, .string ⟨#[97, 49]⟩] 23)) (by repeat (first | (with_reducible exact BX1.out) | (with_reducible refine blk_alloc ?_ _) | (with_reducible refine blk_drewN ?_ _) | (with_reducible refine blk_drew ?_))) hb)
  have n2_ := Aside0.mk (blk_below (g := w9.heap.size) (o := (.cells #[.int .i64 0, .int .i64 0, .string ⟨#[]⟩] 23)) (by repeat (first | (with_reducible exact BX2.out) | (with_reducible refine blk_alloc ?_ _) | (with_reducible refine blk_drewN ?_ _) | (with_reducible refine blk_drew ?_))) hb)
  have n3_ := Aside0.mk (blk_below (g := w11.heap.size) (o := (.cells #[.int .i64 4, .int .i64 0, .string ⟨#[115, 116, 114, 105, 110, 103]⟩] 23)) (by repeat (first | (with_reducible exact BX3.out) | (with_reducible refine blk_alloc ?_ _) | (with_reducible refine blk_drewN ?_ _) | (with_reducible refine blk_drew ?_))) hb)
  have n4_ := Aside0.mk (blk_below (g := w13.heap.size) (o := (.cells #[.int .i64 3, .int .i64 2, .string ⟨#[]⟩] 23)) (by repeat (first | (with_reducible exact BX4.out) | (with_reducible refine blk_alloc ?_ _) | (with_reducible refine blk_drewN ?_ _) | (with_reducible refine blk_drew ?_))) hb)
  have n5_ := Aside0.mk (blk_below (g := w15.heap.size) (o := (.cells #[.int .i64 3, .int .i64 (-5), .string ⟨#[]⟩] 23)) (by repeat (first | (with_reducible exact BX5.out) | (with_reducible refine blk_alloc ?_ _) | (with_reducible refine blk_drewN ?_ _) | (with_reducible refine blk_drew ?_))) hb)
  have n6_ := Aside0.mk (blk_below (g := w20.heap.size) (o := (.cells #[.int .i64 3, .int .i64 9, .string ⟨#[]⟩] 23)) (by repeat (first | (with_reducible exact BX6.out) | (with_reducible refine blk_alloc ?_ _) | (with_reducible refine blk_drewN ?_ _) | (with_reducible refine blk_drew ?_))) hb)
  clear BX0
  have BX0 := n0_
  clear n0_
  clear BX1
  have BX1 := n1_
  clear n1_
  clear BX2
  have BX2 := n2_
  clear n2_
  clear BX3
  have BX3 := n3_
  clear n3_
  clear BX4
  have BX4 := n4_
  clear n4_
  clear BX5
  have BX5 := n5_
  clear n5_
  clear BX6
  have BX6 := n6_
  clear n6_
  clear HB hb
  have HB := nH_
  clear nH_
  refine hK.out _ _ ⟨(blk_cell BX0.out 0).trans rfl, (blk_cell BX0.out 1).trans rfl, (blk_cell BX0.out 2).trans rfl, (blk_cell BX1.out 0).trans rfl, (blk_cell BX1.out 1).trans rfl, (blk_cell BX1.out 2).trans rfl, (blk_cell BX3.out 0).trans rfl, (blk_cell BX3.out 1).trans rfl, (blk_cell BX3.out 2).trans rfl, (blk_cell BX4.out 0).trans rfl, (blk_cell BX4.out 1).trans rfl, (blk_cell BX4.out 2).trans rfl, (blk_cell BX5.out 0).trans rfl, (blk_cell BX5.out 1).trans rfl, (blk_cell BX5.out 2).trans rfl, (blk_cell BX6.out 0).trans rfl, (blk_cell BX6.out 1).trans rfl, (blk_cell BX6.out 2).trans rfl⟩ (fun hHeld => ?_)
  clear hK K
  refine norm_ (a' := ?_) ?_ ?_
  rotate_left
  · show Act.put _ (some 133) _ = _
    simp only [Act.put, List.setIfInBounds_toArray, List.set_cons_zero, List.set_cons_succ, i64_w, i32_w]
    rfl
  refine pure_ (i := 54) (N := some 134) (v := ?_) (a' := ?_) #[true, true, true, true, true, true, true, true, true, true, true, true, true, true, true, true, true, true, true, true, true, true, true, true, true, true, true, true, true, true, true, true, true, true, true, true, true, true, true, true, true, true, true, true, true, true, true, true, true, true, true, true, true, true, true, false, false, false, false, false, false, false, false, false, false] rfl rfl (any_of HT_.out (by kernel_rfl)) (fun _ _ _ h => h) (Or.inl ⟨by rfl, ?_⟩) ?_ ?_
  rotate_left
  · intro w'
    go_simp
    with_reducible rfl
  rotate_left
  · simp only [Act.put, List.setIfInBounds_toArray, List.set_cons_zero, List.set_cons_succ, i64_w, i32_w]
    rfl
  refine pure_ (i := 55) (N := some 135) (v := ?_) (a' := ?_) #[true, true, true, true, true, true, true, true, true, true, true, true, true, true, true, true, true, true, true, true, true, true, true, true, true, true, true, true, true, true, true, true, true, true, true, true, true, true, true, true, true, true, true, true, true, true, true, true, true, true, true, true, true, true, true, true, false, false, false, false, false, false, false, false, false] rfl rfl (any_of HT_.out (by kernel_rfl)) (fun _ _ _ h => h) (Or.inl ⟨by rfl, ?_⟩) ?_ ?_
  rotate_left
  · intro w'
    go_simp
    with_reducible rfl
  rotate_left
  · simp only [Act.put, List.setIfInBounds_toArray, List.set_cons_zero, List.set_cons_succ, i64_w, i32_w]
    rfl
  refine pure_ (i := 56) (N := some 136) (v := ?_) (a' := ?_) #[true, true, true, true, true, true, true, true, true, true, true, true, true, true, true, true, true, true, true, true, true, true, true, true, true, true, true, true, true, true, true, true, true, true, true, true, true, true, true, true, true, true, true, true, true, true, true, true, true, true, true, true, true, true, true, true, true, false, false, false, false, false, false, false, false] rfl rfl (any_of HT_.out (by kernel_rfl)) (fun _ _ _ h => h) (Or.inl ⟨by rfl, ?_⟩) ?_ ?_
  rotate_left
  · intro w'
    go_simp
    with_reducible rfl
  rotate_left
  · simp only [Act.put, List.setIfInBounds_toArray, List.set_cons_zero, List.set_cons_succ, i64_w, i32_w]
    rfl
  refine pure_ (i := 57) (N := some 137) (v := ?_) (a' := ?_) #[true, true, true, true, true, true, true, true, true, true, true, true, true, true, true, true, true, true, true, true, true, true, true, true, true, true, true, true, true, true, true, true, true, true, true, true, true, true, true, true, true, true, true, true, true, true, true, true, true, true, true, true, true, true, true, true, true, true, false, false, false, false, false, false, false] rfl rfl (any_of HT_.out (by kernel_rfl)) (fun _ _ _ h => h) (Or.inl ⟨by rfl, ?_⟩) ?_ ?_
  rotate_left
  · intro w'
    go_simp
    with_reducible rfl
  rotate_left
  · simp only [Act.put, List.setIfInBounds_toArray, List.set_cons_zero, List.set_cons_succ, i64_w, i32_w]
    rfl
  refine pure_ (i := 58) (N := some 138) (v := ?_) (a' := ?_) #[true, true, true, true, true, true, true, true, true, true, true, true, true, true, true, true, true, true, true, true, true, true, true, true, true, true, true, true, true, true, true, true, true, true, true, true, true, true, true, true, true, true, true, true, true, true, true, true, true, true, true, true, true, true, true, true, true, true, true, false, false, false, false, false, false] rfl rfl (any_of HT_.out (by kernel_rfl)) (fun _ _ _ h => h) (Or.inl ⟨by rfl, ?_⟩) ?_ ?_
  rotate_left
  · intro w'
    go_simp
    with_reducible rfl
  rotate_left
  · simp only [Act.put, List.setIfInBounds_toArray, List.set_cons_zero, List.set_cons_succ, i64_w, i32_w]
    rfl
  refine pure_ (i := 59) (N := some 139) (v := ?_) (a' := ?_) #[true, true, true, true, true, true, true, true, true, true, true, true, true, true, true, true, true, true, true, true, true, true, true, true, true, true, true, true, true, true, true, true, true, true, true, true, true, true, true, true, true, true, true, true, true, true, true, true, true, true, true, true, true, true, true, true, true, true, true, true, false, false, false, false, false] rfl rfl (any_of HT_.out (by kernel_rfl)) (fun _ _ _ h => h) (Or.inl ⟨by rfl, ?_⟩) ?_ ?_
  rotate_left
  · intro w'
    go_simp
    with_reducible rfl
  rotate_left
  · simp only [Act.put, List.setIfInBounds_toArray, List.set_cons_zero, List.set_cons_succ, i64_w, i32_w]
    rfl
  refine pure_ (i := 60) (N := some 140) (v := ?_) (a' := ?_) #[true, true, true, true, true, true, true, true, true, true, true, true, true, true, true, true, true, true, true, true, true, true, true, true, true, true, true, true, true, true, true, true, true, true, true, true, true, true, true, true, true, true, true, true, true, true, true, true, true, true, true, true, true, true, true, true, true, true, true, true, true, false, false, false, false] rfl rfl (any_of HT_.out (by kernel_rfl)) (fun _ _ _ h => h) (Or.inl ⟨by rfl, ?_⟩) ?_ ?_
  rotate_left
  · intro w'
    go_simp
    with_reducible rfl
  rotate_left
  · simp only [Act.put, List.setIfInBounds_toArray, List.set_cons_zero, List.set_cons_succ, i64_w, i32_w]
    rfl
  refine pure_ (i := 61) (N := some 141) (v := ?_) (a' := ?_) #[true, true, true, true, true, true, true, true, true, true, true, true, true, true, true, true, true, true, true, true, true, true, true, true, true, true, true, true, true, true, true, true, true, true, true, true, true, true, true, true, true, true, true, true, true, true, true, true, true, true, true, true, true, true, true, true, true, true, true, true, true, true, false, false, false] rfl rfl (any_of HT_.out (by kernel_rfl)) (fun _ _ _ h => h) (Or.inl ⟨by rfl, ?_⟩) ?_ ?_
  rotate_left
  · intro w'
    go_simp
    with_reducible rfl
  rotate_left
  · simp only [Act.put, List.setIfInBounds_toArray, List.set_cons_zero, List.set_cons_succ, i64_w, i32_w]
    rfl
  refine pure_ (i := 62) (N := some 142) (v := ?_) (a' := ?_) #[true, true, true, true, true, true, true, true, true, true, true, true, true, true, true, true, true, true, true, true, true, true, true, true, true, true, true, true, true, true, true, true, true, true, true, true, true, true, true, true, true, true, true, true, true, true, true, true, true, true, true, true, true, true, true, true, true, true, true, true, true, true, true, false, false] rfl rfl (any_of HT_.out (by kernel_rfl)) (fun _ _ _ h => h) (Or.inl ⟨by rfl, ?_⟩) ?_ ?_
  rotate_left
  · intro w'
    go_simp
    with_reducible rfl
  rotate_left
  · simp only [Act.put, List.setIfInBounds_toArray, List.set_cons_zero, List.set_cons_succ, i64_w, i32_w]
    rfl
  refine pure_ (i := 63) (N := some 143) (v := ?_) (a' := ?_) #[true, true, true, true, true, true, true, true, true, true, true, true, true, true, true, true, true, true, true, true, true, true, true, true, true, true, true, true, true, true, true, true, true, true, true, true, true, true, true, true, true, true, true, true, true, true, true, true, true, true, true, true, true, true, true, true, true, true, true, true, true, true, true, true, false] rfl rfl (any_of HT_.out (by kernel_rfl)) (fun _ _ _ h => h) (Or.inl ⟨by rfl, ?_⟩) ?_ ?_
  rotate_left
  · intro w'
    go_simp
    with_reducible rfl
  rotate_left
  · simp only [Act.put, List.setIfInBounds_toArray, List.set_cons_zero, List.set_cons_succ, i64_w, i32_w]
    rfl
  refine pure_ (i := 64) (N := some 0) (v := ?_) (a' := ?_) #[true, true, true, true, true, true, true, true, true, true, true, true, true, true, true, true, true, true, true, true, true, true, true, true, true, true, true, true, true, true, true, true, true, true, true, true, true, true, true, true, true, true, true, true, true, true, true, true, true, true, true, true, true, true, true, true, true, true, true, true, true, true, true, true, true] rfl rfl (any_of HT_.out (by kernel_rfl)) (fun _ _ _ h => h) (Or.inl ⟨by rfl, ?_⟩) ?_ ?_
  rotate_left
  · intro w'
    go_simp
    with_reducible rfl
  rotate_left
  · simp only [Act.put, List.setIfInBounds_toArray, List.set_cons_zero, List.set_cons_succ, i64_w, i32_w]
    rfl
  refine done_ (done_of HT_.out (by kernel_rfl)) ?_
  go_wp2
  go_ret
  exact ⟨rfl, by
    have h := HB.out.bel
    exact (by repeat (first | (with_reducible exact h) | (with_reducible apply below_alloc) | (with_reducible apply pw_below_drewN) | (with_reducible apply below_drew1)))⟩
end Go.Proofs.YtdheakalfleleaaDoor.Val
