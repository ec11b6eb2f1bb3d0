/- HC, as this claim needs it. -/
import Derived.Test.YtdheakalfleleaaDoorHBq
namespace Go.Proofs.YtdheakalfleleaaDoor.Val
open Go.RowKit Go.Proofs.YtdheakalfleleaaDoor.POper Go.Proofs.YtdheakalfleleaaDoorW.PrintWords Go.Proofs.YtdheakalfleleaaDoorW.PrintLast Go.Proofs.YtdheakalfleleaaDoorW.PrintMore
set_option linter.unusedVariables false
set_option linter.unusedSimpArgs false
theorem eqA32 (d : Nat) (w : World) (x0 y0 : Int) (x1 y1 : Int) (x2 y2 : ByteArray) :
    (Op.equalIn (d + 2) 23 (.agg #[.int .i64 x0, .int .i64 x1, .string x2]) (.agg #[.int .i64 y0, .int .i64 y1, .string y2])).run Tryd.prog w = .ok (x0 == y0 && (x1 == y1 && (x2.toList == y2.toList))) w := by
  refine eqA_of Tryd.underlying23 (by kernel_rfl) ?_
  refine eqf_cons (by rfl) (by go_simp; rfl) (by go_simp; rfl) (by go_simp) ?_
  refine eqf_cons (by rfl) (by go_simp; rfl) (by go_simp; rfl) (by go_simp) ?_
  exact eqf_last (by rfl) (by go_simp; rfl) (by go_simp; rfl) (by go_simp)
def Has (B : Nat) (W : World) (O : Nat → Prop) (p : Nat) (D : List Th) : Prop := B ≤ W.heap.size ∧ HP W O p D ∧ ∀ k, O k → B ≤ k ∧ k < W.heap.size
section
variable {B : Nat} {W W' : World} {O : Nat → Prop} {p : Nat} {D : List Th}
theorem Has.below (h : Has B W O p D) (hb : Below W.heap.size W W') : Has B W' O p D := by
  obtain ⟨h0, hp, hO⟩ := h
  have := hb.size
  exact ⟨by omega, hp.keep (Q := No) (Chg.of_below hb) (fun _ _ _ hn => hn), fun k hk => ⟨(hO k hk).1, by have := (hO k hk).2; omega⟩⟩
theorem Has.apart {Q : Nat → Prop} (h : Has B W O p D) (hc : Chg Q W W') (hq : ∀ k, O k → ¬ Q k) : Has B W' O p D := by
  obtain ⟨h0, hp, hO⟩ := h
  have := hc.size
  exact ⟨by omega, hp.keep hc (fun k hk _ => hq k hk), fun k hk => ⟨(hO k hk).1, by have := (hO k hk).2; omega⟩⟩
theorem Has.free (h : Has B W O p D) {k : Nat} (hk : W.heap.size ≤ k) : ¬ O k := fun ho => by have := (h.2.2 k ho).2; omega
theorem Has.call (h : Has B W O p D) {P : Program} {f : FuncId} {args : Array Value} {E : Ending} {D' : List Th} (hc : ∀ O, HP W O p D → Calls P f args W fun e w' => e = E ∧ HP w' (Grow O W w') p D' ∧ Chg O W w') :
    Calls P f args W fun e w' => e = E ∧ ∃ O', Has B w' O' p D' ∧ (∀ k, k < W.heap.size → ¬ O k → ¬ O' k) ∧ Chg O W w' := by
  obtain ⟨h0, hp, hO⟩ := h
  refine (hc O hp).mono ?_
  rintro e w' ⟨he, hp', hch⟩
  have hs := hch.size
  refine ⟨he, _, ⟨by omega, hp', fun k hk => ?_⟩, fun k hk hn hg => ?_, hch⟩
  · rcases hk with hk | hk
    · exact ⟨(hO k hk.1).1, by omega⟩
    · exact ⟨by omega, hk.2⟩
  · rcases hg with hg | hg
    · exact hn hg.1
    · omega
theorem Has.own (h : Has B W O p D) (hc : Chg O W W') {w : World} (hb : Below B w W) : Below B w W' := hb.trans (hc.below h.1 (fun k hk => (h.2.2 k hk).1))
theorem Has.new (w W : World) (hb : Below w.heap.size w W) : Has w.heap.size (W.alloc (.cells #[.slice none 0 0] 90)) (fun k => k = W.heap.size) W.heap.size [] :=
  ⟨by have := hb.size; simp; omega, new_heap W, fun k hk => by have := hb.size; subst hk; simp; omega⟩
theorem Has.at (h : Has B W O p D) (x : S23) (i : Int) :
    Calls Tryd.prog 60 #[.pointer (some ⟨p, 0, none⟩), .agg #[.int .i64 x.f0, .int .i64 x.f1, .string x.f2], .int .i64 i] W fun e w' => e = .returned (.tuple #[enc (aAt D x i).1, .bool (aAt D x i).2]) ∧ Below W.heap.size W w' := by
  obtain ⟨_, ⟨v, xs, Os, hp⟩, _⟩ := h
  exact atx_calls hp x i
theorem Has.len (h : Has B W O p D) (x : S23) :
    Calls Tryd.prog 54 #[.pointer (some ⟨p, 0, none⟩), .agg #[.int .i64 x.f0, .int .i64 x.f1, .string x.f2]] W fun e w' => e = .returned (.int .i64 (aLen D x)) ∧ Below W.heap.size W w' := by
  obtain ⟨_, ⟨v, xs, Os, hp⟩, _⟩ := h
  exact len_calls hp x
theorem Has.set (h : Has B W O p D) (x y : S23) (n : ByteArray) :
    Calls Tryd.prog 69 #[.pointer (some ⟨p, 0, none⟩), .agg #[.int .i64 x.f0, .int .i64 x.f1, .string x.f2], .string n, .agg #[.int .i64 y.f0, .int .i64 y.f1, .string y.f2]] W fun e w' => e = .returned (.bool (oSet D x n y).2) ∧ ∃ O', Has B w' O' p (oSet D x n y).1 ∧ (∀ k, k < W.heap.size → ¬ O k → ¬ O' k) ∧ Chg O W w' :=
  h.call (fun O hp => set_calls hp x y n)
theorem Has.push (h : Has B W O p D) (x y : S23) (hR : Room D 100000000000) :
    Calls Tryd.prog 66 #[.pointer (some ⟨p, 0, none⟩), .agg #[.int .i64 x.f0, .int .i64 x.f1, .string x.f2], .agg #[.int .i64 y.f0, .int .i64 y.f1, .string y.f2]] W fun e w' => e = .returned (.bool (aPush D x y).2) ∧ ∃ O', Has B w' O' p (aPush D x y).1 ∧ (∀ k, k < W.heap.size → ¬ O k → ¬ O' k) ∧ Chg O W w' :=
  h.call (fun O hp => push_calls hp x y hR)
theorem Has.put (h : Has B W O p D) (x y : S23) (i : Int) (hR : Room D 100000000000) :
    Calls Tryd.prog 68 #[.pointer (some ⟨p, 0, none⟩), .agg #[.int .i64 x.f0, .int .i64 x.f1, .string x.f2], .int .i64 i, .agg #[.int .i64 y.f0, .int .i64 y.f1, .string y.f2]] W fun e w' => e = .returned (.bool (aPut D x i y).2) ∧ ∃ O', Has B w' O' p (aPut D x i y).1 ∧ (∀ k, k < W.heap.size → ¬ O k → ¬ O' k) ∧ Chg O W w' :=
  h.call (fun O hp => put_calls hp x y i hR)
theorem Has.arr (h : Has B W O p D) {A : Option Addr} {c : Nat} {l : List S23} (hC : k23.C W A l.length l) (hc : l.length ≤ c) (hmax : l.length < 1000000000000) (hlen : D.length < 1000000000000) :
    Calls Tryd.prog 40 #[.pointer (some ⟨p, 0, none⟩), .slice A l.length c] W fun e w' => e = .returned (enc ⟨5, D.length, ⟨#[]⟩⟩) ∧ ∃ O', Has B w' O' p (D ++ [.arr l]) ∧ (∀ k, k < W.heap.size → ¬ O k → ¬ O' k) ∧ Chg O W w' :=
  h.call (fun O hp => mkarr_calls hp hC hc hmax hlen)
theorem Has.obj (h : Has B W O p D) {A A2 : Option Addr} {c d : Nat} {ns : List ByteArray} {l : List S23} (hN : Kd.string.C W A ns.length ns) (hC : k23.C W A2 l.length l) (hmax : l.length < 1000000000000) (hmax2 : ns.length < 1000000000000) (hlen : D.length < 1000000000000) :
    Calls Tryd.prog 42 #[.pointer (some ⟨p, 0, none⟩), .slice A ns.length c, .slice A2 l.length d] W fun e w' => e = .returned (enc ⟨6, D.length, ⟨#[]⟩⟩) ∧ ∃ O', Has B w' O' p (D ++ [.obj (kvFold ns l)]) ∧ (∀ k, k < W.heap.size → ¬ O k → ¬ O' k) ∧ Chg O W w' :=
  h.call (fun O hp => mkobj_calls hp hN hC hmax hmax2 hlen)
end
def vcells (l : List S23) : List Value := l.flatMap fun x => [.int .i64 x.f0, .int .i64 x.f1, .string x.f2]
theorem row_built (W : World) (l : List S23) (cs : Array Value) (hcs : cs.toList = vcells l) (hm : l.length ≤ 9223372036854775807) : k23.C (W.alloc (.cells cs 23)) (some ⟨W.heap.size, 0, none⟩) l.length l := by
  refine ⟨rfl, hm, fun _ => ⟨⟨W.heap.size, 0, none⟩, rfl, fun j q hj => ⟨[.int .i64 q.f0, .int .i64 q.f1, .string q.f2], rfl, k23_mk _ q, fun i u hu => ?_⟩⟩⟩
  have key : ∀ (l : List S23) (j : Nat), l[j]? = some q → (vcells l)[j * 3 + i]? = some u := by
    intro l
    induction l with
    | nil => intro j h; simp at h
    | cons a r ih =>
      intro j h
      have hi : i < 3 := by
        have := (List.getElem?_eq_some_iff.1 hu).1
        simpa using this
      cases j with
      | zero =>
        injection h with h
        subst h
        have e : vcells (a :: r) = [.int .i64 a.f0, .int .i64 a.f1, .string a.f2] ++ vcells r := by simp [vcells]
        rw [e, List.getElem?_append_left (by simpa using hi)]
        simpa using hu
      | succ j =>
        have e : vcells (a :: r) = [.int .i64 a.f0, .int .i64 a.f1, .string a.f2] ++ vcells r := by simp [vcells]
        rw [e, List.getElem?_append_right (by simp; omega)]
        have := ih j (by simpa using h)
        rw [← this]
        congr 1
        simp
        omega
  have hk := key l j hj
  rw [← hcs] at hk
  have h1 : (W.alloc (.cells cs 23)).cell? ⟨W.heap.size, j * 3 + i, none⟩ = cs[j * 3 + i]? := blk_cell (heap_alloc_new W (.cells cs 23)) _
  rw [add_plain]
  exact h1.trans (by simpa using hk)
theorem names_built (W : World) (l : List ByteArray) (cs : Array Value) (hcs : cs.toList = l.map Value.string) (hm : l.length ≤ 9223372036854775807) : Kd.string.C (W.alloc (.cells cs 9)) (some ⟨W.heap.size, 0, none⟩) l.length l := by
  refine ⟨rfl, hm, fun _ => ⟨⟨W.heap.size, 0, none⟩, rfl, fun j q hj => ⟨[.string q], rfl, rfl, fun i u hu => ?_⟩⟩⟩
  have hi : i = 0 := by
    have := (List.getElem?_eq_some_iff.1 hu).1
    simp at this
    omega
  subst hi
  injection hu with hu
  subst hu
  have h1 : (W.alloc (.cells cs 9)).cell? ⟨W.heap.size, j, none⟩ = cs[j]? := blk_cell (heap_alloc_new W (.cells cs 9)) _
  have hk : cs.toList[j]? = some (.string q) := by rw [hcs, List.getElem?_map, hj]; rfl
  show (W.alloc (.cells cs 9)).cell? ((⟨W.heap.size, 0, none⟩ : Addr).add (j * 1 + 0)) = _
  rw [Nat.mul_one, Nat.add_zero, add_plain]
  exact h1.trans (by simpa using hk)
end Go.Proofs.YtdheakalfleleaaDoor.Val
namespace Go.Proofs.YtdheakalfleleaaDoor.Val
open Go.RowKit Go.Proofs.YtdheakalfleleaaDoor.POper Go.Proofs.YtdheakalfleleaaDoorW.PrintWords Go.Proofs.YtdheakalfleleaaDoorW.PrintLast Go.Proofs.YtdheakalfleleaaDoorW.PrintMore
set_option linter.unusedVariables false
set_option linter.unusedSimpArgs false
section
variable {B : Nat} {W : World} {O : Nat → Prop} {p : Nat} {D D' : List Th}
end
def a0 : S23 := ⟨5, 0, ⟨#[]⟩⟩
def a1 : S23 := ⟨5, 1, ⟨#[]⟩⟩
def p2 : S23 := ⟨6, 2, ⟨#[]⟩⟩
def q3 : S23 := ⟨6, 3, ⟨#[]⟩⟩
section
variable (l m : List S23) (P Q : List (ByteArray × S23)) (x : S23) (n : ByteArray)
end
end Go.Proofs.YtdheakalfleleaaDoor.Val
