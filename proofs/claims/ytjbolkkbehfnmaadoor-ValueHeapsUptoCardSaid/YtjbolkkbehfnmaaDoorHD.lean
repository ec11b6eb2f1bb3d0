/- The document's heap among the blocks of a caller. look: all that is asked of a value, of both heaps. Both heaps among the blocks of a caller, and blocks of the caller's own beside them. do: a deed with both heaps. ValueHeaps: every call of every script, and what is told behind each. -/
import Derived.Test.YtjbolkkbehfnmaaDoorHC
import Derived.Test.YtjbolkkbehfnmaaDoorHB
namespace Go.Proofs.YtjbolkkbehfnmaaDoor.Val
open Go.RowKit Go.Proofs.YtjbolkkbehfnmaaDoor.PVal Go.Proofs.YtjbolkkbehfnmaaDoorW.PrintWords Go.Proofs.YtjbolkkbehfnmaaDoorW.PrintLast Go.Proofs.YtjbolkkbehfnmaaDoorW.PrintMore
set_option linter.unusedVariables false
set_option linter.unusedSimpArgs false
/-- B: the caller's heap size at its begin; O: the heap's own blocks, all new since. -/
def HasG (B : Nat) (W : World) (O : Nat → Prop) (p : Nat) (D : List Th) : Prop := B ≤ W.heap.size ∧ GP W O p D ∧ ∀ k, O k → B ≤ k ∧ k < W.heap.size
section
variable {B : Nat} {W W' : World} {O : Nat → Prop} {p : Nat} {D : List Th}
theorem HasG.below (h : HasG B W O p D) (hb : Below W.heap.size W W') : HasG B W' O p D := by
  obtain ⟨h0, hp, hO⟩ := h
  have := hb.size
  exact ⟨by omega, hp.keep (Q := No) (Chg.of_below hb) (fun _ _ _ hn => hn), fun k hk => ⟨(hO k hk).1, by have := (hO k hk).2; omega⟩⟩
/-- It stays where others' blocks turn. -/
theorem HasG.apart {Q : Nat → Prop} (h : HasG B W O p D) (hc : Chg Q W W') (hq : ∀ k, O k → ¬ Q k) : HasG B W' O p D := by
  obtain ⟨h0, hp, hO⟩ := h
  have := hc.size
  exact ⟨by omega, hp.keep hc (fun k hk _ => hq k hk), fun k hk => ⟨(hO k hk).1, by have := (hO k hk).2; omega⟩⟩
theorem HasG.free (h : HasG B W O p D) {k : Nat} (hk : W.heap.size ≤ k) : ¬ O k := fun ho => by have := (h.2.2 k ho).2; omega
theorem HasG.old (h : HasG B W O p D) {k : Nat} (hk : k < B) : ¬ O k := fun ho => by have := (h.2.2 k ho).1; omega
/-- A call that works on the heap. -/
theorem HasG.call (h : HasG B W O p D) {P : Program} {f : FuncId} {args : Array Value} {E : Ending} {D' : List Th} (hc : ∀ O, GP W O p D → (∀ k, O k → B ≤ k) → Calls P f args W fun e w' => e = E ∧ GP w' (Grow O W w') p D' ∧ Chg O W w') :
    Calls P f args W fun e w' => e = E ∧ ∃ O', HasG B w' O' p D' ∧ (∀ k, k < W.heap.size → ¬ O k → ¬ O' k) ∧ Chg O W w' := by
  obtain ⟨h0, hp, hO⟩ := h
  refine (hc O hp (fun k hk => (hO k hk).1)).mono ?_
  rintro e w' ⟨he, hp', hch⟩
  have hs := hch.size
  refine ⟨he, _, ⟨by omega, hp', fun k hk => ?_⟩, fun k hk hn hg => ?_, hch⟩
  · rcases hk with hk | hk
    · exact ⟨(hO k hk.1).1, by omega⟩
    · exact ⟨by omega, hk.2⟩
  · rcases hg with hg | hg
    · exact hn hg.1
    · omega
theorem HasG.own (h : HasG B W O p D) (hc : Chg O W W') {w : World} (hb : Below B w W) : Below B w W' := hb.trans (hc.below h.1 (fun k hk => (h.2.2 k hk).1))
/-- A heap that is none yet. -/
theorem gnew_heap (w : World) : GP (w.alloc (.cells #[.slice none 0 0] 28)) (fun k => k = w.heap.size) w.heap.size [] :=
  ⟨.slice none 0 0, [], fun _ _ => False, ⟨heap_alloc_new w _, rfl, Kd.R_nil _ _ _ _ _, rfl, fun i t h => by simp at h, fun _ _ h => h.elim, fun _ _ _ _ h => h.elim, fun _ h => h, fun _ _ _ h => h⟩⟩
theorem HasG.new (B : Nat) (W : World) (hB : B ≤ W.heap.size) : HasG B (W.alloc (.cells #[.slice none 0 0] 28)) (fun k => k = W.heap.size) W.heap.size [] :=
  ⟨by simp; omega, gnew_heap W, fun k hk => by subst hk; simp; omega⟩
theorem HasG.get (h : HasG B W O p D) (x : S32) (n : ByteArray) :
    Calls Tryd.prog 29 #[.pointer (some ⟨p, 0, none⟩), .agg #[.int .i64 x.f0, .int .i64 x.f1, .string x.f2], .string n] W fun e w' => e = .returned (.tuple #[enc (oGet D x n).1, .bool (oGet D x n).2]) ∧ Below W.heap.size W w' := by
  obtain ⟨_, ⟨v, xs, Os, hp⟩, _⟩ := h
  exact gget_calls hp x n
theorem HasG.at (h : HasG B W O p D) (x : S32) (i : Int) :
    Calls Tryd.prog 30 #[.pointer (some ⟨p, 0, none⟩), .agg #[.int .i64 x.f0, .int .i64 x.f1, .string x.f2], .int .i64 i] W fun e w' => e = .returned (.tuple #[enc (aAt D x i).1, .bool (aAt D x i).2]) ∧ Below W.heap.size W w' := by
  obtain ⟨_, ⟨v, xs, Os, hp⟩, _⟩ := h
  exact gat_calls hp x i
theorem HasG.len (h : HasG B W O p D) (x : S32) :
    Calls Tryd.prog 31 #[.pointer (some ⟨p, 0, none⟩), .agg #[.int .i64 x.f0, .int .i64 x.f1, .string x.f2]] W fun e w' => e = .returned (.int .i64 (aLen D x)) ∧ Below W.heap.size W w' := by
  obtain ⟨_, ⟨v, xs, Os, hp⟩, _⟩ := h
  exact glen_calls hp x
theorem HasG.set (h : HasG B W O p D) (x y : S32) (n : ByteArray) (hR : Room D 100000000000) :
    Calls Tryd.prog 26 #[.pointer (some ⟨p, 0, none⟩), .agg #[.int .i64 x.f0, .int .i64 x.f1, .string x.f2], .string n, .agg #[.int .i64 y.f0, .int .i64 y.f1, .string y.f2]] W fun e w' => e = .returned (.bool (oSet D x n y).2) ∧ ∃ O', HasG B w' O' p (oSet D x n y).1 ∧ (∀ k, k < W.heap.size → ¬ O k → ¬ O' k) ∧ Chg O W w' :=
  h.call (fun O hp _ => gset_calls hp x y n hR)
theorem HasG.push (h : HasG B W O p D) (x y : S32) (hR : Room D 100000000000) :
    Calls Tryd.prog 28 #[.pointer (some ⟨p, 0, none⟩), .agg #[.int .i64 x.f0, .int .i64 x.f1, .string x.f2], .agg #[.int .i64 y.f0, .int .i64 y.f1, .string y.f2]] W fun e w' => e = .returned (.bool (aPush D x y).2) ∧ ∃ O', HasG B w' O' p (aPush D x y).1 ∧ (∀ k, k < W.heap.size → ¬ O k → ¬ O' k) ∧ Chg O W w' :=
  h.call (fun O hp _ => gpush_calls hp x y hR)
theorem HasG.put (h : HasG B W O p D) (x y : S32) (i : Int) (hR : Room D 100000000000) :
    Calls Tryd.prog 27 #[.pointer (some ⟨p, 0, none⟩), .agg #[.int .i64 x.f0, .int .i64 x.f1, .string x.f2], .int .i64 i, .agg #[.int .i64 y.f0, .int .i64 y.f1, .string y.f2]] W fun e w' => e = .returned (.bool (aPut D x i y).2) ∧ ∃ O', HasG B w' O' p (aPut D x i y).1 ∧ (∀ k, k < W.heap.size → ¬ O k → ¬ O' k) ∧ Chg O W w' :=
  h.call (fun O hp _ => gput_calls hp x y i hR)
theorem HasG.arr (h : HasG B W O p D) {A : Option Addr} {c : Nat} {l : List S32} (hC : k32.C W A l.length l) (hmax : l.length < 1000000000000) (hlen : D.length < 1000000000000) :
    Calls Tryd.prog 24 #[.pointer (some ⟨p, 0, none⟩), .slice A l.length c] W fun e w' => e = .returned (enc ⟨5, D.length, ⟨#[]⟩⟩) ∧ ∃ O', HasG B w' O' p (D ++ [.arr l]) ∧ (∀ k, k < W.heap.size → ¬ O k → ¬ O' k) ∧ Chg O W w' :=
  h.call (fun O hp _ => gmkarr_calls hp hC hmax hlen)
/-- w0: the caller's world, in which the names and the values stood already. -/
theorem HasG.obj (h : HasG B W O p D) {w0 : World} (hB : B = w0.heap.size) (hb : Below B w0 W) {A A2 : Option Addr} {c d : Nat} {ns : List ByteArray} {l : List S32} (hN : Kd.string.C w0 A ns.length ns) (hC : k32.C w0 A2 l.length l) (hmax : l.length < 1000000000) (hmax2 : ns.length < 1000000000) (hlen : D.length < 1000000000) :
    Calls Tryd.prog 25 #[.pointer (some ⟨p, 0, none⟩), .slice A ns.length c, .slice A2 l.length d] W fun e w' => e = .returned (enc ⟨6, D.length, ⟨#[]⟩⟩) ∧ ∃ O', HasG B w' O' p (D ++ [.obj (kvFold ns l)]) ∧ (∀ k, k < W.heap.size → ¬ O k → ¬ O' k) ∧ Chg O W w' := by
  have h0 := h.1
  subst hB
  exact h.call (fun O hp hO => gmkobj_calls hp (fun W1 hc => Kd.C_below hN (hb.trans (hc.below h0 hO))) (fun W1 hc => Kd.C_below hC (hb.trans (hc.below h0 hO))) hmax hmax2 hlen)
end
theorem HasG.lenE {B : Nat} {W : World} {O : Nat → Prop} {p : Nat} {D : List Th} (h : HasG B W O p D) (x : S32) (n : Int) (hD : aLen D x = n) :
    Calls Tryd.prog 31 #[.pointer (some ⟨p, 0, none⟩), .agg #[.int .i64 x.f0, .int .i64 x.f1, .string x.f2]] W fun e w' => e = .returned (.int .i64 n) ∧ Below W.heap.size W w' := by
  rw [← hD]
  exact h.len x
/-- A deed: what the law's struct holds. -/
structure Deed where
  k : Int
  v : S32
  x : S32
  nm : ByteArray
  i : Int
  nA : Option Addr
  nc : Nat
  ns : List ByteArray
  lA : Option Addr
  lc : Nat
  l : List S32
def deedV (d : Deed) : Value := .agg #[.int .i64 d.k, .int .i64 d.v.f0, .int .i64 d.v.f1, .string d.v.f2, .int .i64 d.x.f0, .int .i64 d.x.f1, .string d.x.f2, .string d.nm, .int .i64 d.i, .slice d.nA d.ns.length d.nc, .slice d.lA d.l.length d.lc]
def deedC (d : Deed) : Array Value := #[.int .i64 d.k, .int .i64 d.v.f0, .int .i64 d.v.f1, .string d.v.f2, .int .i64 d.x.f0, .int .i64 d.x.f1, .string d.x.f2, .string d.nm, .int .i64 d.i, .slice d.nA d.ns.length d.nc, .slice d.lA d.l.length d.lc]
/-- What its names and values are in the world w. -/
structure DeedOk (w : World) (d : Deed) : Prop where
  n : Kd.string.C w d.nA d.ns.length d.ns
  c : k32.C w d.lA d.l.length d.l
  nl : d.ns.length ≤ 1048576
  cl : d.l.length ≤ 1048576
theorem DeedOk.below {w W : World} {d : Deed} (h : DeedOk w d) (hb : Below w.heap.size w W) : DeedOk W d := ⟨Kd.C_below h.n hb, Kd.C_below h.c hb, h.nl, h.cl⟩
theorem box11 {W : World} {b : Nat} {d : Deed} (h : W.heap[b]? = some (.cells (deedC d) 36 (0, 0))) : W.cell? ⟨b, 0, none⟩ = some (.int .i64 d.k) ∧ W.cell? ⟨b, 1, none⟩ = some (.int .i64 d.v.f0) ∧ W.cell? ⟨b, 2, none⟩ = some (.int .i64 d.v.f1) ∧ W.cell? ⟨b, 3, none⟩ = some (.string d.v.f2) ∧ W.cell? ⟨b, 4, none⟩ = some (.int .i64 d.x.f0) ∧ W.cell? ⟨b, 5, none⟩ = some (.int .i64 d.x.f1) ∧ W.cell? ⟨b, 6, none⟩ = some (.string d.x.f2) ∧ W.cell? ⟨b, 7, none⟩ = some (.string d.nm) ∧ W.cell? ⟨b, 8, none⟩ = some (.int .i64 d.i) ∧ W.cell? ⟨b, 9, none⟩ = some (.slice d.nA d.ns.length d.nc) ∧ W.cell? ⟨b, 10, none⟩ = some (.slice d.lA d.l.length d.lc) :=
  ⟨(blk_cell h 0).trans rfl, (blk_cell h 1).trans rfl, (blk_cell h 2).trans rfl, (blk_cell h 3).trans rfl, (blk_cell h 4).trans rfl, (blk_cell h 5).trans rfl, (blk_cell h 6).trans rfl, (blk_cell h 7).trans rfl, (blk_cell h 8).trans rfl, (blk_cell h 9).trans rfl, (blk_cell h 10).trans rfl⟩
end Go.Proofs.YtjbolkkbehfnmaaDoor.Val
namespace Go.Proofs.YtjbolkkbehfnmaaDoor.Val
open Go.RowKit Go.Proofs.YtjbolkkbehfnmaaDoor.PVal Go.Proofs.YtjbolkkbehfnmaaDoorW.PrintWords Go.Proofs.YtjbolkkbehfnmaaDoorW.PrintLast Go.Proofs.YtjbolkkbehfnmaaDoorW.PrintMore
set_option linter.unusedVariables false
set_option linter.unusedSimpArgs false
attribute [local go_sem high] eqA32
def look5.T : Bool × List (List Nat × List Nat) := (true, [([], []), ([], []), ([0, 1], [0, 1]), ([2], [2]), ([3], [3]), ([3], [3]), ([4, 5, 3], [3, 4, 5]), ([3, 6], [3, 6]), ([7, 3], [7]), ([8], [8]), ([8], [8]), ([9, 10, 8], [8, 9, 10]), ([8, 11], [8, 11]), ([12, 8], [12]), ([13], [13]), ([13], [13]), ([14, 15, 13], [13, 14, 15]), ([13, 16], [13, 16]), ([17, 13], [17]), ([18], [18]), ([18], [18]), ([20, 18], [18, 20]), ([19, 21, 18, 18], [18, 19, 21]), ([18], [18]), ([18], [18]), ([24, 18], [18, 24]), ([23, 25, 22, 18], [18, 23, 25]), ([22, 26, 18], [18, 22, 26]), ([18, 27], [18, 27]), ([28, 26, 0, 1, 2, 3, 4, 5, 6, 7, 8, 9, 10, 11, 12, 13, 14, 15, 16, 17, 18, 19, 20, 21, 22, 23, 24, 25, 26, 27, 28], [28])])
def look5.B : List Nat := [0, 0, 3, 7, 15, 15, 63, 127, 255, 511, 511, 2047, 4095, 8191, 16383, 16383, 65535, 131071, 262143, 524287, 524287, 1572863, 4194303, 524287, 524287, 17301503, 67108863, 134217727, 268435455, 536870911]
theorem look5.tab : rtab .any (opsOf Tryd.f9 5) = look5.T := by kernel_rfl
theorem look5.bits : waitsOk look5.T.2 look5.B = true := by kernel_rfl
set_option maxHeartbeats 8000000 in
set_option maxRecDepth 100000 in
theorem look_calls {B : Nat} {W : World} [GW W] {O O' : Nat → Prop} {p q : Nat} {D : List Th} (h : Has B W O p D) (g : HasG B W O' q D) (d : Deed) :
    Calls Tryd.prog 9 #[.pointer (some ⟨p, 0, none⟩), .pointer (some ⟨q, 0, none⟩), deedV d] W fun e w' => e = .returned (.bool true) ∧ Below W.heap.size W w' := by
  have HH := Aside0.mk h
  have GG := Aside0.mk g
  clear h g
  have HB := Aside0.mk (Below.refl W.heap.size W)
  have BD := Aside0.mk (heap_alloc_new W (.cells (deedC d) 36))
  obtain ⟨⟨⟨a0, a1, a2⟩, ab⟩, hr⟩ : ∃ r, oGet D d.v d.nm = r := ⟨_, rfl⟩
  obtain ⟨⟨⟨e0, e1, e2⟩, eb⟩, hs⟩ : ∃ r, aAt D d.v d.i = r := ⟨_, rfl⟩
  obtain ⟨n, hn⟩ : ∃ r, aLen D d.v = r := ⟨_, rfl⟩
  have HR := Aside0.mk hr
  have HS := Aside0.mk hs
  have HN := Aside0.mk hn
  clear hr hs hn
  unfold deedV
  go_enter Tryd.func9, Tryd.ntmps9
  obtain ⟨k0, k1, k2, k3, k4, k5, k6, k7, k8, k9, k10⟩ := box11 (show (W.alloc (.cells (deedC d) 36)).heap[W.heap.size]? = some (.cells (deedC d) 36 (0, 0)) from (by repeat (first | (with_reducible exact BD.out) | (with_reducible refine blk_alloc ?_ _) | (with_reducible refine blk_drewN ?_ _) | (with_reducible refine blk_drew ?_))))
  go_wp2_with (go_at_call 10; refine hold_ ?_)
  unfold Held
  clear k0 k1 k2 k3 k4 k5 k6 k7 k8 k9 k10
  have hC := (HH.out.below (W' := W.alloc (.cells (deedC d) 36)) (by repeat (first | (with_reducible exact Below.refl _ _) | (with_reducible apply below_alloc) | (with_reducible apply pw_below_drewN) | (with_reducible apply below_drew1)))).get d.v d.nm
  rw [HR.out] at hC
  try unfold enc at hC
  refine hC.mono ?_
  clear hC
  rintro e w1 ⟨rfl, hb⟩
  have n0_ := Aside0.mk (HH.out.below (below_step (by repeat (first | (with_reducible exact Below.refl _ _) | (with_reducible apply below_alloc) | (with_reducible apply pw_below_drewN) | (with_reducible apply below_drew1))) hb))
  have n1_ := Aside0.mk (GG.out.below (below_step (by repeat (first | (with_reducible exact Below.refl _ _) | (with_reducible apply below_alloc) | (with_reducible apply pw_below_drewN) | (with_reducible apply below_drew1))) hb))
  have n2_ := Aside0.mk (below_step (by repeat (first | (with_reducible exact HB.out) | (with_reducible apply below_alloc) | (with_reducible apply pw_below_drewN) | (with_reducible apply below_drew1))) hb)
  have n3_ := Aside0.mk (blk_below (g := W.heap.size) (o := (.cells (deedC d) 36)) (by repeat (first | (with_reducible exact BD.out) | (with_reducible refine blk_alloc ?_ _) | (with_reducible refine blk_drewN ?_ _) | (with_reducible refine blk_drew ?_))) hb)
  clear HH GG HB BD
  have HH := n0_
  have GG := n1_
  have HB := n2_
  have BD := n3_
  clear n0_ n1_ n2_ n3_
  haveI := GW.of HB.out
  clear hb
  have BA := Aside0.mk (heap_alloc_new w1 (.cells #[.int .i64 a0, .int .i64 a1, .string a2] 32))
  obtain ⟨k0, k1, k2, k3, k4, k5, k6, k7, k8, k9, k10⟩ := box11 (show (w1.alloc (.cells #[.int .i64 a0, .int .i64 a1, .string a2] 32)).heap[W.heap.size]? = some (.cells (deedC d) 36 (0, 0)) from (by repeat (first | (with_reducible exact BD.out) | (with_reducible refine blk_alloc ?_ _) | (with_reducible refine blk_drewN ?_ _) | (with_reducible refine blk_drew ?_))))
  go_wp2_with (go_at_call 29; refine hold_ ?_)
  unfold Held
  clear k0 k1 k2 k3 k4 k5 k6 k7 k8 k9 k10
  have hC := (GG.out.below (W' := w1.alloc (.cells #[.int .i64 a0, .int .i64 a1, .string a2] 32)) (by repeat (first | (with_reducible exact Below.refl _ _) | (with_reducible apply below_alloc) | (with_reducible apply pw_below_drewN) | (with_reducible apply below_drew1)))).get d.v d.nm
  rw [HR.out] at hC
  try unfold enc at hC
  refine hC.mono ?_
  clear hC
  rintro e w2 ⟨rfl, hb⟩
  have n0_ := Aside0.mk (HH.out.below (below_step (by repeat (first | (with_reducible exact Below.refl _ _) | (with_reducible apply below_alloc) | (with_reducible apply pw_below_drewN) | (with_reducible apply below_drew1))) hb))
  have n1_ := Aside0.mk (GG.out.below (below_step (by repeat (first | (with_reducible exact Below.refl _ _) | (with_reducible apply below_alloc) | (with_reducible apply pw_below_drewN) | (with_reducible apply below_drew1))) hb))
  have n2_ := Aside0.mk (below_step (by repeat (first | (with_reducible exact HB.out) | (with_reducible apply below_alloc) | (with_reducible apply pw_below_drewN) | (with_reducible apply below_drew1))) hb)
  have n3_ := Aside0.mk (blk_below (g := W.heap.size) (o := (.cells (deedC d) 36)) (by repeat (first | (with_reducible exact BD.out) | (with_reducible refine blk_alloc ?_ _) | (with_reducible refine blk_drewN ?_ _) | (with_reducible refine blk_drew ?_))) hb)
  have n4_ := Aside0.mk (blk_below (g := w1.heap.size) (o := (.cells #[.int .i64 a0, .int .i64 a1, .string a2] 32)) (by repeat (first | (with_reducible exact BA.out) | (with_reducible refine blk_alloc ?_ _) | (with_reducible refine blk_drewN ?_ _) | (with_reducible refine blk_drew ?_))) hb)
  clear HH GG HB BD BA
  have HH := n0_
  have GG := n1_
  have HB := n2_
  have BD := n3_
  have BA := n4_
  clear n0_ n1_ n2_ n3_ n4_
  haveI := GW.of HB.out
  clear hb
  have BB := Aside0.mk (heap_alloc_new w2 (.cells #[.int .i64 a0, .int .i64 a1, .string a2] 32))
  obtain ⟨k0, k1, k2, k3, k4, k5, k6, k7, k8, k9, k10⟩ := box11 (show (w2.alloc (.cells #[.int .i64 a0, .int .i64 a1, .string a2] 32)).heap[W.heap.size]? = some (.cells (deedC d) 36 (0, 0)) from (by repeat (first | (with_reducible exact BD.out) | (with_reducible refine blk_alloc ?_ _) | (with_reducible refine blk_drewN ?_ _) | (with_reducible refine blk_drew ?_))))
  go_wp2_with (go_at_call 11; refine hold_ ?_)
  unfold Held
  clear k0 k1 k2 k3 k4 k5 k6 k7 k8 k9 k10
  have hC := (HH.out.below (W' := w2.alloc (.cells #[.int .i64 a0, .int .i64 a1, .string a2] 32)) (by repeat (first | (with_reducible exact Below.refl _ _) | (with_reducible apply below_alloc) | (with_reducible apply pw_below_drewN) | (with_reducible apply below_drew1)))).at d.v d.i
  rw [HS.out] at hC
  try unfold enc at hC
  refine hC.mono ?_
  clear hC
  rintro e w3 ⟨rfl, hb⟩
  have n0_ := Aside0.mk (HH.out.below (below_step (by repeat (first | (with_reducible exact Below.refl _ _) | (with_reducible apply below_alloc) | (with_reducible apply pw_below_drewN) | (with_reducible apply below_drew1))) hb))
  have n1_ := Aside0.mk (GG.out.below (below_step (by repeat (first | (with_reducible exact Below.refl _ _) | (with_reducible apply below_alloc) | (with_reducible apply pw_below_drewN) | (with_reducible apply below_drew1))) hb))
  have n2_ := Aside0.mk (below_step (by repeat (first | (with_reducible exact HB.out) | (with_reducible apply below_alloc) | (with_reducible apply pw_below_drewN) | (with_reducible apply below_drew1))) hb)
  have n3_ := Aside0.mk (blk_below (g := W.heap.size) (o := (.cells (deedC d) 36)) (by repeat (first | (with_reducible exact BD.out) | (with_reducible refine blk_alloc ?_ _) | (with_reducible refine blk_drewN ?_ _) | (with_reducible refine blk_drew ?_))) hb)
  have n4_ := Aside0.mk (blk_below (g := w1.heap.size) (o := (.cells #[.int .i64 a0, .int .i64 a1, .string a2] 32)) (by repeat (first | (with_reducible exact BA.out) | (with_reducible refine blk_alloc ?_ _) | (with_reducible refine blk_drewN ?_ _) | (with_reducible refine blk_drew ?_))) hb)
  have n5_ := Aside0.mk (blk_below (g := w2.heap.size) (o := (.cells #[.int .i64 a0, .int .i64 a1, .string a2] 32)) (by repeat (first | (with_reducible exact BB.out) | (with_reducible refine blk_alloc ?_ _) | (with_reducible refine blk_drewN ?_ _) | (with_reducible refine blk_drew ?_))) hb)
  clear HH GG HB BD BA BB
  have HH := n0_
  have GG := n1_
  have HB := n2_
  have BD := n3_
  have BA := n4_
  have BB := n5_
  clear n0_ n1_ n2_ n3_ n4_ n5_
  haveI := GW.of HB.out
  clear hb
  have BC := Aside0.mk (heap_alloc_new w3 (.cells #[.int .i64 e0, .int .i64 e1, .string e2] 32))
  obtain ⟨k0, k1, k2, k3, k4, k5, k6, k7, k8, k9, k10⟩ := box11 (show (w3.alloc (.cells #[.int .i64 e0, .int .i64 e1, .string e2] 32)).heap[W.heap.size]? = some (.cells (deedC d) 36 (0, 0)) from (by repeat (first | (with_reducible exact BD.out) | (with_reducible refine blk_alloc ?_ _) | (with_reducible refine blk_drewN ?_ _) | (with_reducible refine blk_drew ?_))))
  go_wp2_with (go_at_call 30; refine hold_ ?_)
  unfold Held
  clear k0 k1 k2 k3 k4 k5 k6 k7 k8 k9 k10
  have hC := (GG.out.below (W' := w3.alloc (.cells #[.int .i64 e0, .int .i64 e1, .string e2] 32)) (by repeat (first | (with_reducible exact Below.refl _ _) | (with_reducible apply below_alloc) | (with_reducible apply pw_below_drewN) | (with_reducible apply below_drew1)))).at d.v d.i
  rw [HS.out] at hC
  try unfold enc at hC
  refine hC.mono ?_
  clear hC
  rintro e w4 ⟨rfl, hb⟩
  have n0_ := Aside0.mk (HH.out.below (below_step (by repeat (first | (with_reducible exact Below.refl _ _) | (with_reducible apply below_alloc) | (with_reducible apply pw_below_drewN) | (with_reducible apply below_drew1))) hb))
  have n1_ := Aside0.mk (GG.out.below (below_step (by repeat (first | (with_reducible exact Below.refl _ _) | (with_reducible apply below_alloc) | (with_reducible apply pw_below_drewN) | (with_reducible apply below_drew1))) hb))
  have n2_ := Aside0.mk (below_step (by repeat (first | (with_reducible exact HB.out) | (with_reducible apply below_alloc) | (with_reducible apply pw_below_drewN) | (with_reducible apply below_drew1))) hb)
  have n3_ := Aside0.mk (blk_below (g := W.heap.size) (o := (.cells (deedC d) 36)) (by repeat (first | (with_reducible exact BD.out) | (with_reducible refine blk_alloc ?_ _) | (with_reducible refine blk_drewN ?_ _) | (with_reducible refine blk_drew ?_))) hb)
  have n4_ := Aside0.mk (blk_below (g := w1.heap.size) (o := (.cells #[.int .i64 a0, .int .i64 a1, .string a2] 32)) (by repeat (first | (with_reducible exact BA.out) | (with_reducible refine blk_alloc ?_ _) | (with_reducible refine blk_drewN ?_ _) | (with_reducible refine blk_drew ?_))) hb)
  have n5_ := Aside0.mk (blk_below (g := w2.heap.size) (o := (.cells #[.int .i64 a0, .int .i64 a1, .string a2] 32)) (by repeat (first | (with_reducible exact BB.out) | (with_reducible refine blk_alloc ?_ _) | (with_reducible refine blk_drewN ?_ _) | (with_reducible refine blk_drew ?_))) hb)
  have n6_ := Aside0.mk (blk_below (g := w3.heap.size) (o := (.cells #[.int .i64 e0, .int .i64 e1, .string e2] 32)) (by repeat (first | (with_reducible exact BC.out) | (with_reducible refine blk_alloc ?_ _) | (with_reducible refine blk_drewN ?_ _) | (with_reducible refine blk_drew ?_))) hb)
  clear HH GG HB BD BA BB BC
  have HH := n0_
  have GG := n1_
  have HB := n2_
  have BD := n3_
  have BA := n4_
  have BB := n5_
  have BC := n6_
  clear n0_ n1_ n2_ n3_ n4_ n5_ n6_
  haveI := GW.of HB.out
  clear hb
  have BE := Aside0.mk (heap_alloc_new w4 (.cells #[.int .i64 e0, .int .i64 e1, .string e2] 32))
  have hsz := HB.out.size
  clear hsz
  go_wp2
  have n0_ := Aside0.mk (show Has B (w4.alloc (.cells #[.int .i64 e0, .int .i64 e1, .string e2] 32)) O p D from HH.out.below (by repeat (first | (with_reducible exact Below.refl _ _) | (with_reducible apply below_alloc) | (with_reducible apply pw_below_drewN) | (with_reducible apply below_drew1))))
  have n1_ := Aside0.mk (show HasG B (w4.alloc (.cells #[.int .i64 e0, .int .i64 e1, .string e2] 32)) O' q D from GG.out.below (by repeat (first | (with_reducible exact Below.refl _ _) | (with_reducible apply below_alloc) | (with_reducible apply pw_below_drewN) | (with_reducible apply below_drew1))))
  have n2_ := Aside0.mk (show Below W.heap.size W (w4.alloc (.cells #[.int .i64 e0, .int .i64 e1, .string e2] 32)) from (by repeat (first | (with_reducible exact HB.out) | (with_reducible apply below_alloc) | (with_reducible apply pw_below_drewN) | (with_reducible apply below_drew1))))
  have n3_ := Aside0.mk (show (w4.alloc (.cells #[.int .i64 e0, .int .i64 e1, .string e2] 32)).heap[W.heap.size]? = some (.cells (deedC d) 36) from (by repeat (first | (with_reducible exact BD.out) | (with_reducible refine blk_alloc ?_ _) | (with_reducible refine blk_drewN ?_ _) | (with_reducible refine blk_drew ?_))))
  have n4_ := Aside0.mk (show (w4.alloc (.cells #[.int .i64 e0, .int .i64 e1, .string e2] 32)).heap[w1.heap.size]? = some (.cells #[.int .i64 a0, .int .i64 a1, .string a2] 32) from (by repeat (first | (with_reducible exact BA.out) | (with_reducible refine blk_alloc ?_ _) | (with_reducible refine blk_drewN ?_ _) | (with_reducible refine blk_drew ?_))))
  have n5_ := Aside0.mk (show (w4.alloc (.cells #[.int .i64 e0, .int .i64 e1, .string e2] 32)).heap[w2.heap.size]? = some (.cells #[.int .i64 a0, .int .i64 a1, .string a2] 32) from (by repeat (first | (with_reducible exact BB.out) | (with_reducible refine blk_alloc ?_ _) | (with_reducible refine blk_drewN ?_ _) | (with_reducible refine blk_drew ?_))))
  have n6_ := Aside0.mk (show (w4.alloc (.cells #[.int .i64 e0, .int .i64 e1, .string e2] 32)).heap[w3.heap.size]? = some (.cells #[.int .i64 e0, .int .i64 e1, .string e2] 32) from (by repeat (first | (with_reducible exact BC.out) | (with_reducible refine blk_alloc ?_ _) | (with_reducible refine blk_drewN ?_ _) | (with_reducible refine blk_drew ?_))))
  have n7_ := Aside0.mk (show (w4.alloc (.cells #[.int .i64 e0, .int .i64 e1, .string e2] 32)).heap[w4.heap.size]? = some (.cells #[.int .i64 e0, .int .i64 e1, .string e2] 32) from (by repeat (first | (with_reducible exact BE.out) | (with_reducible refine blk_alloc ?_ _) | (with_reducible refine blk_drewN ?_ _) | (with_reducible refine blk_drew ?_))))
  clear HH GG HB BD BA BB BC BE
  have HH := n0_
  have GG := n1_
  have HB := n2_
  have BD := n3_
  have BA := n4_
  have BB := n5_
  have BC := n6_
  have BE := n7_
  clear n0_ n1_ n2_ n3_ n4_ n5_ n6_ n7_
  haveI := GW.of HB.out
  generalize w4.alloc (.cells #[.int .i64 e0, .int .i64 e1, .string e2] 32) = w5 at *
  refine start_ (n := 30) (S := fun w' => w'.cell? ⟨w1.heap.size, 0, none⟩ = some (.int .i64 a0) ∧ w'.cell? ⟨w1.heap.size, 1, none⟩ = some (.int .i64 a1) ∧ w'.cell? ⟨w1.heap.size, 2, none⟩ = some (.string a2) ∧ w'.cell? ⟨w2.heap.size, 0, none⟩ = some (.int .i64 a0) ∧ w'.cell? ⟨w2.heap.size, 1, none⟩ = some (.int .i64 a1) ∧ w'.cell? ⟨w2.heap.size, 2, none⟩ = some (.string a2) ∧ w'.cell? ⟨w3.heap.size, 0, none⟩ = some (.int .i64 e0) ∧ w'.cell? ⟨w3.heap.size, 1, none⟩ = some (.int .i64 e1) ∧ w'.cell? ⟨w3.heap.size, 2, none⟩ = some (.string e2) ∧ w'.cell? ⟨w4.heap.size, 0, none⟩ = some (.int .i64 e0) ∧ w'.cell? ⟨w4.heap.size, 1, none⟩ = some (.int .i64 e1) ∧ w'.cell? ⟨w4.heap.size, 2, none⟩ = some (.string e2) ∧ w'.cell? ⟨W.heap.size, 1, none⟩ = some (.int .i64 d.v.f0) ∧ w'.cell? ⟨W.heap.size, 2, none⟩ = some (.int .i64 d.v.f1) ∧ w'.cell? ⟨W.heap.size, 3, none⟩ = some (.string d.v.f2)) (ds := []) #[false, false, false, false, false, false, false, false, false, false, false, false, false, false, false, false, false, false, false, false, false, false, false, false, false, false, false, false, false, false] (by kernel_rfl) rfl rfl ⟨(blk_cell BA.out 0).trans rfl, (blk_cell BA.out 1).trans rfl, (blk_cell BA.out 2).trans rfl, (blk_cell BB.out 0).trans rfl, (blk_cell BB.out 1).trans rfl, (blk_cell BB.out 2).trans rfl, (blk_cell BC.out 0).trans rfl, (blk_cell BC.out 1).trans rfl, (blk_cell BC.out 2).trans rfl, (blk_cell BE.out 0).trans rfl, (blk_cell BE.out 1).trans rfl, (blk_cell BE.out 2).trans rfl, (blk_cell BD.out 1).trans rfl, (blk_cell BD.out 2).trans rfl, (blk_cell BD.out 3).trans rfl⟩ (fun hHeld => ?_); refine with_tabW look5.tab look5.bits (fun HT_ HW_ => ?_)
  refine take_ (i := 0) (N := some 51) (v := ?_) (a' := ?_) #[true, false, false, false, false, false, false, false, false, false, false, false, false, false, false, false, false, false, false, false, false, false, false, false, false, false, false, false, false, false] rfl rfl (take_ofW HT_.out HW_.out (by kernel_rfl)) (fun _ _ _ h => h) (Or.inl ⟨by rfl, ?_⟩) hHeld ?_ ?_
  rotate_left
  · rintro w' ⟨s0, s1, s2, s3, s4, s5, s6, s7, s8, s9, s10, s11, s12, s13, s14⟩
    go_simp
    with_reducible rfl
  rotate_left
  · simp only [Act.put, List.setIfInBounds_toArray, List.set_cons_zero, List.set_cons_succ, i64_w, i32_w]
    rfl
  refine take_ (i := 1) (N := some 52) (v := ?_) (a' := ?_) #[true, true, false, false, false, false, false, false, false, false, false, false, false, false, false, false, false, false, false, false, false, false, false, false, false, false, false, false, false, false] rfl rfl (take_ofW HT_.out HW_.out (by kernel_rfl)) (fun _ _ _ h => h) (Or.inl ⟨by rfl, ?_⟩) hHeld ?_ ?_
  rotate_left
  · rintro w' ⟨s0, s1, s2, s3, s4, s5, s6, s7, s8, s9, s10, s11, s12, s13, s14⟩
    go_simp
    with_reducible rfl
  rotate_left
  · simp only [Act.put, List.setIfInBounds_toArray, List.set_cons_zero, List.set_cons_succ, i64_w, i32_w]
    rfl
  refine pure_ (i := 2) (N := some 53) (v := ?_) (a' := ?_) #[true, true, true, false, false, false, false, false, false, false, false, false, false, false, false, false, false, false, false, false, false, false, false, false, false, false, false, false, false, false] rfl rfl (any_of HT_.out (by kernel_rfl)) (fun _ _ _ h => h) (Or.inl ⟨by rfl, ?_⟩) ?_ ?_
  rotate_left
  · intro w'
    go_simp
    with_reducible rfl
  rotate_left
  · simp only [Act.put, List.setIfInBounds_toArray, List.set_cons_zero, List.set_cons_succ, i64_w, i32_w]
    rfl
  refine pure_ (i := 3) (N := some 54) (v := ?_) (a' := ?_) #[true, true, true, true, false, false, false, false, false, false, false, false, false, false, false, false, false, false, false, false, false, false, false, false, false, false, false, false, false, false] rfl rfl (any_of HT_.out (by kernel_rfl)) (fun _ _ _ h => h) (Or.inl ⟨by rfl, ?_⟩) ?_ ?_
  rotate_left
  · intro w'
    go_simp
    with_reducible rfl
  rotate_left
  · simp only [Act.put, List.setIfInBounds_toArray, List.set_cons_zero, List.set_cons_succ, i64_w, i32_w]
    rfl
  refine pure_ (i := 4) (N := some 55) (v := ?_) (a' := ?_) #[true, true, true, true, true, false, false, false, false, false, false, false, false, false, false, false, false, false, false, false, false, false, false, false, false, false, false, false, false, false] rfl rfl (any_of HT_.out (by kernel_rfl)) (fun _ _ _ h => h) (Or.inl ⟨by rfl, ?_⟩) ?_ ?_
  rotate_left
  · intro w'
    go_simp
    with_reducible rfl
  rotate_left
  · simp only [Act.put, List.setIfInBounds_toArray, List.set_cons_zero, List.set_cons_succ, i64_w, i32_w]
    rfl
  refine pure_ (i := 5) (N := some 56) (v := ?_) (a' := ?_) #[true, true, true, true, true, true, false, false, false, false, false, false, false, false, false, false, false, false, false, false, false, false, false, false, false, false, false, false, false, false] rfl rfl (any_of HT_.out (by kernel_rfl)) (fun _ _ _ h => h) (Or.inl ⟨by rfl, ?_⟩) ?_ ?_
  rotate_left
  · intro w'
    go_simp
    with_reducible rfl
  rotate_left
  · simp only [Act.put, List.setIfInBounds_toArray, List.set_cons_zero, List.set_cons_succ, i64_w, i32_w]
    rfl
  refine pure_ (i := 6) (N := some 57) (v := ?_) (a' := ?_) #[true, true, true, true, true, true, true, false, false, false, false, false, false, false, false, false, false, false, false, false, false, false, false, false, false, false, false, false, false, false] rfl rfl (any_of HT_.out (by kernel_rfl)) (fun _ _ _ h => h) (Or.inl ⟨by rfl, ?_⟩) ?_ ?_
  rotate_left
  · intro w'
    go_simp
    with_reducible rfl
  rotate_left
  · simp only [Act.put, List.setIfInBounds_toArray, List.set_cons_zero, List.set_cons_succ, i64_w, i32_w]
    rfl
  refine pure_ (i := 7) (N := some 58) (v := ?_) (a' := ?_) #[true, true, true, true, true, true, true, true, false, false, false, false, false, false, false, false, false, false, false, false, false, false, false, false, false, false, false, false, false, false] rfl rfl (any_of HT_.out (by kernel_rfl)) (fun _ _ _ h => h) (Or.inl ⟨by rfl, ?_⟩) ?_ ?_
  rotate_left
  · intro w'
    go_simp
    with_reducible rfl
  rotate_left
  · simp only [Act.put, List.setIfInBounds_toArray, List.set_cons_zero, List.set_cons_succ, i64_w, i32_w]
    rfl
  refine pure_ (i := 8) (N := some 59) (v := ?_) (a' := ?_) #[true, true, true, true, true, true, true, true, true, false, false, false, false, false, false, false, false, false, false, false, false, false, false, false, false, false, false, false, false, false] rfl rfl (any_of HT_.out (by kernel_rfl)) (fun _ _ _ h => h) (Or.inl ⟨by rfl, ?_⟩) ?_ ?_
  rotate_left
  · intro w'
    go_simp
    with_reducible rfl
  rotate_left
  · simp only [Act.put, List.setIfInBounds_toArray, List.set_cons_zero, List.set_cons_succ, i64_w, i32_w]
    rfl
  refine take_ (i := 9) (N := some 60) (v := ?_) (a' := ?_) #[true, true, true, true, true, true, true, true, true, true, false, false, false, false, false, false, false, false, false, false, false, false, false, false, false, false, false, false, false, false] rfl rfl (take_ofW HT_.out HW_.out (by kernel_rfl)) (fun _ _ _ h => h) (Or.inl ⟨by rfl, ?_⟩) hHeld ?_ ?_
  rotate_left
  · rintro w' ⟨s0, s1, s2, s3, s4, s5, s6, s7, s8, s9, s10, s11, s12, s13, s14⟩
    go_simp
    with_reducible rfl
  rotate_left
  · simp only [Act.put, List.setIfInBounds_toArray, List.set_cons_zero, List.set_cons_succ, i64_w, i32_w]
    rfl
  refine take_ (i := 10) (N := some 61) (v := ?_) (a' := ?_) #[true, true, true, true, true, true, true, true, true, true, true, false, false, false, false, false, false, false, false, false, false, false, false, false, false, false, false, false, false, false] rfl rfl (take_ofW HT_.out HW_.out (by kernel_rfl)) (fun _ _ _ h => h) (Or.inl ⟨by rfl, ?_⟩) hHeld ?_ ?_
  rotate_left
  · rintro w' ⟨s0, s1, s2, s3, s4, s5, s6, s7, s8, s9, s10, s11, s12, s13, s14⟩
    go_simp
    with_reducible rfl
  rotate_left
  · simp only [Act.put, List.setIfInBounds_toArray, List.set_cons_zero, List.set_cons_succ, i64_w, i32_w]
    rfl
  refine pure_ (i := 11) (N := some 62) (v := ?_) (a' := ?_) #[true, true, true, true, true, true, true, true, true, true, true, true, false, false, false, false, false, false, false, false, false, false, false, false, false, false, false, false, false, false] rfl rfl (any_of HT_.out (by kernel_rfl)) (fun _ _ _ h => h) (Or.inl ⟨by rfl, ?_⟩) ?_ ?_
  rotate_left
  · intro w'
    go_simp
    with_reducible rfl
  rotate_left
  · simp only [Act.put, List.setIfInBounds_toArray, List.set_cons_zero, List.set_cons_succ, i64_w, i32_w]
    rfl
  refine pure_ (i := 12) (N := some 63) (v := ?_) (a' := ?_) #[true, true, true, true, true, true, true, true, true, true, true, true, true, false, false, false, false, false, false, false, false, false, false, false, false, false, false, false, false, false] rfl rfl (any_of HT_.out (by kernel_rfl)) (fun _ _ _ h => h) (Or.inl ⟨by rfl, ?_⟩) ?_ ?_
  rotate_left
  · intro w'
    go_simp
    with_reducible rfl
  rotate_left
  · simp only [Act.put, List.setIfInBounds_toArray, List.set_cons_zero, List.set_cons_succ, i64_w, i32_w]
    rfl
  refine pure_ (i := 13) (N := some 64) (v := ?_) (a' := ?_) #[true, true, true, true, true, true, true, true, true, true, true, true, true, true, false, false, false, false, false, false, false, false, false, false, false, false, false, false, false, false] rfl rfl (any_of HT_.out (by kernel_rfl)) (fun _ _ _ h => h) (Or.inl ⟨by rfl, ?_⟩) ?_ ?_
  rotate_left
  · intro w'
    go_simp
    with_reducible rfl
  rotate_left
  · simp only [Act.put, List.setIfInBounds_toArray, List.set_cons_zero, List.set_cons_succ, i64_w, i32_w]
    rfl
  refine pure_ (i := 14) (N := some 65) (v := ?_) (a' := ?_) #[true, true, true, true, true, true, true, true, true, true, true, true, true, true, true, false, false, false, false, false, false, false, false, false, false, false, false, false, false, false] rfl rfl (any_of HT_.out (by kernel_rfl)) (fun _ _ _ h => h) (Or.inl ⟨by rfl, ?_⟩) ?_ ?_
  rotate_left
  · intro w'
    go_simp
    with_reducible rfl
  rotate_left
  · simp only [Act.put, List.setIfInBounds_toArray, List.set_cons_zero, List.set_cons_succ, i64_w, i32_w]
    rfl
  refine pure_ (i := 15) (N := some 66) (v := ?_) (a' := ?_) #[true, true, true, true, true, true, true, true, true, true, true, true, true, true, true, true, false, false, false, false, false, false, false, false, false, false, false, false, false, false] rfl rfl (any_of HT_.out (by kernel_rfl)) (fun _ _ _ h => h) (Or.inl ⟨by rfl, ?_⟩) ?_ ?_
  rotate_left
  · intro w'
    go_simp
    with_reducible rfl
  rotate_left
  · simp only [Act.put, List.setIfInBounds_toArray, List.set_cons_zero, List.set_cons_succ, i64_w, i32_w]
    rfl
  refine pure_ (i := 16) (N := some 67) (v := ?_) (a' := ?_) #[true, true, true, true, true, true, true, true, true, true, true, true, true, true, true, true, true, false, false, false, false, false, false, false, false, false, false, false, false, false] rfl rfl (any_of HT_.out (by kernel_rfl)) (fun _ _ _ h => h) (Or.inl ⟨by rfl, ?_⟩) ?_ ?_
  rotate_left
  · intro w'
    go_simp
    with_reducible rfl
  rotate_left
  · simp only [Act.put, List.setIfInBounds_toArray, List.set_cons_zero, List.set_cons_succ, i64_w, i32_w]
    rfl
  refine pure_ (i := 17) (N := some 68) (v := ?_) (a' := ?_) #[true, true, true, true, true, true, true, true, true, true, true, true, true, true, true, true, true, true, false, false, false, false, false, false, false, false, false, false, false, false] rfl rfl (any_of HT_.out (by kernel_rfl)) (fun _ _ _ h => h) (Or.inl ⟨by rfl, ?_⟩) ?_ ?_
  rotate_left
  · intro w'
    go_simp
    with_reducible rfl
  rotate_left
  · simp only [Act.put, List.setIfInBounds_toArray, List.set_cons_zero, List.set_cons_succ, i64_w, i32_w]
    rfl
  refine pure_ (i := 18) (N := some 69) (v := ?_) (a' := ?_) #[true, true, true, true, true, true, true, true, true, true, true, true, true, true, true, true, true, true, true, false, false, false, false, false, false, false, false, false, false, false] rfl rfl (any_of HT_.out (by kernel_rfl)) (fun _ _ _ h => h) (Or.inl ⟨by rfl, ?_⟩) ?_ ?_
  rotate_left
  · intro w'
    go_simp
    with_reducible rfl
  rotate_left
  · simp only [Act.put, List.setIfInBounds_toArray, List.set_cons_zero, List.set_cons_succ, i64_w, i32_w]
    rfl
  refine pure_ (i := 19) (N := some 70) (v := ?_) (a' := ?_) #[true, true, true, true, true, true, true, true, true, true, true, true, true, true, true, true, true, true, true, true, false, false, false, false, false, false, false, false, false, false] rfl rfl (any_of HT_.out (by kernel_rfl)) (fun _ _ _ h => h) (Or.inl ⟨by rfl, ?_⟩) ?_ ?_
  rotate_left
  · intro w'
    go_simp
    with_reducible rfl
  rotate_left
  · simp only [Act.put, List.setIfInBounds_toArray, List.set_cons_zero, List.set_cons_succ, i64_w, i32_w]
    rfl
  refine pure_ (i := 20) (N := some 71) (v := ?_) (a' := ?_) #[true, true, true, true, true, true, true, true, true, true, true, true, true, true, true, true, true, true, true, true, true, false, false, false, false, false, false, false, false, false] rfl rfl (any_of HT_.out (by kernel_rfl)) (fun _ _ _ h => h) (Or.inl ⟨by rfl, ?_⟩) ?_ ?_
  rotate_left
  · intro w'
    go_simp
    with_reducible rfl
  rotate_left
  · simp only [Act.put, List.setIfInBounds_toArray, List.set_cons_zero, List.set_cons_succ, i64_w, i32_w]
    rfl
  refine pure_ (i := 23) (N := some 74) (v := ?_) (a' := ?_) #[true, true, true, true, true, true, true, true, true, true, true, true, true, true, true, true, true, true, true, true, true, false, false, true, false, false, false, false, false, false] rfl rfl (any_of HT_.out (by kernel_rfl)) (fun _ _ _ h => h) (Or.inl ⟨by rfl, ?_⟩) ?_ ?_
  rotate_left
  · intro w'
    go_simp
    with_reducible rfl
  rotate_left
  · simp only [Act.put, List.setIfInBounds_toArray, List.set_cons_zero, List.set_cons_succ, i64_w, i32_w]
    rfl
  refine pure_ (i := 24) (N := some 75) (v := ?_) (a' := ?_) #[true, true, true, true, true, true, true, true, true, true, true, true, true, true, true, true, true, true, true, true, true, false, false, true, true, false, false, false, false, false] rfl rfl (any_of HT_.out (by kernel_rfl)) (fun _ _ _ h => h) (Or.inl ⟨by rfl, ?_⟩) ?_ ?_
  rotate_left
  · intro w'
    go_simp
    with_reducible rfl
  rotate_left
  · simp only [Act.put, List.setIfInBounds_toArray, List.set_cons_zero, List.set_cons_succ, i64_w, i32_w]
    rfl
  refine take_ (i := 21) (N := some 72) (v := ?_) (a' := ?_) #[true, true, true, true, true, true, true, true, true, true, true, true, true, true, true, true, true, true, true, true, true, true, false, true, true, false, false, false, false, false] rfl rfl (take_ofW HT_.out HW_.out (by kernel_rfl)) (fun _ _ _ h => h) (Or.inl ⟨by rfl, ?_⟩) hHeld ?_ ?_
  rotate_left
  · rintro w' ⟨s0, s1, s2, s3, s4, s5, s6, s7, s8, s9, s10, s11, s12, s13, s14⟩
    go_simp
    with_reducible rfl
  rotate_left
  · simp only [Act.put, List.setIfInBounds_toArray, List.set_cons_zero, List.set_cons_succ, i64_w, i32_w]
    rfl
  refine take_ (i := 25) (N := some 76) (v := ?_) (a' := ?_) #[true, true, true, true, true, true, true, true, true, true, true, true, true, true, true, true, true, true, true, true, true, true, false, true, true, true, false, false, false, false] rfl rfl (take_ofW HT_.out HW_.out (by kernel_rfl)) (fun _ _ _ h => h) (Or.inl ⟨by rfl, ?_⟩) hHeld ?_ ?_
  rotate_left
  · rintro w' ⟨s0, s1, s2, s3, s4, s5, s6, s7, s8, s9, s10, s11, s12, s13, s14⟩
    go_simp
    with_reducible rfl
  rotate_left
  · simp only [Act.put, List.setIfInBounds_toArray, List.set_cons_zero, List.set_cons_succ, i64_w, i32_w]
    rfl
  refine one_ (i := 22) (N := some 73) #[true, true, true, true, true, true, true, true, true, true, true, true, true, true, true, true, true, true, true, true, true, true, true, true, true, true, false, false, false, false] rfl rfl (one_of HT_.out (by kernel_rfl)) (by decide) (fun K hK => ?_)
  refine goes_ Tryd.func14 (by kernel_rfl) rfl #[.pointer (some ⟨p, 0, none⟩), .agg #[.int .i64 d.v.f0, .int .i64 d.v.f1, .string d.v.f2]] (by rfl) rfl rfl (by (try simp only [List.map_toArray, List.map_cons, List.map_nil]); first | done | rfl) ?_
  refine ((HH.out.below (by repeat (first | (with_reducible exact Below.refl _ _) | (with_reducible apply below_alloc) | (with_reducible apply pw_below_drewN) | (with_reducible apply below_drew1)))).lenE d.v n HN.out).mono ?_
  rintro e w6 ⟨rfl, hb⟩
  refine ⟨_, rfl, ?_⟩
  have n0_ := Aside0.mk (HH.out.below (below_step (by repeat (first | (with_reducible exact Below.refl _ _) | (with_reducible apply below_alloc) | (with_reducible apply pw_below_drewN) | (with_reducible apply below_drew1))) hb))
  have n1_ := Aside0.mk (GG.out.below (below_step (by repeat (first | (with_reducible exact Below.refl _ _) | (with_reducible apply below_alloc) | (with_reducible apply pw_below_drewN) | (with_reducible apply below_drew1))) hb))
  have n2_ := Aside0.mk (below_step (by repeat (first | (with_reducible exact HB.out) | (with_reducible apply below_alloc) | (with_reducible apply pw_below_drewN) | (with_reducible apply below_drew1))) hb)
  have n3_ := Aside0.mk (blk_below (g := W.heap.size) (o := (.cells (deedC d) 36)) (by repeat (first | (with_reducible exact BD.out) | (with_reducible refine blk_alloc ?_ _) | (with_reducible refine blk_drewN ?_ _) | (with_reducible refine blk_drew ?_))) hb)
  have n4_ := Aside0.mk (blk_below (g := w1.heap.size) (o := (.cells #[.int .i64 a0, .int .i64 a1, .string a2] 32)) (by repeat (first | (with_reducible exact BA.out) | (with_reducible refine blk_alloc ?_ _) | (with_reducible refine blk_drewN ?_ _) | (with_reducible refine blk_drew ?_))) hb)
  have n5_ := Aside0.mk (blk_below (g := w2.heap.size) (o := (.cells #[.int .i64 a0, .int .i64 a1, .string a2] 32)) (by repeat (first | (with_reducible exact BB.out) | (with_reducible refine blk_alloc ?_ _) | (with_reducible refine blk_drewN ?_ _) | (with_reducible refine blk_drew ?_))) hb)
  have n6_ := Aside0.mk (blk_below (g := w3.heap.size) (o := (.cells #[.int .i64 e0, .int .i64 e1, .string e2] 32)) (by repeat (first | (with_reducible exact BC.out) | (with_reducible refine blk_alloc ?_ _) | (with_reducible refine blk_drewN ?_ _) | (with_reducible refine blk_drew ?_))) hb)
  have n7_ := Aside0.mk (blk_below (g := w4.heap.size) (o := (.cells #[.int .i64 e0, .int .i64 e1, .string e2] 32)) (by repeat (first | (with_reducible exact BE.out) | (with_reducible refine blk_alloc ?_ _) | (with_reducible refine blk_drewN ?_ _) | (with_reducible refine blk_drew ?_))) hb)
  clear HH GG HB BD BA BB BC BE
  have HH := n0_
  have GG := n1_
  have HB := n2_
  have BD := n3_
  have BA := n4_
  have BB := n5_
  have BC := n6_
  have BE := n7_
  clear n0_ n1_ n2_ n3_ n4_ n5_ n6_ n7_
  haveI := GW.of HB.out
  clear hb
  refine hK.out _ _ ⟨(blk_cell BA.out 0).trans rfl, (blk_cell BA.out 1).trans rfl, (blk_cell BA.out 2).trans rfl, (blk_cell BB.out 0).trans rfl, (blk_cell BB.out 1).trans rfl, (blk_cell BB.out 2).trans rfl, (blk_cell BC.out 0).trans rfl, (blk_cell BC.out 1).trans rfl, (blk_cell BC.out 2).trans rfl, (blk_cell BE.out 0).trans rfl, (blk_cell BE.out 1).trans rfl, (blk_cell BE.out 2).trans rfl, (blk_cell BD.out 1).trans rfl, (blk_cell BD.out 2).trans rfl, (blk_cell BD.out 3).trans rfl⟩ (fun hHeld => ?_)
  clear hK K
  refine norm_ (a' := ?_) ?_ ?_
  rotate_left
  · show Act.put _ (some 73) _ = _
    simp only [Act.put, List.setIfInBounds_toArray, List.set_cons_zero, List.set_cons_succ, i64_w, i32_w]
    rfl
  refine one_ (i := 26) (N := some 77) #[true, true, true, true, true, true, true, true, true, true, true, true, true, true, true, true, true, true, true, true, true, true, true, true, true, true, true, false, false, false] rfl rfl (one_of HT_.out (by kernel_rfl)) (by decide) (fun K hK => ?_)
  refine goes_ Tryd.func31 (by kernel_rfl) rfl #[.pointer (some ⟨q, 0, none⟩), .agg #[.int .i64 d.v.f0, .int .i64 d.v.f1, .string d.v.f2]] (by rfl) rfl rfl (by (try simp only [List.map_toArray, List.map_cons, List.map_nil]); first | done | rfl) ?_
  refine ((GG.out.below (by repeat (first | (with_reducible exact Below.refl _ _) | (with_reducible apply below_alloc) | (with_reducible apply pw_below_drewN) | (with_reducible apply below_drew1)))).lenE d.v n HN.out).mono ?_
  rintro e w7 ⟨rfl, hb⟩
  refine ⟨_, rfl, ?_⟩
  have n0_ := Aside0.mk (HH.out.below (below_step (by repeat (first | (with_reducible exact Below.refl _ _) | (with_reducible apply below_alloc) | (with_reducible apply pw_below_drewN) | (with_reducible apply below_drew1))) hb))
  have n1_ := Aside0.mk (GG.out.below (below_step (by repeat (first | (with_reducible exact Below.refl _ _) | (with_reducible apply below_alloc) | (with_reducible apply pw_below_drewN) | (with_reducible apply below_drew1))) hb))
  have n2_ := Aside0.mk (below_step (by repeat (first | (with_reducible exact HB.out) | (with_reducible apply below_alloc) | (with_reducible apply pw_below_drewN) | (with_reducible apply below_drew1))) hb)
  have n3_ := Aside0.mk (blk_below (g := W.heap.size) (o := (.cells (deedC d) 36)) (by repeat (first | (with_reducible exact BD.out) | (with_reducible refine blk_alloc ?_ _) | (with_reducible refine blk_drewN ?_ _) | (with_reducible refine blk_drew ?_))) hb)
  have n4_ := Aside0.mk (blk_below (g := w1.heap.size) (o := (.cells #[.int .i64 a0, .int .i64 a1, .string a2] 32)) (by repeat (first | (with_reducible exact BA.out) | (with_reducible refine blk_alloc ?_ _) | (with_reducible refine blk_drewN ?_ _) | (with_reducible refine blk_drew ?_))) hb)
  have n5_ := Aside0.mk (blk_below (g := w2.heap.size) (o := (.cells #[.int .i64 a0, .int .i64 a1, .string a2] 32)) (by repeat (first | (with_reducible exact BB.out) | (with_reducible refine blk_alloc ?_ _) | (with_reducible refine blk_drewN ?_ _) | (with_reducible refine blk_drew ?_))) hb)
  have n6_ := Aside0.mk (blk_below (g := w3.heap.size) (o := (.cells #[.int .i64 e0, .int .i64 e1, .string e2] 32)) (by repeat (first | (with_reducible exact BC.out) | (with_reducible refine blk_alloc ?_ _) | (with_reducible refine blk_drewN ?_ _) | (with_reducible refine blk_drew ?_))) hb)
  have n7_ := Aside0.mk (blk_below (g := w4.heap.size) (o := (.cells #[.int .i64 e0, .int .i64 e1, .string e2] 32)) (by repeat (first | (with_reducible exact BE.out) | (with_reducible refine blk_alloc ?_ _) | (with_reducible refine blk_drewN ?_ _) | (with_reducible refine blk_drew ?_))) hb)
  clear HH GG HB BD BA BB BC BE
  have HH := n0_
  have GG := n1_
  have HB := n2_
  have BD := n3_
  have BA := n4_
  have BB := n5_
  have BC := n6_
  have BE := n7_
  clear n0_ n1_ n2_ n3_ n4_ n5_ n6_ n7_
  haveI := GW.of HB.out
  clear hb
  refine hK.out _ _ ⟨(blk_cell BA.out 0).trans rfl, (blk_cell BA.out 1).trans rfl, (blk_cell BA.out 2).trans rfl, (blk_cell BB.out 0).trans rfl, (blk_cell BB.out 1).trans rfl, (blk_cell BB.out 2).trans rfl, (blk_cell BC.out 0).trans rfl, (blk_cell BC.out 1).trans rfl, (blk_cell BC.out 2).trans rfl, (blk_cell BE.out 0).trans rfl, (blk_cell BE.out 1).trans rfl, (blk_cell BE.out 2).trans rfl, (blk_cell BD.out 1).trans rfl, (blk_cell BD.out 2).trans rfl, (blk_cell BD.out 3).trans rfl⟩ (fun hHeld => ?_)
  clear hK K
  refine norm_ (a' := ?_) ?_ ?_
  rotate_left
  · show Act.put _ (some 77) _ = _
    simp only [Act.put, List.setIfInBounds_toArray, List.set_cons_zero, List.set_cons_succ, i64_w, i32_w]
    rfl
  refine pure_ (i := 27) (N := some 78) (v := ?_) (a' := ?_) #[true, true, true, true, true, true, true, true, true, true, true, true, true, true, true, true, true, true, true, true, true, true, true, true, true, true, true, true, false, false] rfl rfl (any_of HT_.out (by kernel_rfl)) (fun _ _ _ h => h) (Or.inl ⟨by rfl, ?_⟩) ?_ ?_
  rotate_left
  · intro w'
    go_simp
    with_reducible rfl
  rotate_left
  · simp only [Act.put, List.setIfInBounds_toArray, List.set_cons_zero, List.set_cons_succ, i64_w, i32_w]
    rfl
  refine pure_ (i := 28) (N := some 79) (v := ?_) (a' := ?_) #[true, true, true, true, true, true, true, true, true, true, true, true, true, true, true, true, true, true, true, true, true, true, true, true, true, true, true, true, true, false] rfl rfl (any_of HT_.out (by kernel_rfl)) (fun _ _ _ h => h) (Or.inl ⟨by rfl, ?_⟩) ?_ ?_
  rotate_left
  · intro w'
    go_simp
    with_reducible rfl
  rotate_left
  · simp only [Act.put, List.setIfInBounds_toArray, List.set_cons_zero, List.set_cons_succ, i64_w, i32_w]
    rfl
  refine pure_ (i := 29) (N := some 6) (v := ?_) (a' := ?_) #[true, true, true, true, true, true, true, true, true, true, true, true, true, true, true, true, true, true, true, true, true, true, true, true, true, true, true, true, true, true] rfl rfl (any_of HT_.out (by kernel_rfl)) (fun _ _ _ h => h) (Or.inl ⟨by rfl, ?_⟩) ?_ ?_
  rotate_left
  · intro w'
    go_simp
    with_reducible rfl
  rotate_left
  · simp only [Act.put, List.setIfInBounds_toArray, List.set_cons_zero, List.set_cons_succ, i64_w, i32_w]
    rfl
  refine done_ (done_of HT_.out (by kernel_rfl)) ?_
  go_wp2
  go_ret
  exact ⟨rfl, (by repeat (first | (with_reducible exact HB.out) | (with_reducible apply below_alloc) | (with_reducible apply pw_below_drewN) | (with_reducible apply below_drew1)))⟩
end Go.Proofs.YtjbolkkbehfnmaaDoor.Val
namespace Go.Proofs.YtjbolkkbehfnmaaDoor.Val
open Go.RowKit Go.Proofs.YtjbolkkbehfnmaaDoor.PVal Go.Proofs.YtjbolkkbehfnmaaDoorW.PrintWords Go.Proofs.YtjbolkkbehfnmaaDoorW.PrintLast Go.Proofs.YtjbolkkbehfnmaaDoorW.PrintMore
set_option linter.unusedVariables false
set_option linter.unusedSimpArgs false
/-- w0: the world of the caller's begin. G: blocks that are none of the heaps'; L: those that stay as they were in W1. -/
structure Duo (w0 : World) (G L : Nat → Prop) (W1 : World) (p q : Nat) (W : World) (D D' : List Th) (O O' : Nat → Prop) : Prop where
  h : Has w0.heap.size W O p D
  g : HasG w0.heap.size W O' q D'
  dis : ∀ k, O k → ¬ O' k
  bel : Below w0.heap.size w0 W
  no : ∀ k, G k → ¬ O k ∧ ¬ O' k ∧ k < W.heap.size
  loc : ∀ k, L k → G k ∧ k < W1.heap.size ∧ W.heap[k]? = W1.heap[k]?
def Both (w0 : World) (G L : Nat → Prop) (W1 : World) (p q : Nat) (W : World) (D D' : List Th) : Prop := ∃ O O', Duo w0 G L W1 p q W D D' O O'
section
variable {w0 W1 W W' : World} {G L : Nat → Prop} {p q : Nat} {D D' D2 : List Th}
theorem Both.below (h : Both w0 G L W1 p q W D D') (hb : Below W.heap.size W W') : Both w0 G L W1 p q W' D D' := by
  obtain ⟨O, O', d⟩ := h
  have hs := hb.size
  exact ⟨O, O', d.h.below hb, d.g.below hb, d.dis, below_step d.bel hb, fun k hk => ⟨(d.no k hk).1, (d.no k hk).2.1, by have := (d.no k hk).2.2; omega⟩, fun k hk => ⟨(d.loc k hk).1, (d.loc k hk).2.1, (hb.block k (d.no k (d.loc k hk).1).2.2).trans (d.loc k hk).2.2⟩⟩
/-- The guarded blocks turn, not those that stay. -/
theorem Both.turn (h : Both w0 G L W1 p q W D D') {Q : Nat → Prop} (hc : Chg Q W W') (hq : ∀ k, Q k → G k ∧ ¬ L k ∧ w0.heap.size ≤ k) : Both w0 G L W1 p q W' D D' := by
  obtain ⟨O, O', d⟩ := h
  have hs := hc.size
  refine ⟨O, O', d.h.apart hc (fun k hk hn => (d.no k (hq k hn).1).1 hk), d.g.apart hc (fun k hk hn => (d.no k (hq k hn).1).2.1 hk), d.dis, d.bel.trans (hc.below d.h.1 (fun k hk => (hq k hk).2.2)), fun k hk => ⟨(d.no k hk).1, (d.no k hk).2.1, by have := (d.no k hk).2.2; omega⟩, fun k hk => ⟨(d.loc k hk).1, (d.loc k hk).2.1, (hc.block k (d.no k (d.loc k hk).1).2.2 (fun hn => (hq k hn).2.1 hk)).trans (d.loc k hk).2.2⟩⟩
/-- Other blocks are looked after. -/
theorem Both.anew (h : Both w0 G L W1 p q W D D') {G2 L2 : Nat → Prop} (hG : ∀ k, G2 k → G k) (hL : ∀ k, L2 k → G2 k) : Both w0 G2 L2 W p q W D D' := by
  obtain ⟨O, O', d⟩ := h
  exact ⟨O, O', d.h, d.g, d.dis, d.bel, fun k hk => d.no k (hG k hk), fun k hk => ⟨hL k hk, (d.no k (hG k (hL k hk))).2.2, rfl⟩⟩
theorem Both.call1 (h : Both w0 G L W1 p q W D D') {P : Program} {f : FuncId} {args : Array Value} {E : Ending} (hc : ∀ O, Has w0.heap.size W O p D → Calls P f args W fun e w' => e = E ∧ ∃ O1, Has w0.heap.size w' O1 p D2 ∧ (∀ k, k < W.heap.size → ¬ O k → ¬ O1 k) ∧ Chg O W w') :
    Calls P f args W fun e w' => e = E ∧ Both w0 G L W1 p q w' D2 D' := by
  obtain ⟨O, O', d⟩ := h
  refine (hc O d.h).mono ?_
  rintro e w' ⟨rfl, O1, hh, hno, hch⟩
  have hs := hch.size
  exact ⟨rfl, O1, O', hh, d.g.apart hch (fun k hk hn => d.dis k hn hk), fun k h1 h2 => hno k (d.g.2.2 k h2).2 (fun ho => d.dis k ho h2) h1, d.h.own hch d.bel, fun k hk => ⟨hno k (d.no k hk).2.2 (d.no k hk).1, (d.no k hk).2.1, by have := (d.no k hk).2.2; omega⟩, fun k hk => ⟨(d.loc k hk).1, (d.loc k hk).2.1, (hch.block k (d.no k (d.loc k hk).1).2.2 (d.no k (d.loc k hk).1).1).trans (d.loc k hk).2.2⟩⟩
theorem Both.call2 (h : Both w0 G L W1 p q W D D') {P : Program} {f : FuncId} {args : Array Value} {E : Ending} (hc : ∀ O, HasG w0.heap.size W O q D' → Calls P f args W fun e w' => e = E ∧ ∃ O1, HasG w0.heap.size w' O1 q D2 ∧ (∀ k, k < W.heap.size → ¬ O k → ¬ O1 k) ∧ Chg O W w') :
    Calls P f args W fun e w' => e = E ∧ Both w0 G L W1 p q w' D D2 := by
  obtain ⟨O, O', d⟩ := h
  refine (hc O' d.g).mono ?_
  rintro e w' ⟨rfl, O1, hh, hno, hch⟩
  have hs := hch.size
  exact ⟨rfl, O, O1, d.h.apart hch (fun k hk hn => d.dis k hk hn), hh, fun k h1 h2 => hno k (d.h.2.2 k h1).2 (fun ho => d.dis k h1 ho) h2, d.g.own hch d.bel, fun k hk => ⟨(d.no k hk).1, hno k (d.no k hk).2.2 (d.no k hk).2.1, by have := (d.no k hk).2.2; omega⟩, fun k hk => ⟨(d.loc k hk).1, (d.loc k hk).2.1, (hch.block k (d.no k (d.loc k hk).1).2.2 (d.no k (d.loc k hk).1).2.1).trans (d.loc k hk).2.2⟩⟩
theorem Both.bel (h : Both w0 G L W1 p q W D D') : Below w0.heap.size w0 W := by
  obtain ⟨O, O', d⟩ := h
  exact d.bel
theorem Both.blk (h : Both w0 G L W1 p q W D D') {k : Nat} (hk : L k) {o : Obj} (ho : W1.heap[k]? = some o) : W.heap[k]? = some o := by
  obtain ⟨O, O', d⟩ := h
  exact (d.loc k hk).2.2.trans ho
theorem Both.row {α : Type} {κ : Kd α} (h : Both w0 G L W1 p q W D D') {e base : Nat} {v : Value} {xs : List α} (hr : κ.R e W1 base L v xs) : κ.R e W base L v xs := by
  obtain ⟨O, O', d⟩ := h
  exact Kd.R_step hr (fun k hk _ => (d.loc k hk).2.2)
theorem Both.look (h : Both w0 G L W1 p q W D D) [GW W] (d : Deed) :
    Calls Tryd.prog 9 #[.pointer (some ⟨p, 0, none⟩), .pointer (some ⟨q, 0, none⟩), deedV d] W fun e w' => e = .returned (.bool true) ∧ Both w0 G L W1 p q w' D D := by
  have h0 := h
  obtain ⟨O, O', u⟩ := h
  exact (look_calls u.h u.g d).mono fun e w' ⟨he, hb⟩ => ⟨he, h0.below hb⟩
end
/-- A row's beginning. -/
theorem C_begin {α : Type} {κ : Kd α} {w : World} {A : Option Addr} {xs ys : List α} (h : κ.C w A (xs ++ ys).length (xs ++ ys)) : κ.C w A xs.length xs := by
  obtain ⟨_, h1, h2⟩ := h
  refine ⟨rfl, by simp at h1; omega, fun h0 => ?_⟩
  obtain ⟨a, e, h3⟩ := h2 (by simp; omega)
  exact ⟨a, e, fun j x hj => h3 j x (by
    have hlt := (List.getElem?_eq_some_iff.1 hj).1
    rw [List.getElem?_append_left hlt]
    exact hj)⟩
def n77 : S32 := ⟨3, 77, ⟨#[]⟩⟩
def n78 : S32 := ⟨3, 78, ⟨#[]⟩⟩
def sSpare : ByteArray := ⟨#[115, 112, 97, 114, 101]⟩
def sSpoilt : ByteArray := ⟨#[115, 112, 111, 105, 108, 116]⟩
/-- What a deed leaves of the things. -/
def doD (D : List Th) (d : Deed) : List Th :=
  if d.k = 0 then D ++ [.arr d.l] else if d.k = 1 then D ++ [.obj (kvFold d.ns d.l)] else if d.k = 2 then (oSet D d.v d.nm d.x).1 else if d.k = 3 then (aPut D d.v d.i d.x).1 else if d.k = 4 then (aPush D d.v d.x).1 else D
end Go.Proofs.YtjbolkkbehfnmaaDoor.Val
namespace Go.Proofs.YtjbolkkbehfnmaaDoor.Val
open Go.RowKit Go.Proofs.YtjbolkkbehfnmaaDoor.PVal Go.Proofs.YtjbolkkbehfnmaaDoorW.PrintWords Go.Proofs.YtjbolkkbehfnmaaDoorW.PrintLast Go.Proofs.YtjbolkkbehfnmaaDoorW.PrintMore
set_option linter.unusedVariables false
set_option linter.unusedSimpArgs false
attribute [local go_sem high] eqA32
theorem do_facts15 {w0 W5 w' W : World} {G L LL : Nat → Prop} {p q : Nat} {D : List Th} {d : Deed} {gn gl c2 c5 : Nat} (hL : ∀ k, L k → LL k) (hb : Both w0 G L W5 p q w' D D) (bd : w'.heap[W.heap.size]? = some (.cells (deedC d) 36 (0, 0))) (rn : Kd.string.R 9 w' 0 L (.slice (some ⟨gn, 0, none⟩) (d.ns.length + 1) c2) (d.ns ++ [sSpare])) (rl : k32.R 32 w' 0 L (.slice (some ⟨gl, 0, none⟩) (d.l.length + 1) c5) (d.l ++ [n77])) :
    w'.cell? ⟨W.heap.size, 9, none⟩ = some (.slice d.nA d.ns.length d.nc) ∧ w'.cell? ⟨W.heap.size, 10, none⟩ = some (.slice d.lA d.l.length d.lc) ∧ w'.cell? ⟨gn, d.ns.length, none⟩ = some (.string ⟨#[115, 112, 97, 114, 101]⟩) ∧ w'.cell? ⟨gl, d.l.length * 3, none⟩ = some (.int .i64 3) ∧ w'.cell? ⟨gl, d.l.length * 3 + 1, none⟩ = some (.int .i64 77) ∧ w'.cell? ⟨gl, d.l.length * 3 + 2, none⟩ = some (.string ⟨#[]⟩) := by
  obtain ⟨k0, k1, k2, k3, k4, k5, k6, k7, k8, k9, k10⟩ := box11 bd
  obtain ⟨ad, e1, h1⟩ := Kd.at_string (Kd.R_reads' rn).2.2 (d.ns.length : Int) (by omega) (by simp; omega)
  obtain ⟨ad2, e2, h2, h3, h4⟩ := at_T32 (Kd.R_reads' rl).2.2 (d.l.length : Int) (by omega) (by simp; omega)
  cases e1
  cases e2
  have f1 : rdOf ByteArray.empty (d.ns ++ [sSpare]) (d.ns.length : Int) = sSpare := by
    show (d.ns ++ [sSpare]).getD (d.ns.length : Int).toNat _ = _
    simp
  have f2 : rd_T32 (d.l ++ [n77]) (d.l.length : Int) = n77 := by
    show (d.l ++ [n77]).getD (d.l.length : Int).toNat _ = _
    simp
  rw [f1] at h1
  rw [f2] at h2 h3 h4
  simp only [Int.toNat_natCast] at h1 h2 h3 h4
  rw [add_plain] at h1 h2 h3 h4
  exact ⟨k9, k10, h1, h2, h3, h4⟩
/-- Blocks that were made since are none of the heaps'. -/
theorem Both.fresh {w0 W1 W W2 : World} {G L : Nat → Prop} {p q : Nat} {D D' : List Th} (h : Both w0 G L W1 p q W D D') (hb : Below W.heap.size W W2) {L2 : Nat → Prop} (hL : ∀ k, L2 k → W.heap.size ≤ k ∧ k < W2.heap.size) : Both w0 (fun k => W.heap.size ≤ k ∧ k < W2.heap.size) L2 W2 p q W2 D D' := by
  obtain ⟨O, O', d⟩ := h
  have hs := hb.size
  exact ⟨O, O', d.h.below hb, d.g.below hb, d.dis, below_step d.bel hb, fun k hk => ⟨d.h.free hk.1, d.g.free hk.1, hk.2⟩, fun k hk => ⟨hL k hk, (hL k hk).2, rfl⟩⟩
section
variable {w0 W1 W : World} {G L : Nat → Prop} {p q : Nat} {D D' : List Th}
theorem Both.arr1 (h : Both w0 G L W1 p q W D D') {A : Option Addr} {c : Nat} {l : List S32} (hC : k32.C W A l.length l) (hc : l.length ≤ c) (hmax : l.length < 1000000000000) (hlen : D.length < 1000000000000) :
    Calls Tryd.prog 12 #[.pointer (some ⟨p, 0, none⟩), .slice A l.length c] W fun e w' => e = .returned (.agg #[.int .i64 5, .int .i64 (D.length : Nat), .string ⟨#[]⟩]) ∧ Both w0 G L W1 p q w' (D ++ [.arr l]) D' :=
  h.call1 (fun O hh => hh.arr hC hc hmax hlen)
theorem Both.obj1 (h : Both w0 G L W1 p q W D D') {A A2 : Option Addr} {c c' : Nat} {ns : List ByteArray} {l : List S32} (hN : Kd.string.C W A ns.length ns) (hC : k32.C W A2 l.length l) (hmax : l.length < 1000000000000) (hmax2 : ns.length < 1000000000000) (hlen : D.length < 1000000000000) :
    Calls Tryd.prog 13 #[.pointer (some ⟨p, 0, none⟩), .slice A ns.length c, .slice A2 l.length c'] W fun e w' => e = .returned (.agg #[.int .i64 6, .int .i64 (D.length : Nat), .string ⟨#[]⟩]) ∧ Both w0 G L W1 p q w' (D ++ [.obj (kvFold ns l)]) D' :=
  h.call1 (fun O hh => hh.obj hN hC hmax hmax2 hlen)
theorem Both.set1 (h : Both w0 G L W1 p q W D D') (x y : S32) (n : ByteArray) :
    Calls Tryd.prog 15 #[.pointer (some ⟨p, 0, none⟩), .agg #[.int .i64 x.f0, .int .i64 x.f1, .string x.f2], .string n, .agg #[.int .i64 y.f0, .int .i64 y.f1, .string y.f2]] W fun e w' => e = .returned (.bool (oSet D x n y).2) ∧ Both w0 G L W1 p q w' ((oSet D x n y).1) D' :=
  h.call1 (fun O hh => hh.set x y n)
theorem Both.put1 (h : Both w0 G L W1 p q W D D') (x y : S32) (i : Int) (hR : Room D 100000000000) :
    Calls Tryd.prog 16 #[.pointer (some ⟨p, 0, none⟩), .agg #[.int .i64 x.f0, .int .i64 x.f1, .string x.f2], .int .i64 i, .agg #[.int .i64 y.f0, .int .i64 y.f1, .string y.f2]] W fun e w' => e = .returned (.bool (aPut D x i y).2) ∧ Both w0 G L W1 p q w' ((aPut D x i y).1) D' :=
  h.call1 (fun O hh => hh.put x y i hR)
theorem Both.push1 (h : Both w0 G L W1 p q W D D') (x y : S32) (hR : Room D 100000000000) :
    Calls Tryd.prog 17 #[.pointer (some ⟨p, 0, none⟩), .agg #[.int .i64 x.f0, .int .i64 x.f1, .string x.f2], .agg #[.int .i64 y.f0, .int .i64 y.f1, .string y.f2]] W fun e w' => e = .returned (.bool (aPush D x y).2) ∧ Both w0 G L W1 p q w' ((aPush D x y).1) D' :=
  h.call1 (fun O hh => hh.push x y hR)
theorem Both.arr2 (h : Both w0 G L W1 p q W D D') {A : Option Addr} {c : Nat} {l : List S32} (hC : k32.C W A l.length l) (hmax : l.length < 1000000000000) (hlen : D'.length < 1000000000000) :
    Calls Tryd.prog 24 #[.pointer (some ⟨q, 0, none⟩), .slice A l.length c] W fun e w' => e = .returned (.agg #[.int .i64 5, .int .i64 (D'.length : Nat), .string ⟨#[]⟩]) ∧ Both w0 G L W1 p q w' D (D' ++ [.arr l]) :=
  h.call2 (fun O hh => hh.arr hC hmax hlen)
theorem Both.obj2 (h : Both w0 G L W1 p q W D D') {A A2 : Option Addr} {c c' : Nat} {ns : List ByteArray} {l : List S32} (hN : Kd.string.C w0 A ns.length ns) (hC : k32.C w0 A2 l.length l) (hmax : l.length < 1000000000) (hmax2 : ns.length < 1000000000) (hlen : D'.length < 1000000000) :
    Calls Tryd.prog 25 #[.pointer (some ⟨q, 0, none⟩), .slice A ns.length c, .slice A2 l.length c'] W fun e w' => e = .returned (.agg #[.int .i64 6, .int .i64 (D'.length : Nat), .string ⟨#[]⟩]) ∧ Both w0 G L W1 p q w' D (D' ++ [.obj (kvFold ns l)]) :=
  h.call2 (fun O hh => hh.obj rfl h.bel hN hC hmax hmax2 hlen)
theorem Both.set2 (h : Both w0 G L W1 p q W D D') (x y : S32) (n : ByteArray) (hR : Room D' 100000000000) :
    Calls Tryd.prog 26 #[.pointer (some ⟨q, 0, none⟩), .agg #[.int .i64 x.f0, .int .i64 x.f1, .string x.f2], .string n, .agg #[.int .i64 y.f0, .int .i64 y.f1, .string y.f2]] W fun e w' => e = .returned (.bool (oSet D' x n y).2) ∧ Both w0 G L W1 p q w' D ((oSet D' x n y).1) :=
  h.call2 (fun O hh => hh.set x y n hR)
theorem Both.put2 (h : Both w0 G L W1 p q W D D') (x y : S32) (i : Int) (hR : Room D' 100000000000) :
    Calls Tryd.prog 27 #[.pointer (some ⟨q, 0, none⟩), .agg #[.int .i64 x.f0, .int .i64 x.f1, .string x.f2], .int .i64 i, .agg #[.int .i64 y.f0, .int .i64 y.f1, .string y.f2]] W fun e w' => e = .returned (.bool (aPut D' x i y).2) ∧ Both w0 G L W1 p q w' D ((aPut D' x i y).1) :=
  h.call2 (fun O hh => hh.put x y i hR)
theorem Both.push2 (h : Both w0 G L W1 p q W D D') (x y : S32) (hR : Room D' 100000000000) :
    Calls Tryd.prog 28 #[.pointer (some ⟨q, 0, none⟩), .agg #[.int .i64 x.f0, .int .i64 x.f1, .string x.f2], .agg #[.int .i64 y.f0, .int .i64 y.f1, .string y.f2]] W fun e w' => e = .returned (.bool (aPush D' x y).2) ∧ Both w0 G L W1 p q w' D ((aPush D' x y).1) :=
  h.call2 (fun O hh => hh.push x y hR)
end
theorem Both.none {w0 W1 W : World} {G L : Nat → Prop} {p q : Nat} {D D' : List Th} (h : Both w0 G L W1 p q W D D') : Both w0 No No w0 p q W D D' := by
  obtain ⟨O, O', d⟩ := h
  exact ⟨O, O', d.h, d.g, d.dis, d.bel, fun k hk => hk.elim, fun k hk => hk.elim⟩
theorem string_any {w : World} {base : Nat} {ok1 ok2 : Nat → Prop} {x : ByteArray} {cs : List Value} (h : Kd.string.M w base ok1 x cs) : Kd.string.M w base ok2 x cs := h
theorem holdS {P : Program} {ops : Array Oper} {rest : List Oper} {t : TypeId} {p x : Operand} {ty : TypeId} {pos : String} {after : Array Edge} {g : Option (Nat × Bool)} {Q : Exit → Act → World → Prop} {a : Act} {w : World} (h : wpList P ops Q ({ dst := none, op := .store t p x, type := ty, pos := pos, after := after, guard := g } :: rest) a w) : wpList P ops Q ({ dst := none, op := .store t p x, type := ty, pos := pos, after := after, guard := g } :: rest) a w := h
/-- What the first loop leaves of the list: from i on it is as it was. -/
def Mid (wr : World) (gl c5 : Nat) (d : Deed) (i : Nat) : Prop := ∃ xs : List S32, xs.length = d.l.length + 1 ∧ (∀ j : Nat, i ≤ j → xs.getD j z32 = (d.l ++ [n77]).getD j z32) ∧ k32.R 32 wr 0 (fun k => k = gl) (.slice (some ⟨gl, 0, none⟩) (d.l.length + 1) c5) xs
theorem Mid.at {wr : World} {gl c5 : Nat} {d : Deed} {i : Nat} (h : Mid wr gl c5 d i) (hi : i < d.l.length) : wr.cell? ⟨gl, i * 3, none⟩ = some (.int .i64 (rd_T32 d.l i).f0) ∧ wr.cell? ⟨gl, i * 3 + 1, none⟩ = some (.int .i64 (rd_T32 d.l i).f1) ∧ wr.cell? ⟨gl, i * 3 + 2, none⟩ = some (.string (rd_T32 d.l i).f2) := by
  obtain ⟨xs, hl, hx, hr⟩ := h
  obtain ⟨ad2, e2, h2, h3, h4⟩ := at_T32 (Kd.R_reads' hr).2.2 (i : Int) (by omega) (by omega)
  cases e2
  have f : rd_T32 xs (i : Int) = rd_T32 d.l (i : Int) := by
    show xs.getD (i : Int).toNat z32 = d.l.getD (i : Int).toNat z32
    rw [Int.toNat_natCast, hx i (Nat.le_refl _), List.getD_eq_getElem?_getD, List.getElem?_append_left hi, ← List.getD_eq_getElem?_getD]
  rw [f] at h2 h3 h4
  simp only [Int.toNat_natCast] at h2 h3 h4
  rw [add_plain] at h2 h3 h4
  exact ⟨h2, h3, h4⟩
theorem hold4 {P : Program} {ops : Array Oper} {b : Bool} {c rest : Code} {Q : Exit → Act → World → Prop} {a : Act} {w : World} (h : Held (Code.wp P (((Code.region 4 ops b).seq c).seq rest) Q a w)) : Code.wp P (((Code.region 4 ops b).seq c).seq rest) Q a w := h
def do6.T : Bool × List (List Nat × List Nat) := (true, [([], []), ([], []), ([], []), ([2], [2]), ([3], [3]), ([1, 4], [1, 4]), ([0, 5], [0, 5]), ([], []), ([], []), ([8], [8]), ([7, 9, 6], [7, 9]), ([6, 10], [6, 10]), ([11, 10, 0, 1, 2, 3, 4, 5, 6, 7, 8, 9, 10, 11], [11])])
def do6.B : List Nat := [0, 0, 0, 4, 12, 30, 63, 0, 0, 256, 1023, 2047, 4095]
theorem do6.tab : rtab .any (opsOf Tryd.f8 6) = do6.T := by kernel_rfl
theorem do6.bits : waitsOk do6.T.2 do6.B = true := by kernel_rfl
def do8.T : Bool × List (List Nat × List Nat) := (true, [([], []), ([], []), ([], []), ([2], [2]), ([3], [3]), ([1, 4], [1, 4]), ([], []), ([], []), ([7], [7]), ([8], [8]), ([6, 9], [6, 9]), ([0, 5, 10], [0, 5, 10]), ([], []), ([], []), ([13], [13]), ([], []), ([15], [15]), ([12, 14, 16, 11], [12, 14, 16]), ([11, 17], [11, 17]), ([18, 17, 0, 1, 2, 3, 4, 5, 6, 7, 8, 9, 10, 11, 12, 13, 14, 15, 16, 17, 18], [18])])
def do8.B : List Nat := [0, 0, 0, 4, 12, 30, 0, 0, 128, 384, 960, 2047, 0, 0, 8192, 0, 32768, 131071, 262143, 524287]
theorem do8.tab : rtab .any (opsOf Tryd.f8 8) = do8.T := by kernel_rfl
theorem do8.bits : waitsOk do8.T.2 do8.B = true := by kernel_rfl
def do10.T : Bool × List (List Nat × List Nat) := (true, [([], []), ([], []), ([1], [1]), ([], []), ([3], [3]), ([], []), ([5], [5]), ([0, 2, 4, 6], [0, 2, 4, 6]), ([], []), ([], []), ([9], [9]), ([], []), ([11], [11]), ([], []), ([13], [13]), ([8, 10, 12, 14, 7], [8, 10, 12, 14]), ([7, 15], [7, 15]), ([16, 15, 0, 1, 2, 3, 4, 5, 6, 7, 8, 9, 10, 11, 12, 13, 14, 15, 16], [16])])
def do10.B : List Nat := [0, 0, 2, 0, 8, 0, 32, 127, 0, 0, 512, 0, 2048, 0, 8192, 32767, 65535, 131071]
theorem do10.tab : rtab .any (opsOf Tryd.f8 10) = do10.T := by kernel_rfl
theorem do10.bits : waitsOk do10.T.2 do10.B = true := by kernel_rfl
def do12.T : Bool × List (List Nat × List Nat) := (true, [([], []), ([], []), ([1], [1]), ([], []), ([3], [3]), ([], []), ([5], [5]), ([0, 2, 4, 6], [0, 2, 4, 6]), ([], []), ([], []), ([9], [9]), ([], []), ([11], [11]), ([], []), ([13], [13]), ([8, 10, 12, 14, 7], [8, 10, 12, 14]), ([7, 15], [7, 15]), ([16, 15, 0, 1, 2, 3, 4, 5, 6, 7, 8, 9, 10, 11, 12, 13, 14, 15, 16], [16])])
def do12.B : List Nat := [0, 0, 2, 0, 8, 0, 32, 127, 0, 0, 512, 0, 2048, 0, 8192, 32767, 65535, 131071]
theorem do12.tab : rtab .any (opsOf Tryd.f8 12) = do12.T := by kernel_rfl
theorem do12.bits : waitsOk do12.T.2 do12.B = true := by kernel_rfl
def do14.T : Bool × List (List Nat × List Nat) := (true, [([], []), ([], []), ([1], [1]), ([], []), ([3], [3]), ([0, 2, 4], [0, 2, 4]), ([], []), ([], []), ([7], [7]), ([], []), ([9], [9]), ([6, 8, 10, 5], [6, 8, 10]), ([5, 11], [5, 11]), ([12, 11, 0, 1, 2, 3, 4, 5, 6, 7, 8, 9, 10, 11, 12], [12])])
def do14.B : List Nat := [0, 0, 2, 0, 8, 31, 0, 0, 128, 0, 512, 2047, 4095, 8191]
theorem do14.tab : rtab .any (opsOf Tryd.f8 14) = do14.T := by kernel_rfl
theorem do14.bits : waitsOk do14.T.2 do14.B = true := by kernel_rfl
def do15.T : Bool × List (List Nat × List Nat) := (true, [([], []), ([0], [0]), ([1], [1]), ([1], [1]), ([3, 1], [1, 3]), ([4, 1], [1, 4]), ([2, 5, 1], [1, 2, 5]), ([6, 1], [1, 6]), ([7, 1], [1, 7]), ([1, 8], [1, 8]), ([9, 1], [9]), ([10], [10]), ([10], [10]), ([12, 10], [10, 12]), ([13, 10], [10, 13]), ([11, 14, 10], [10, 11, 14]), ([15, 10], [10, 15]), ([10, 10], [10]), ([16, 17, 10], [10, 16, 17]), ([10, 18], [10, 18]), ([19, 17, 0, 1, 2, 3, 4, 5, 6, 7, 8, 9, 10, 11, 12, 13, 14, 15, 16, 17, 18, 19], [0, 19])])
def do15.B : List Nat := [0, 1, 3, 3, 11, 27, 63, 127, 255, 511, 1023, 2047, 2047, 6143, 14335, 32767, 65535, 2047, 262143, 524287, 1048575]
theorem do15.tab : rtab .any (opsOf Tryd.f8 15) = do15.T := by kernel_rfl
theorem do15.bits : waitsOk do15.T.2 do15.B = true := by kernel_rfl
def do19.T : Bool × List (List Nat × List Nat) := (true, [([], []), ([0], [0]), ([1], [1]), ([1], [1]), ([3, 1], [1, 3]), ([4, 1], [1, 4]), ([2, 5, 1], [1, 2, 5]), ([6, 1, 1], [1, 6]), ([7], [7]), ([7], [7]), ([8, 9, 7], [7, 8, 9]), ([10, 7], [7, 10]), ([7], [7]), ([12, 7], [7, 12]), ([7], [7]), ([13, 14, 7], [7, 13, 14]), ([15, 7], [7, 15]), ([11, 16, 7], [7, 11, 16]), ([7, 17, 1], [1, 7, 17]), ([1, 18], [1, 18]), ([19, 7, 0, 1, 2, 3, 4, 5, 6, 7, 8, 9, 10, 11, 12, 13, 14, 15, 16, 17, 18, 19], [0, 19])])
def do19.B : List Nat := [0, 1, 3, 3, 11, 27, 63, 127, 255, 255, 1023, 2047, 255, 4351, 255, 28927, 61695, 131071, 262143, 524287, 1048575]
theorem do19.tab : rtab .any (opsOf Tryd.f8 19) = do19.T := by kernel_rfl
theorem do19.bits : waitsOk do19.T.2 do19.B = true := by kernel_rfl
set_option maxHeartbeats 8000000 in
set_option maxRecDepth 100000 in
theorem do_calls {w0 W : World} [GW W] {p q : Nat} {D : List Th} (h : Both w0 No No w0 p q W D D) (d : Deed) (hd : DeedOk w0 d) (hR : Room D 900000000) (hc : d.l.length ≤ d.lc) :
    Calls Tryd.prog 8 #[.pointer (some ⟨p, 0, none⟩), .pointer (some ⟨q, 0, none⟩), deedV d] W fun e w' => e = .returned (.bool true) ∧ Both w0 No No w0 p q w' (doD D d) (doD D d) := by
  have H0 := Aside0.mk h
  have HK := Aside0.mk hd
  have HRM := Aside0.mk hR
  have hdW := hd.below h.bel
  have HDW := Aside0.mk hdW
  have hnl := hd.nl
  have hcl := hd.cl
  clear h hd hR hc hdW
  have HB := Aside0.mk (below_alloc (Below.refl W.heap.size W) (.cells (deedC d) 36))
  have BD := Aside0.mk (heap_alloc_new W (.cells (deedC d) 36))
  obtain ⟨k0, k1, k2, k3, k4, k5, k6, k7, k8, k9, k10⟩ := box11 BD.out
  clear k0 k1 k2 k3 k4 k5 k6 k7 k8 k10
  unfold deedV
  go_enter Tryd.func8, Tryd.ntmps8
  go_wp2_with (first | (at_builtin; refine hold_ ?_))
  unfold Held
  clear k9
  refine Kd.R_append_rows Kd.string (w0 := W) W.heap.size rfl (.const (.slice none 0 0)) (.tmp 13) 33 9 (.string ⟨#[]⟩) 16 rfl Tryd.underlying33 info9 rfl (by decide) (by omega) (.slice none 0 0) [] (d.ns) _ _ _ (fun k => W.heap.size < k) (fun _ => False) rfl rfl (Kd.R_nil _ _ _ _ _) (Kd.C_below HDW.out.n HB.out) (fun _ _ h => h) (fun _ h => h.elim) (fun k hk => Nat.lt_of_lt_of_le (blk_lt BD.out) hk) HB.out HB.out.size (by simp; omega) ?_
  intro v_ w1 hrow1 hb1 hgrow _
  obtain ⟨A1, c1, ev1⟩ := Kd.R_slice hrow1
  subst ev1
  rw [List.nil_append] at hrow1 ⊢
  have nD := Aside0.mk (blk_grown BD.out hgrow (by simp [Value.ownBlock]))
  have nB := Aside0.mk hb1
  have nR := Aside0.mk hrow1
  clear HB BD hb1 hgrow hrow1 
  have HB := nB
  have BD := nD
  have RN := nR
  clear nB nD nR
  go_wp2_with (first | (at_builtin; refine hold_ ?_))
  unfold Held
  refine Kd.R_append Kd.string (w0 := W) (W := w1) W.heap.size rfl (.tmp 14) (.tmp 15) 33 9 (.string ⟨#[]⟩) 16 rfl Tryd.underlying33 info9 rfl (by decide) (by omega) _ (d.ns) sSpare [.string sSpare] (fun k => W.heap.size < k) (fun _ => False) rfl rfl rfl (fun _ h => h.elim) (fun k hk => Nat.lt_of_lt_of_le (blk_lt BD.out) hk) RN.out HB.out HB.out.size (by omega) ?_
  intro v_ w2 hrow1 hb1 hgrow _
  obtain ⟨A2, c2, ev1⟩ := Kd.R_slice hrow1
  subst ev1
  have nD := Aside0.mk (blk_grown BD.out hgrow (fun e => by have := RN.out.1 _ e.symm; omega))
  have nB := Aside0.mk hb1
  have nR := Aside0.mk hrow1
  clear HB BD hb1 hgrow hrow1 RN
  have HB := nB
  have BD := nD
  have RN := nR
  clear nB nD nR
  obtain ⟨k0, k1, k2, k3, k4, k5, k6, k7, k8, k9, k10⟩ := box11 BD.out
  clear k0 k1 k2 k3 k4 k5 k6 k7 k8 k9
  go_wp2_with (first | (at_builtin; refine hold_ ?_))
  unfold Held
  clear k10
  refine Kd.R_append_rows k32 (w0 := W) W.heap.size rfl (.const (.slice none 0 0)) (.tmp 18) 34 32 (.agg #[(.int .i64 0), (.int .i64 0), (.string ⟨#[]⟩)]) 32 rfl Tryd.underlying34 info32 rfl (by decide) (by omega) (.slice none 0 0) [] (d.l) _ _ _ (fun k => W.heap.size < k) (fun _ => False) rfl rfl (Kd.R_nil _ _ _ _ _) (Kd.C_below HDW.out.c HB.out) (fun _ _ h => h) (fun _ h => h.elim) (fun k hk => Nat.lt_of_lt_of_le (blk_lt BD.out) hk) HB.out HB.out.size (by simp; omega) ?_
  intro v_ w3 hrow1 hb1 hgrow _
  obtain ⟨A3, c3, ev1⟩ := Kd.R_slice hrow1
  subst ev1
  rw [List.nil_append] at hrow1 ⊢
  have nD := Aside0.mk (blk_grown BD.out hgrow (by simp [Value.ownBlock]))
  have nRN := Aside0.mk (Kd.R_step (w1 := w3) RN.out (fun k _ hlt => hgrow.block k hlt (fun e => by simp [Value.ownBlock] at e)))
  have nB := Aside0.mk hb1
  have nR := Aside0.mk hrow1
  clear HB BD hb1 hgrow hrow1 RN
  have HB := nB
  have BD := nD
  have RL := nR
  clear nB nD nR
  have RN := nRN
  clear nRN
  go_wp2_with (go_at_call 21; refine hold_ ?_)
  unfold Held
  refine (num_calls 77 _).mono ?_
  rintro e w4 ⟨rfl, hb⟩
  have nB := Aside0.mk (below_step HB.out hb)
  have nD := Aside0.mk (blk_below BD.out hb)
  have nN := Aside0.mk (Kd.R_below RN.out hb)
  have nL := Aside0.mk (Kd.R_below RL.out hb)
  clear HB BD RN RL hb
  have HB := nB
  have BD := nD
  have RN := nN
  have RL := nL
  clear nB nD nN nL
  go_wp2_with (first | (at_builtin; refine hold_ ?_))
  unfold Held
  refine Kd.R_append k32 (w0 := W) (W := w4) W.heap.size rfl (.tmp 19) (.tmp 21) 34 32 (.agg #[(.int .i64 0), (.int .i64 0), (.string ⟨#[]⟩)]) 32 rfl Tryd.underlying34 info32 rfl (by decide) (by omega) _ (d.l) n77 [.int .i64 3, .int .i64 77, .string ⟨#[]⟩] (fun k => W.heap.size < k) (fun _ => False) rfl rfl (k32_mkM _ _ _ n77) (fun _ h => h.elim) (fun k hk => Nat.lt_of_lt_of_le (blk_lt BD.out) hk) RL.out HB.out HB.out.size (by omega) ?_
  intro v_ w5 hrow1 hb1 hgrow _
  obtain ⟨A5, c5, ev1⟩ := Kd.R_slice hrow1
  subst ev1
  have nD := Aside0.mk (blk_grown BD.out hgrow (fun e => by have := RL.out.1 _ e.symm; omega))
  have nRN := Aside0.mk (Kd.R_over RN.out RL.out (by decide) hgrow)
  have nB := Aside0.mk hb1
  have nR := Aside0.mk hrow1
  clear HB BD hb1 hgrow hrow1 RN RL
  have HB := nB
  have BD := nD
  have RL := nR
  clear nB nD nR
  have RN := nRN
  clear nRN
  repeat ((fail_if_success (with_reducible refine hold4 ?_)); first | go_values | go_skip | go_guarded | go_step | go_upon | go_simp)
  obtain ⟨gn, cn, en, _, hgn1, clN, hclN⟩ := Kd.R_form RN.out (by simp)
  obtain ⟨gl, cl, el, _, hgl1, clL, hclL⟩ := Kd.R_form RL.out (by simp)
  have EN1 : (d.ns ++ [sSpare]).length = d.ns.length + 1 := by simp
  have EL1 : (d.l ++ [n77]).length = d.l.length + 1 := by simp
  have hcn : d.ns.length + 1 ≤ cn := by
    obtain ⟨A_, c_, e_, h_, _⟩ := Kd.R_reads RN.out
    rw [en] at e_
    injection e_ with _ _ e3
    rw [← EN1]
    omega
  have hcl2 : d.l.length + 1 ≤ cl := by
    obtain ⟨A_, c_, e_, h_, _⟩ := Kd.R_reads RL.out
    rw [el] at e_
    injection e_ with _ _ e3
    rw [← EL1]
    omega
  rw [EN1] at en
  rw [EL1] at el
  injection en with en1 en2 en3
  injection el with el1 el2 el3
  subst en1
  subst en3
  subst el1
  subst el3
  clear en2 el2
  have hgn0 := RN.out.1 gn rfl
  have hgl0 := RL.out.1 gl rfl
  have hgnl : gn ≠ gl := fun e => by rw [e, hclL] at hclN; injection hclN with hclN; injection hclN with _ hclN; exact absurd hclN (by decide)
  have hrn : Kd.string.R 9 w5 0 (fun k => k = gn ∨ k = gl ∨ k = W.heap.size) (.slice (some ⟨gn, 0, none⟩) (d.ns.length + 1) c2) (d.ns ++ [sSpare]) := by
    have h_ := Kd.R_mono (own_only string_any (Kd.R_lower RN.out (Nat.zero_le _))) (ok' := fun k => k = gn ∨ k = gl ∨ k = W.heap.size) (fun k hk => Or.inl (Option.some.inj hk.2))
    rw [EN1] at h_
    exact h_
  have hrl : k32.R 32 w5 0 (fun k => k = gn ∨ k = gl ∨ k = W.heap.size) (.slice (some ⟨gl, 0, none⟩) (d.l.length + 1) c5) (d.l ++ [n77]) := by
    have h_ := Kd.R_mono (k32_only (Kd.R_lower RL.out (Nat.zero_le _))) (ok' := fun k => k = gn ∨ k = gl ∨ k = W.heap.size) (fun k hk => Or.inr (Or.inl (Option.some.inj hk.2)))
    rw [EL1] at h_
    exact h_
  have hBoth : Both w0 (fun k => W.heap.size ≤ k ∧ k < w5.heap.size) (fun k => k = gn ∨ k = gl ∨ k = W.heap.size) w5 p q w5 D D := H0.out.fresh HB.out (fun k hk => by
    have := blk_lt BD.out
    rcases hk with rfl | rfl | rfl
    · exact ⟨by omega, hgn1⟩
    · exact ⟨by omega, hgl1⟩
    · exact ⟨Nat.le_refl _, this⟩)
  have H5 := Aside0.mk hBoth
  have RN5 := Aside0.mk hrn
  have RL5 := Aside0.mk hrl
  have GX := Aside0.mk (And.intro hgn0 (And.intro hgn1 (And.intro hgl0 (And.intro hgl1 hgnl))))
  clear hBoth hrn hrl RN RL HB hclN hclL hgn0 hgn1 hgl0 hgl1 hgnl
  clear EN1 EL1
  refine wp_seq_k ?_
  intro K hK
  have HREST : Aside0 (∀ (u12 u13 u14 u15 u16 u17 u18 u19 u20 u21 u22 u23 u24 u25 u26 u27 u28 u29 u30 u31 u32 u33 u34 u35 u36 u37 u38 u39 u40 u41 u42 u43 u44 u45 u46 u47 u48 u49 u50 u51 u52 u53 u54 u55 u56 u57 u58 u59 u60 u61 u62 u63 u64 u65 u66 u67 u68 u69 u70 u71 u72 u73 u74 u75 u76 u77 u78 u79 u80 u81 u82 u83 u84 u85 u86 u87 u88 u89 u90 u91 u92 u93 u94 u95 u96 u97 u98 u99 u100 u101 u102 u103 u104 u105 u106 u107 u108 u109 u110 u111 u112 u113 u114 u115 u116 u117 u118 u119 u120 u121 u122 u123 u124 u125 u126 u127 u128 u129 u130 u131 u132 u133 u134 u135 u136 u137 u138 u139 u140 u141 u142 u143 u144 u145 u146 u147 u148 u149 u150 u151 u152 u153 u154 u155 u156 u157 u158 u159 u160 u161 u162 u163 u164 u165 u166 u167 u168 u169 u170 u171 u172 : Value) (wa : World), Both w0 (fun k => W.heap.size ≤ k ∧ k < w5.heap.size) (fun k => k = gn ∨ k = gl ∨ k = W.heap.size) w5 p q wa (doD D d) (doD D d) → K (⟨#[.pointer (some ⟨p, 0, none⟩), .pointer (some ⟨q, 0, none⟩), .agg #[.int .i64 d.k, .int .i64 d.v.f0, .int .i64 d.v.f1, .string d.v.f2, .int .i64 d.x.f0, .int .i64 d.x.f1, .string d.x.f2, .string d.nm, .int .i64 d.i, .slice d.nA d.ns.length d.nc, .slice d.lA d.l.length d.lc], undef, undef, .pointer (some ⟨W.heap.size, 0, none⟩), .bool false, .slice (some ⟨gn, 0, none⟩) (d.ns.length + 1) c2, .slice (some ⟨gl, 0, none⟩) (d.l.length + 1) c5, .bool true, undef, undef, u12, u13, u14, u15, u16, u17, u18, u19, u20, u21, u22, u23, u24, u25, u26, u27, u28, u29, u30, u31, u32, u33, u34, u35, u36, u37, u38, u39, u40, u41, u42, u43, u44, u45, u46, u47, u48, u49, u50, u51, u52, u53, u54, u55, u56, u57, u58, u59, u60, u61, u62, u63, u64, u65, u66, u67, u68, u69, u70, u71, u72, u73, u74, u75, u76, u77, u78, u79, u80, u81, u82, u83, u84, u85, u86, u87, u88, u89, u90, u91, u92, u93, u94, u95, u96, u97, u98, u99, u100, u101, u102, u103, u104, u105, u106, u107, u108, u109, u110, u111, u112, u113, u114, u115, u116, u117, u118, u119, u120, u121, u122, u123, u124, u125, u126, u127, u128, u129, u130, u131, u132, u133, u134, u135, u136, u137, u138, u139, u140, u141, u142, u143, u144, u145, u146, u147, u148, u149, u150, u151, u152, u153, u154, u155, u156, u157, u158, u159, u160, u161, u162, u163, u164, u165, u166, u167, u168, u169, u170, u171, u172], []⟩ : Act) wa) := by
    refine ⟨?_⟩
    intro u12 u13 u14 u15 u16 u17 u18 u19 u20 u21 u22 u23 u24 u25 u26 u27 u28 u29 u30 u31 u32 u33 u34 u35 u36 u37 u38 u39 u40 u41 u42 u43 u44 u45 u46 u47 u48 u49 u50 u51 u52 u53 u54 u55 u56 u57 u58 u59 u60 u61 u62 u63 u64 u65 u66 u67 u68 u69 u70 u71 u72 u73 u74 u75 u76 u77 u78 u79 u80 u81 u82 u83 u84 u85 u86 u87 u88 u89 u90 u91 u92 u93 u94 u95 u96 u97 u98 u99 u100 u101 u102 u103 u104 u105 u106 u107 u108 u109 u110 u111 u112 u113 u114 u115 u116 u117 u118 u119 u120 u121 u122 u123 u124 u125 u126 u127 u128 u129 u130 u131 u132 u133 u134 u135 u136 u137 u138 u139 u140 u141 u142 u143 u144 u145 u146 u147 u148 u149 u150 u151 u152 u153 u154 u155 u156 u157 u158 u159 u160 u161 u162 u163 u164 u165 u166 u167 u168 u169 u170 u171 u172 wa ha
    refine hK _ _ ?_
    have HA := Aside0.mk ha
    clear ha hK
    have facts : ∀ w', Both w0 (fun k => W.heap.size ≤ k ∧ k < w5.heap.size) (fun k => k = gn ∨ k = gl ∨ k = W.heap.size) w5 p q w' (doD D d) (doD D d) → w'.cell? ⟨W.heap.size, 9, none⟩ = some (.slice d.nA d.ns.length d.nc) ∧ w'.cell? ⟨W.heap.size, 10, none⟩ = some (.slice d.lA d.l.length d.lc) ∧ w'.cell? ⟨gn, d.ns.length, none⟩ = some (.string ⟨#[115, 112, 97, 114, 101]⟩) ∧ w'.cell? ⟨gl, d.l.length * 3, none⟩ = some (.int .i64 3) ∧ w'.cell? ⟨gl, d.l.length * 3 + 1, none⟩ = some (.int .i64 77) ∧ w'.cell? ⟨gl, d.l.length * 3 + 2, none⟩ = some (.string ⟨#[]⟩) := fun w' hb => do_facts15 (fun k hk => hk) hb (hb.blk (Or.inr (Or.inr rfl)) BD.out) (hb.row RN5.out) (hb.row RL5.out)
    have q1_ : ((d.ns.length : Int) < (d.ns.length : Int) + 1) = True := eq_true (by omega)
    have q2_ : ((d.l.length : Int) < (d.l.length : Int) + 1) = True := eq_true (by omega)
    refine wp_seq_k ?_
    intro K2 hK2
    refine start_ (n := 21) (S := fun w' => w'.cell? ⟨W.heap.size, 9, none⟩ = some (.slice d.nA d.ns.length d.nc) ∧ w'.cell? ⟨W.heap.size, 10, none⟩ = some (.slice d.lA d.l.length d.lc) ∧ w'.cell? ⟨gn, d.ns.length, none⟩ = some (.string ⟨#[115, 112, 97, 114, 101]⟩) ∧ w'.cell? ⟨gl, d.l.length * 3, none⟩ = some (.int .i64 3) ∧ w'.cell? ⟨gl, d.l.length * 3 + 1, none⟩ = some (.int .i64 77) ∧ w'.cell? ⟨gl, d.l.length * 3 + 2, none⟩ = some (.string ⟨#[]⟩)) (ds := []) #[false, false, false, false, false, false, false, false, false, false, false, false, false, false, false, false, false, false, false, false, false] (by kernel_rfl) rfl rfl (facts wa HA.out) (fun hHeld => ?_); refine with_tabW do15.tab do15.bits (fun HT_ HW_ => ?_)
    refine pure_ (i := 0) (N := some 113) (v := ?_) (a' := ?_) #[true, false, false, false, false, false, false, false, false, false, false, false, false, false, false, false, false, false, false, false, false] rfl rfl (any_of HT_.out (by kernel_rfl)) (fun _ _ _ h => h) (Or.inl ⟨by rfl, ?_⟩) ?_ ?_
    rotate_left
    · intro w'
      go_simp
      with_reducible rfl
    rotate_left
    · simp only [Act.put, List.setIfInBounds_toArray, List.set_cons_zero, List.set_cons_succ, i64_w, i32_w]
      rfl
    refine pure_ (i := 1) (N := some 114) (v := ?_) (a' := ?_) #[true, true, false, false, false, false, false, false, false, false, false, false, false, false, false, false, false, false, false, false, false] rfl rfl (any_of HT_.out (by kernel_rfl)) (fun _ _ _ h => h) (Or.inl ⟨by rfl, ?_⟩) ?_ ?_
    rotate_left
    · intro w'
      go_simp
      with_reducible rfl
    rotate_left
    · simp only [Act.put, List.setIfInBounds_toArray, List.set_cons_zero, List.set_cons_succ, i64_w, i32_w]
      rfl
    refine pure_ (i := 2) (N := some 115) (v := ?_) (a' := ?_) #[true, true, true, false, false, false, false, false, false, false, false, false, false, false, false, false, false, false, false, false, false] rfl rfl (any_of HT_.out (by kernel_rfl)) (fun _ _ _ h => h) (Or.inl ⟨by rfl, ?_⟩) ?_ ?_
    rotate_left
    · intro w'
      go_simp
      with_reducible rfl
    rotate_left
    · simp only [Act.put, List.setIfInBounds_toArray, List.set_cons_zero, List.set_cons_succ, i64_w, i32_w]
      rfl
    refine pure_ (i := 3) (N := some 116) (v := ?_) (a' := ?_) #[true, true, true, true, false, false, false, false, false, false, false, false, false, false, false, false, false, false, false, false, false] rfl rfl (any_of HT_.out (by kernel_rfl)) (fun _ _ _ h => h) (Or.inl ⟨by rfl, ?_⟩) ?_ ?_
    rotate_left
    · intro w'
      go_simp
      with_reducible rfl
    rotate_left
    · simp only [Act.put, List.setIfInBounds_toArray, List.set_cons_zero, List.set_cons_succ, i64_w, i32_w]
      rfl
    refine take_ (i := 4) (N := some 117) (v := ?_) (a' := ?_) #[true, true, true, true, true, false, false, false, false, false, false, false, false, false, false, false, false, false, false, false, false] rfl rfl (take_ofW HT_.out HW_.out (by kernel_rfl)) (fun _ _ _ h => h) (Or.inl ⟨by rfl, ?_⟩) hHeld ?_ ?_
    rotate_left
    · rintro w' ⟨s0, s1, s2, s3, s4, s5⟩
      go_simp
      with_reducible rfl
    rotate_left
    · simp only [Act.put, List.setIfInBounds_toArray, List.set_cons_zero, List.set_cons_succ, i64_w, i32_w]
      rfl
    refine pure_ (i := 5) (N := some 118) (v := ?_) (a' := ?_) #[true, true, true, true, true, true, false, false, false, false, false, false, false, false, false, false, false, false, false, false, false] rfl rfl (any_of HT_.out (by kernel_rfl)) (fun _ _ _ h => h) (Or.inl ⟨by rfl, ?_⟩) ?_ ?_
    rotate_left
    · intro w'
      go_simp
      with_reducible rfl
    rotate_left
    · simp only [Act.put, List.setIfInBounds_toArray, List.set_cons_zero, List.set_cons_succ, i64_w, i32_w]
      rfl
    refine pure_ (i := 6) (N := some 119) (v := ?_) (a' := ?_) #[true, true, true, true, true, true, true, false, false, false, false, false, false, false, false, false, false, false, false, false, false] rfl rfl (any_of HT_.out (by kernel_rfl)) (fun _ _ _ h => h) (Or.inl ⟨by rfl, ?_⟩) ?_ ?_
    rotate_left
    · intro w'
      go_simp
      with_reducible rfl
    rotate_left
    · simp only [Act.put, List.setIfInBounds_toArray, List.set_cons_zero, List.set_cons_succ, i64_w, i32_w]
      rfl
    refine take_ (i := 7) (N := some 120) (v := ?_) (a' := ?_) #[true, true, true, true, true, true, true, true, false, false, false, false, false, false, false, false, false, false, false, false, false] rfl rfl (take_ofW HT_.out HW_.out (by kernel_rfl)) (fun _ _ _ h => h) (Or.inl ⟨by rfl, ?_⟩) hHeld ?_ ?_
    rotate_left
    · rintro w' ⟨s0, s1, s2, s3, s4, s5⟩
      go_simp
      with_reducible rfl
    rotate_left
    · simp only [Act.put, List.setIfInBounds_toArray, List.set_cons_zero, List.set_cons_succ, i64_w, i32_w]
      rfl
    refine pure_ (i := 8) (N := some 121) (v := ?_) (a' := ?_) #[true, true, true, true, true, true, true, true, true, false, false, false, false, false, false, false, false, false, false, false, false] rfl rfl (any_of HT_.out (by kernel_rfl)) (fun _ _ _ h => h) (Or.inl ⟨by rfl, ?_⟩) ?_ ?_
    rotate_left
    · intro w'
      go_simp
      with_reducible rfl
    rotate_left
    · simp only [Act.put, List.setIfInBounds_toArray, List.set_cons_zero, List.set_cons_succ, i64_w, i32_w]
      rfl
    refine pure_ (i := 9) (N := some 122) (v := ?_) (a' := ?_) #[true, true, true, true, true, true, true, true, true, true, false, false, false, false, false, false, false, false, false, false, false] rfl rfl (any_of HT_.out (by kernel_rfl)) (fun _ _ _ h => h) (Or.inl ⟨by rfl, ?_⟩) ?_ ?_
    rotate_left
    · intro w'
      go_simp
      with_reducible rfl
    rotate_left
    · simp only [Act.put, List.setIfInBounds_toArray, List.set_cons_zero, List.set_cons_succ, i64_w, i32_w]
      rfl
    refine pure_ (i := 10) (N := some 123) (v := ?_) (a' := ?_) #[true, true, true, true, true, true, true, true, true, true, true, false, false, false, false, false, false, false, false, false, false] rfl rfl (any_of HT_.out (by kernel_rfl)) (fun _ _ _ h => h) (Or.inl ⟨by rfl, ?_⟩) ?_ ?_
    rotate_left
    · intro w'
      go_simp
      with_reducible rfl
    rotate_left
    · simp only [Act.put, List.setIfInBounds_toArray, List.set_cons_zero, List.set_cons_succ, i64_w, i32_w]
      rfl
    refine pure_ (i := 11) (N := some 124) (v := ?_) (a' := ?_) #[true, true, true, true, true, true, true, true, true, true, true, true, false, false, false, false, false, false, false, false, false] rfl rfl (any_of HT_.out (by kernel_rfl)) (fun _ _ _ h => h) (Or.inl ⟨by rfl, ?_⟩) ?_ ?_
    rotate_left
    · intro w'
      go_simp
      with_reducible rfl
    rotate_left
    · simp only [Act.put, List.setIfInBounds_toArray, List.set_cons_zero, List.set_cons_succ, i64_w, i32_w]
      rfl
    refine pure_ (i := 12) (N := some 125) (v := ?_) (a' := ?_) #[true, true, true, true, true, true, true, true, true, true, true, true, true, false, false, false, false, false, false, false, false] rfl rfl (any_of HT_.out (by kernel_rfl)) (fun _ _ _ h => h) (Or.inl ⟨by rfl, ?_⟩) ?_ ?_
    rotate_left
    · intro w'
      go_simp
      with_reducible rfl
    rotate_left
    · simp only [Act.put, List.setIfInBounds_toArray, List.set_cons_zero, List.set_cons_succ, i64_w, i32_w]
      rfl
    refine take_ (i := 13) (N := some 126) (v := ?_) (a' := ?_) #[true, true, true, true, true, true, true, true, true, true, true, true, true, true, false, false, false, false, false, false, false] rfl rfl (take_ofW HT_.out HW_.out (by kernel_rfl)) (fun _ _ _ h => h) (Or.inl ⟨by rfl, ?_⟩) hHeld ?_ ?_
    rotate_left
    · rintro w' ⟨s0, s1, s2, s3, s4, s5⟩
      go_simp
      with_reducible rfl
    rotate_left
    · simp only [Act.put, List.setIfInBounds_toArray, List.set_cons_zero, List.set_cons_succ, i64_w, i32_w]
      rfl
    refine pure_ (i := 14) (N := some 127) (v := ?_) (a' := ?_) #[true, true, true, true, true, true, true, true, true, true, true, true, true, true, true, false, false, false, false, false, false] rfl rfl (any_of HT_.out (by kernel_rfl)) (fun _ _ _ h => h) (Or.inl ⟨by rfl, ?_⟩) ?_ ?_
    rotate_left
    · intro w'
      go_simp
      with_reducible rfl
    rotate_left
    · simp only [Act.put, List.setIfInBounds_toArray, List.set_cons_zero, List.set_cons_succ, i64_w, i32_w]
      rfl
    refine pure_ (i := 15) (N := some 128) (v := ?_) (a' := ?_) #[true, true, true, true, true, true, true, true, true, true, true, true, true, true, true, true, false, false, false, false, false] rfl rfl (any_of HT_.out (by kernel_rfl)) (fun _ _ _ h => h) (Or.inl ⟨by rfl, ?_⟩) ?_ ?_
    rotate_left
    · intro w'
      go_simp
      with_reducible rfl
    rotate_left
    · simp only [Act.put, List.setIfInBounds_toArray, List.set_cons_zero, List.set_cons_succ, i64_w, i32_w]
      rfl
    refine take_ (i := 16) (N := some 129) (v := ?_) (a' := ?_) #[true, true, true, true, true, true, true, true, true, true, true, true, true, true, true, true, true, false, false, false, false] rfl rfl (take_ofW HT_.out HW_.out (by kernel_rfl)) (fun _ _ _ h => h) (Or.inl ⟨by rfl, ?_⟩) hHeld ?_ ?_
    rotate_left
    · rintro w' ⟨s0, s1, s2, s3, s4, s5⟩
      go_simp
      with_reducible rfl
    rotate_left
    · simp only [Act.put, List.setIfInBounds_toArray, List.set_cons_zero, List.set_cons_succ, i64_w, i32_w]
      rfl
    refine one_ (i := 17) (N := some 130) #[true, true, true, true, true, true, true, true, true, true, true, true, true, true, true, true, true, true, false, false, false] rfl rfl (one_of HT_.out (by kernel_rfl)) (by decide) (fun K hK => ?_)
    refine goes_ Tryd.func21 (by kernel_rfl) rfl #[.int .i64 77] (by rfl) rfl rfl (by (try simp only [List.map_toArray, List.map_cons, List.map_nil]); first | done | rfl) ?_
    refine (num_calls 77 _).mono ?_
    rintro e wb ⟨rfl, hb⟩
    refine ⟨_, rfl, ?_⟩
    have nA := Aside0.mk (HA.out.below (below_step (by repeat (first | (with_reducible exact Below.refl _ _) | (with_reducible apply below_drew1))) hb))
    clear HA hb
    have HA := nA
    clear nA
    refine hK.out _ _ (facts wb HA.out) (fun hHeld => ?_)
    clear hK K
    refine norm_ (a' := ?_) ?_ ?_
    rotate_left
    · show Act.put _ (some 130) _ = _
      simp only [Act.put, List.setIfInBounds_toArray, List.set_cons_zero, List.set_cons_succ, i64_w, i32_w]
      rfl
    refine pure_ (i := 18) (N := some 131) (v := ?_) (a' := ?_) #[true, true, true, true, true, true, true, true, true, true, true, true, true, true, true, true, true, true, true, false, false] rfl rfl (any_of HT_.out (by kernel_rfl)) (fun _ _ _ h => h) (Or.inl ⟨by rfl, ?_⟩) ?_ ?_
    rotate_left
    · intro w'
      go_simp
      with_reducible rfl
    rotate_left
    · simp only [Act.put, List.setIfInBounds_toArray, List.set_cons_zero, List.set_cons_succ, i64_w, i32_w]
      rfl
    refine pure_ (i := 19) (N := some 132) (v := ?_) (a' := ?_) #[true, true, true, true, true, true, true, true, true, true, true, true, true, true, true, true, true, true, true, true, false] rfl rfl (any_of HT_.out (by kernel_rfl)) (fun _ _ _ h => h) (Or.inl ⟨by rfl, ?_⟩) ?_ ?_
    rotate_left
    · intro w'
      go_simp
      with_reducible rfl
    rotate_left
    · simp only [Act.put, List.setIfInBounds_toArray, List.set_cons_zero, List.set_cons_succ, i64_w, i32_w]
      rfl
    refine pure_ (i := 20) (N := some 9) (v := ?_) (a' := ?_) #[true, true, true, true, true, true, true, true, true, true, true, true, true, true, true, true, true, true, true, true, true] rfl rfl (any_of HT_.out (by kernel_rfl)) (fun _ _ _ h => h) (Or.inl ⟨by rfl, ?_⟩) ?_ ?_
    rotate_left
    · intro w'
      go_simp
      with_reducible rfl
    rotate_left
    · simp only [Act.put, List.setIfInBounds_toArray, List.set_cons_zero, List.set_cons_succ, i64_w, i32_w]
      rfl
    refine done_ (done_of HT_.out (by kernel_rfl)) ?_
    go_wp2
    have hB2 := HA.out.anew (G2 := (fun k => k = gn ∨ k = gl ∨ k = W.heap.size)) (L2 := (fun k => k = gn ∨ k = W.heap.size)) (fun k hk => by
      have h1 := blk_lt BD.out
      have h2 := GX.out
      rcases hk with rfl | rfl | rfl
      · exact ⟨by omega, h2.2.1⟩
      · exact ⟨by omega, h2.2.2.2.1⟩
      · exact ⟨Nat.le_refl _, h1⟩) (fun k hk => hk.elim Or.inl (fun h => Or.inr (Or.inr h)))
    have hM0 : Mid wb gl c5 d 0 := ⟨d.l ++ [n77], by simp, fun j _ => rfl, Kd.R_mono (k32_only (HA.out.row RL5.out)) (fun k hk => Option.some.inj hk.2)⟩
    have RN2 := Aside0.mk (Kd.R_mono (own_only string_any (HA.out.row RN5.out)) (ok' := fun k => k = gn ∨ k = W.heap.size) (fun k hk => Or.inl (Option.some.inj hk.2)))
    have BD2 := Aside0.mk (HA.out.blk (Or.inr (Or.inr rfl)) BD.out)
    have hn0 : w0.heap.size ≤ gl := by
      have h2 := GX.out
      have h3 := H0.out.bel.size
      omega
    have hn1 : w0.heap.size ≤ gn := by
      have h2 := GX.out
      have h3 := H0.out.bel.size
      omega
    have hglw : W.heap.size ≠ gl := by have := GX.out; omega
    have hgnl : gn ≠ gl := GX.out.2.2.2.2
    clear HA facts RL5 RN5 H5 q1_ q2_ BD hHeld
    go_loopw [9, 10] (fun v9 v10 wr => ∃ i : Nat, v9 = .bool true ∧ v10 = .int .i64 i ∧ i ≤ d.l.length + 1 ∧ Both w0 (fun k => k = gn ∨ k = gl ∨ k = W.heap.size) (fun k => k = gn ∨ k = W.heap.size) wb p q wr (doD D d) (doD D d) ∧ Mid wr gl c5 d i) (fun _ v10 _ => d.l.length + 1 - (intOf v10).toNat)
    case atStart => exact ⟨0, rfl, rfl, Nat.zero_le _, hB2, hM0⟩
    case round =>
      obtain ⟨i, rfl, rfl, hi, hb, hm⟩ := hrel
      have HB := Aside0.mk hb
      have HM := Aside0.mk hm
      clear hB2 hM0 hb hm
      by_cases hlt : i < d.l.length + 1
      · have d1 : decide ((i : Int) < (d.l.length : Int) + 1) = true := by simp; omega
        have d1' : ((i : Int) < (d.l.length : Int) + 1) = True := eq_true (by omega)
        obtain ⟨_, _, _, _, _, _, _, _, _, _, k10⟩ := box11 (HB.out.blk (Or.inr rfl) BD2.out)
        have STEP : Aside0 (∀ wc, Below wr.heap.size wr wc → ∃ cc, Kd.R k32 32 wc 0 (fun k => k = gl) (.slice (some ⟨gl, 0, none⟩) (d.l.length + 1) c5) cc ∧ (∀ j : Nat, i ≤ j → cc.getD j z32 = (d.l ++ [n77]).getD j z32) ∧ cc.length = d.l.length + 1 ∧ Both w0 (fun k => k = gn ∨ k = gl ∨ k = W.heap.size) (fun k => k = gn ∨ k = W.heap.size) wb p q wc (doD D d) (doD D d)) := ⟨fun wc hbl => by
          obtain ⟨xs, hl, hx, hr⟩ := HM.out
          exact ⟨xs, Kd.R_below hr hbl, hx, hl, HB.out.below hbl⟩⟩
        by_cases hlt2 : i < d.l.length
        · have d2 : ((i : Int) == (d.l.length : Int)) = false := by simp; omega
          have d3 : ((i : Int) < (d.l.length : Int)) = True := eq_true (by omega)
          obtain ⟨m0, m1, m2⟩ := HM.out.at hlt2
          obtain ⟨ad, eA, hy0, hy1, hy2⟩ := at_T32 (Kd.C_below HK.out.c HB.out.bel) (i : Int) (by omega) (by omega)
          simp only [Int.toNat_natCast] at hy0 hy1 hy2
          rw [eA] at k10
          have EA := Aside0.mk eA
          clear eA
          go_wp2
          go_quiet (fail)
          go_wp2_with (go_at_call 21; refine hold_ ?_)
          unfold Held
          refine (num_calls 78 _).mono ?_
          rintro e wc ⟨rfl, hbl⟩
          obtain ⟨xs, hrow, hxs, hxl, hbc⟩ := STEP.out wc (below_step (by repeat (first | (with_reducible exact Below.refl _ _) | (with_reducible apply pw_below_drewN) | (with_reducible apply below_drew1))) hbl)
          have HC := Aside0.mk (And.intro hrow (And.intro hxs hbc))
          clear STEP HB HM hbl hrow hxs hbc
          repeat ((fail_if_success (with_reducible refine holdS ?_)); first | go_values | go_skip | go_guarded | go_step | go_upon | go_simp)
          have hrow := HC.out.1
          have hil : (i : Int) < ((d.l.length + 1 : Nat) : Int) := by omega
          obtain ⟨cc, hcl, hM, hcc, hcf⟩ := Kd.R_elem hrow z32 (i : Int) (by omega) hil
          have hseg : cc.take 0 ++ [Value.int .i64 3, .int .i64 78, .string ⟨#[]⟩] ++ cc.drop (0 + [Value.int .i64 3, .int .i64 78, .string ⟨#[]⟩].length) = [Value.int .i64 3, .int .i64 78, .string ⟨#[]⟩] := by
            rw [List.drop_of_length_le (by rw [hcl]; exact Nat.le_refl _)]
            simp
          refine Kd.R_store k32 (w0 := wc) 0 rfl rfl 32 (.tmp 162) (.tmp 161) rfl 32 (i : Int) 0 xs n78 (.agg #[.int .i64 3, .int .i64 78, .string ⟨#[]⟩]) [.int .i64 3, .int .i64 78, .string ⟨#[]⟩] cc (fun k => k = gl) (fun _ => False) (by rfl) rfl (by rfl) rfl (by kernel_rfl) (by simp [Value.oneCell']) hrow (by omega) hil hcl hcc (Nat.le_refl _) (by rw [hseg]; exact k32_mkM _ _ _ n78) (fun _ hk => hk.elim) (Below.refl _ _) ?_
          intro w4 hrow4 _ hgrow
          have hb4 := HC.out.2.2.turn (Q := fun k => k = gl) (Chg.of_grown hgrow (fun k hk => (Option.some.inj hk).symm)) (fun k hk => by
            subst hk
            refine ⟨Or.inr (Or.inl rfl), fun hL => ?_, hn0⟩
            rcases hL with h1 | h1
            · exact hgnl h1.symm
            · exact hglw h1.symm)
          have hm4 : Mid w4 gl c5 d (i + 1) := ⟨xs.set i n78, by rw [List.length_set]; exact hxl, fun j hj => by
            rw [List.getD_eq_getElem?_getD, List.getElem?_set_ne (by omega), ← List.getD_eq_getElem?_getD]
            exact HC.out.2.1 j (by omega), by simpa using hrow4⟩
          have HR4 := Aside0.mk (And.intro hb4 hm4)
          clear hb4 hm4 hrow4 hgrow hrow hM hcc hcf hseg hcl
          go_wp2
          go_roundw
          case rel => exact ⟨i + 1, by first | rfl | trivial, by go_num, by omega, HR4.out.1, HR4.out.2⟩
          case measure => (simp [intOf] <;> try omega)
        · have ei : i = d.l.length := by omega
          subst ei
          go_wp2
          go_quiet (fail)
          go_wp2_with (go_at_call 21; refine hold_ ?_)
          unfold Held
          refine (num_calls 78 _).mono ?_
          rintro e wc ⟨rfl, hbl⟩
          obtain ⟨xs, hrow, hxs, hxl, hbc⟩ := STEP.out wc (below_step (by repeat (first | (with_reducible exact Below.refl _ _) | (with_reducible apply pw_below_drewN) | (with_reducible apply below_drew1))) hbl)
          have HC := Aside0.mk (And.intro hrow (And.intro hxs hbc))
          clear STEP HB HM hbl hrow hxs hbc
          repeat ((fail_if_success (with_reducible refine holdS ?_)); first | go_values | go_skip | go_guarded | go_step | go_upon | go_simp)
          have hrow := HC.out.1
          have hil : (d.l.length : Int) < ((d.l.length + 1 : Nat) : Int) := by omega
          obtain ⟨cc, hcl, hM, hcc, hcf⟩ := Kd.R_elem hrow z32 (d.l.length : Int) (by omega) hil
          have hseg : cc.take 0 ++ [Value.int .i64 3, .int .i64 78, .string ⟨#[]⟩] ++ cc.drop (0 + [Value.int .i64 3, .int .i64 78, .string ⟨#[]⟩].length) = [Value.int .i64 3, .int .i64 78, .string ⟨#[]⟩] := by
            rw [List.drop_of_length_le (by rw [hcl]; exact Nat.le_refl _)]
            simp
          refine Kd.R_store k32 (w0 := wc) 0 rfl rfl 32 (.tmp 162) (.tmp 161) rfl 32 (d.l.length : Int) 0 xs n78 (.agg #[.int .i64 3, .int .i64 78, .string ⟨#[]⟩]) [.int .i64 3, .int .i64 78, .string ⟨#[]⟩] cc (fun k => k = gl) (fun _ => False) (by rfl) rfl (by rfl) rfl (by kernel_rfl) (by simp [Value.oneCell']) hrow (by omega) hil hcl hcc (Nat.le_refl _) (by rw [hseg]; exact k32_mkM _ _ _ n78) (fun _ hk => hk.elim) (Below.refl _ _) ?_
          intro w4 hrow4 _ hgrow
          have hb4 := HC.out.2.2.turn (Q := fun k => k = gl) (Chg.of_grown hgrow (fun k hk => (Option.some.inj hk).symm)) (fun k hk => by
            subst hk
            refine ⟨Or.inr (Or.inl rfl), fun hL => ?_, hn0⟩
            rcases hL with h1 | h1
            · exact hgnl h1.symm
            · exact hglw h1.symm)
          have hm4 : Mid w4 gl c5 d (d.l.length + 1) := ⟨xs.set d.l.length n78, by rw [List.length_set]; exact hxl, fun j hj => by
            rw [List.getD_eq_getElem?_getD, List.getElem?_set_ne (by omega), ← List.getD_eq_getElem?_getD]
            exact HC.out.2.1 j (by omega), by simpa using hrow4⟩
          have HR4 := Aside0.mk (And.intro hb4 hm4)
          clear hb4 hm4 hrow4 hgrow hrow hM hcc hcf hseg hcl
          go_wp2
          go_roundw
          case rel => exact ⟨d.l.length + 1, by first | rfl | trivial, by go_num, by omega, HR4.out.1, HR4.out.2⟩
          case measure => (simp [intOf] <;> try omega)
      · have d1 : decide ((i : Int) < (d.l.length : Int) + 1) = false := by simp; omega
        have hE := HB.out.anew (G2 := fun k => k = gn) (L2 := No) (fun k hk => Or.inl hk) (fun k hk => hk.elim)
        have hS : ∃ xs : List ByteArray, xs.length = d.ns.length + 1 ∧ Kd.string.R 9 wr 0 (fun k => k = gn) (.slice (some ⟨gn, 0, none⟩) (d.ns.length + 1) c2) xs := ⟨d.ns ++ [sSpare], by simp, Kd.R_mono (own_only string_any (HB.out.row RN2.out)) (fun k hk => Option.some.inj hk.2)⟩
        clear HM HB RN2 BD2
        go_wp2
        go_loopw [11] (fun v11 ws => ∃ i : Nat, v11 = .int .i64 i ∧ i ≤ d.ns.length + 1 ∧ Both w0 (fun k => k = gn) No wr p q ws (doD D d) (doD D d) ∧ ∃ xs : List ByteArray, xs.length = d.ns.length + 1 ∧ Kd.string.R 9 ws 0 (fun k => k = gn) (.slice (some ⟨gn, 0, none⟩) (d.ns.length + 1) c2) xs) (fun v11 _ => d.ns.length + 1 - (intOf v11).toNat)
        case atStart => exact ⟨0, rfl, Nat.zero_le _, hE, hS⟩
        case round =>
          obtain ⟨i2, rfl, hi2, hb, xs, hxl, hrow⟩ := hrel
          have HB := Aside0.mk hb
          have HRW := Aside0.mk hrow
          clear hE hS hb hrow
          by_cases hlt3 : i2 < d.ns.length + 1
          · have d4 : decide ((i2 : Int) < (d.ns.length : Int) + 1) = true := by simp; omega
            have d5 : ((i2 : Int) < (d.ns.length : Int) + 1) = True := eq_true (by omega)
            repeat ((fail_if_success (with_reducible refine holdS ?_)); first | go_values | go_skip | go_guarded | go_step | go_upon | go_simp)
            have hrow := HRW.out
            have hil : (i2 : Int) < ((d.ns.length + 1 : Nat) : Int) := by omega
            obtain ⟨cc, hcl, hM, hcc, hcf⟩ := Kd.R_elem hrow ByteArray.empty (i2 : Int) (by omega) hil
            have hseg : cc.take 0 ++ [Value.string sSpoilt] ++ cc.drop (0 + [Value.string sSpoilt].length) = [Value.string sSpoilt] := by
              rw [List.drop_of_length_le (by rw [hcl]; exact Nat.le_refl _)]
              simp
            refine Kd.R_store Kd.string (w0 := wr) 0 rfl rfl 9 (.tmp 171) (.const (.string sSpoilt)) rfl 9 (i2 : Int) 0 xs sSpoilt (.string sSpoilt) [.string sSpoilt] cc (fun k => k = gn) (fun _ => False) (by rfl) (by show i2 = (i2 : Int).toNat * 1 + 0; simp) (by rfl) rfl (by kernel_rfl) (by simp [Value.oneCell']) hrow (by omega) hil hcl hcc (Nat.le_refl _) (by rw [hseg]; rfl) (fun _ hk => hk.elim) (Below.refl _ _) ?_
            intro w4 hrow4 _ hgrow
            have hb4 := HB.out.turn (Q := fun k => k = gn) (Chg.of_grown hgrow (fun k hk => (Option.some.inj hk).symm)) (fun k hk => ⟨hk, fun hL => hL, by rw [hk]; exact hn1⟩)
            have HR4 := Aside0.mk (And.intro hb4 hrow4)
            clear hb4 hrow4 hgrow hrow hM hcc hcf hseg hcl
            go_wp2
            go_roundw
            case rel => exact ⟨i2 + 1, by go_num, by omega, HR4.out.1, _, by rw [List.length_set]; exact hxl, HR4.out.2⟩
            case measure => (simp [intOf] <;> try omega)
          · have d4 : decide ((i2 : Int) < (d.ns.length : Int) + 1) = false := by simp; omega
            go_wp2
            go_ret
            exact ⟨rfl, HB.out.none⟩
  clear hK
  have H6 := Aside0.mk (H5.out.below (W' := w5.drew) (below_drew1 (Below.refl _ _)))
  have R2 : Aside0 (Room D 100000000000) := ⟨⟨Nat.le_trans HRM.out.1 (by decide), fun t ht => by
    have := HRM.out.2 t ht
    cases t <;> exact Nat.le_trans this (by decide)⟩⟩
  have hlenD : D.length ≤ 900000000 := HRM.out.1
  have p1_ : ((d.l.length : Int) ≤ (c5 : Int)) = True := eq_true (by omega)
  have p2_ : ((d.ns.length : Int) ≤ (c2 : Int)) = True := eq_true (by omega)
  by_cases e0 : d.k = 0
  · have hdo : doD D d = D ++ [.arr d.l] := by unfold doD; simp [e0]
    rw [hdo] at HREST
    have t0 : (d.k == 0) = true := beq_iff_eq.mpr e0
    clear e0 hdo
    obtain ⟨k0, k1, k2, k3, k4, k5, k6, k7, k8, k9, k10⟩ := box11 BD.out
    go_wp2
    refine start_ (n := 13) (S := fun w' => w'.cell? ⟨W.heap.size, 0, none⟩ = some (.int .i64 d.k) ∧ w'.cell? ⟨W.heap.size, 1, none⟩ = some (.int .i64 d.v.f0) ∧ w'.cell? ⟨W.heap.size, 2, none⟩ = some (.int .i64 d.v.f1) ∧ w'.cell? ⟨W.heap.size, 3, none⟩ = some (.string d.v.f2) ∧ w'.cell? ⟨W.heap.size, 4, none⟩ = some (.int .i64 d.x.f0) ∧ w'.cell? ⟨W.heap.size, 5, none⟩ = some (.int .i64 d.x.f1) ∧ w'.cell? ⟨W.heap.size, 6, none⟩ = some (.string d.x.f2) ∧ w'.cell? ⟨W.heap.size, 7, none⟩ = some (.string d.nm) ∧ w'.cell? ⟨W.heap.size, 8, none⟩ = some (.int .i64 d.i) ∧ w'.cell? ⟨W.heap.size, 9, none⟩ = some (.slice d.nA d.ns.length d.nc) ∧ w'.cell? ⟨W.heap.size, 10, none⟩ = some (.slice d.lA d.l.length d.lc)) (ds := []) #[false, false, false, false, false, false, false, false, false, false, false, false, false] (by kernel_rfl) rfl rfl (box11 BD.out) (fun hHeld => ?_); refine with_tabW do6.tab do6.bits (fun HT_ HW_ => ?_)
    refine pure_ (i := 0) (N := some 27) (v := ?_) (a' := ?_) #[true, false, false, false, false, false, false, false, false, false, false, false, false] rfl rfl (any_of HT_.out (by kernel_rfl)) (fun _ _ _ h => h) (Or.inl ⟨by rfl, ?_⟩) ?_ ?_
    rotate_left
    · intro w'
      go_simp
      with_reducible rfl
    rotate_left
    · simp only [Act.put, List.setIfInBounds_toArray, List.set_cons_zero, List.set_cons_succ, i64_w, i32_w]
      rfl
    refine pure_ (i := 1) (N := some 28) (v := ?_) (a' := ?_) #[true, true, false, false, false, false, false, false, false, false, false, false, false] rfl rfl (any_of HT_.out (by kernel_rfl)) (fun _ _ _ h => h) (Or.inl ⟨by rfl, ?_⟩) ?_ ?_
    rotate_left
    · intro w'
      go_simp
      with_reducible rfl
    rotate_left
    · simp only [Act.put, List.setIfInBounds_toArray, List.set_cons_zero, List.set_cons_succ, i64_w, i32_w]
      rfl
    refine pure_ (i := 2) (N := some 29) (v := ?_) (a' := ?_) #[true, true, true, false, false, false, false, false, false, false, false, false, false] rfl rfl (any_of HT_.out (by kernel_rfl)) (fun _ _ _ h => h) (Or.inl ⟨by rfl, ?_⟩) ?_ ?_
    rotate_left
    · intro w'
      go_simp
      with_reducible rfl
    rotate_left
    · simp only [Act.put, List.setIfInBounds_toArray, List.set_cons_zero, List.set_cons_succ, i64_w, i32_w]
      rfl
    refine pure_ (i := 7) (N := some 34) (v := ?_) (a' := ?_) #[true, true, true, false, false, false, false, true, false, false, false, false, false] rfl rfl (any_of HT_.out (by kernel_rfl)) (fun _ _ _ h => h) (Or.inl ⟨by rfl, ?_⟩) ?_ ?_
    rotate_left
    · intro w'
      go_simp
      with_reducible rfl
    rotate_left
    · simp only [Act.put, List.setIfInBounds_toArray, List.set_cons_zero, List.set_cons_succ, i64_w, i32_w]
      rfl
    refine pure_ (i := 8) (N := some 35) (v := ?_) (a' := ?_) #[true, true, true, false, false, false, false, true, true, false, false, false, false] rfl rfl (any_of HT_.out (by kernel_rfl)) (fun _ _ _ h => h) (Or.inl ⟨by rfl, ?_⟩) ?_ ?_
    rotate_left
    · intro w'
      go_simp
      with_reducible rfl
    rotate_left
    · simp only [Act.put, List.setIfInBounds_toArray, List.set_cons_zero, List.set_cons_succ, i64_w, i32_w]
      rfl
    refine take_ (i := 3) (N := some 30) (v := ?_) (a' := ?_) #[true, true, true, true, false, false, false, true, true, false, false, false, false] rfl rfl (take_ofW HT_.out HW_.out (by kernel_rfl)) (fun _ _ _ h => h) (Or.inl ⟨by rfl, ?_⟩) hHeld ?_ ?_
    rotate_left
    · rintro w' ⟨s0, s1, s2, s3, s4, s5, s6, s7, s8, s9, s10⟩
      go_simp
      with_reducible rfl
    rotate_left
    · simp only [Act.put, List.setIfInBounds_toArray, List.set_cons_zero, List.set_cons_succ, i64_w, i32_w]
      rfl
    refine pure_ (i := 4) (N := some 31) (v := ?_) (a' := ?_) #[true, true, true, true, true, false, false, true, true, false, false, false, false] rfl rfl (any_of HT_.out (by kernel_rfl)) (fun _ _ _ h => h) (Or.inl ⟨by rfl, ?_⟩) ?_ ?_
    rotate_left
    · intro w'
      go_simp
      with_reducible rfl
    rotate_left
    · simp only [Act.put, List.setIfInBounds_toArray, List.set_cons_zero, List.set_cons_succ, i64_w, i32_w]
      rfl
    refine pure_ (i := 5) (N := some 32) (v := ?_) (a' := ?_) #[true, true, true, true, true, true, false, true, true, false, false, false, false] rfl rfl (any_of HT_.out (by kernel_rfl)) (fun _ _ _ h => h) (Or.inl ⟨by rfl, ?_⟩) ?_ ?_
    rotate_left
    · intro w'
      go_simp
      with_reducible rfl
    rotate_left
    · simp only [Act.put, List.setIfInBounds_toArray, List.set_cons_zero, List.set_cons_succ, i64_w, i32_w]
      rfl
    refine take_ (i := 9) (N := some 36) (v := ?_) (a' := ?_) #[true, true, true, true, true, true, false, true, true, true, false, false, false] rfl rfl (take_ofW HT_.out HW_.out (by kernel_rfl)) (fun _ _ _ h => h) (Or.inl ⟨by rfl, ?_⟩) hHeld ?_ ?_
    rotate_left
    · rintro w' ⟨s0, s1, s2, s3, s4, s5, s6, s7, s8, s9, s10⟩
      go_simp
      with_reducible rfl
    rotate_left
    · simp only [Act.put, List.setIfInBounds_toArray, List.set_cons_zero, List.set_cons_succ, i64_w, i32_w]
      rfl
    refine one_ (i := 6) (N := some 33) #[true, true, true, true, true, true, true, true, true, true, false, false, false] rfl rfl (one_of HT_.out (by kernel_rfl)) (by decide) (fun K hK => ?_)
    refine goes_ Tryd.func12 (by kernel_rfl) rfl #[.pointer (some ⟨p, 0, none⟩), .slice (some ⟨gl, 0, none⟩) d.l.length c5] (by rfl) rfl rfl (by (try simp only [List.map_toArray, List.map_cons, List.map_nil]); first | done | rfl) ?_
    refine (H6.out.arr1 (C_begin (Kd.R_reads' (H6.out.row RL5.out)).2.2) (by omega) (by omega) (by omega)).mono ?_
    rintro e w6 ⟨rfl, hb⟩
    refine ⟨_, rfl, ?_⟩
    have H7 := Aside0.mk hb
    clear hb
    refine hK.out _ _ (box11 (H7.out.blk (Or.inr (Or.inr rfl)) BD.out)) (fun hHeld => ?_)
    clear hK K
    refine norm_ (a' := ?_) ?_ ?_
    rotate_left
    · show Act.put _ (some 33) _ = _
      simp only [Act.put, List.setIfInBounds_toArray, List.set_cons_zero, List.set_cons_succ, i64_w, i32_w]
      rfl
    refine one_ (i := 10) (N := some 37) #[true, true, true, true, true, true, true, true, true, true, true, false, false] rfl rfl (one_of HT_.out (by kernel_rfl)) (by decide) (fun K hK => ?_)
    refine goes_ Tryd.func24 (by kernel_rfl) rfl #[.pointer (some ⟨q, 0, none⟩), .slice d.lA d.l.length d.lc] (by rfl) rfl rfl (by (try simp only [List.map_toArray, List.map_cons, List.map_nil]); first | done | rfl) ?_
    refine (H7.out.arr2 (Kd.C_below HK.out.c H7.out.bel) (by omega) (by omega)).mono ?_
    rintro e w7 ⟨rfl, hb⟩
    refine ⟨_, rfl, ?_⟩
    have H8 := Aside0.mk hb
    clear hb
    refine hK.out _ _ (box11 (H8.out.blk (Or.inr (Or.inr rfl)) BD.out)) (fun hHeld => ?_)
    clear hK K
    refine norm_ (a' := ?_) ?_ ?_
    rotate_left
    · show Act.put _ (some 37) _ = _
      simp only [Act.put, List.setIfInBounds_toArray, List.set_cons_zero, List.set_cons_succ, i64_w, i32_w]
      rfl
    refine pure_ (i := 11) (N := some 38) (v := ?_) (a' := ?_) #[true, true, true, true, true, true, true, true, true, true, true, true, false] rfl rfl (any_of HT_.out (by kernel_rfl)) (fun _ _ _ h => h) (Or.inl ⟨by rfl, ?_⟩) ?_ ?_
    rotate_left
    · intro w'
      go_simp
      with_reducible rfl
    rotate_left
    · simp only [Act.put, List.setIfInBounds_toArray, List.set_cons_zero, List.set_cons_succ, i64_w, i32_w]
      rfl
    refine pure_ (i := 12) (N := some 9) (v := ?_) (a' := ?_) #[true, true, true, true, true, true, true, true, true, true, true, true, true] rfl rfl (any_of HT_.out (by kernel_rfl)) (fun _ _ _ h => h) (Or.inl ⟨by rfl, ?_⟩) ?_ ?_
    rotate_left
    · intro w'
      go_simp
      with_reducible rfl
    rotate_left
    · simp only [Act.put, List.setIfInBounds_toArray, List.set_cons_zero, List.set_cons_succ, i64_w, i32_w]
      rfl
    refine done_ (done_of HT_.out (by kernel_rfl)) ?_
    try simp only [Exit.inBlock, Exit.then]
    apply HREST.out
    exact H8.out
  have t0 : (d.k == 0) = false := by simpa using e0
  by_cases e1 : d.k = 1
  · have hdo : doD D d = D ++ [.obj (kvFold d.ns d.l)] := by unfold doD; simp [e1]
    rw [hdo] at HREST
    have t1 : (d.k == 1) = true := beq_iff_eq.mpr e1
    clear e1 hdo
    obtain ⟨k0, k1, k2, k3, k4, k5, k6, k7, k8, k9, k10⟩ := box11 BD.out
    go_wp2
    refine start_ (n := 20) (S := fun w' => w'.cell? ⟨W.heap.size, 0, none⟩ = some (.int .i64 d.k) ∧ w'.cell? ⟨W.heap.size, 1, none⟩ = some (.int .i64 d.v.f0) ∧ w'.cell? ⟨W.heap.size, 2, none⟩ = some (.int .i64 d.v.f1) ∧ w'.cell? ⟨W.heap.size, 3, none⟩ = some (.string d.v.f2) ∧ w'.cell? ⟨W.heap.size, 4, none⟩ = some (.int .i64 d.x.f0) ∧ w'.cell? ⟨W.heap.size, 5, none⟩ = some (.int .i64 d.x.f1) ∧ w'.cell? ⟨W.heap.size, 6, none⟩ = some (.string d.x.f2) ∧ w'.cell? ⟨W.heap.size, 7, none⟩ = some (.string d.nm) ∧ w'.cell? ⟨W.heap.size, 8, none⟩ = some (.int .i64 d.i) ∧ w'.cell? ⟨W.heap.size, 9, none⟩ = some (.slice d.nA d.ns.length d.nc) ∧ w'.cell? ⟨W.heap.size, 10, none⟩ = some (.slice d.lA d.l.length d.lc)) (ds := []) #[false, false, false, false, false, false, false, false, false, false, false, false, false, false, false, false, false, false, false, false] (by kernel_rfl) rfl rfl (box11 BD.out) (fun hHeld => ?_); refine with_tabW do8.tab do8.bits (fun HT_ HW_ => ?_)
    refine pure_ (i := 0) (N := some 41) (v := ?_) (a' := ?_) #[true, false, false, false, false, false, false, false, false, false, false, false, false, false, false, false, false, false, false, false] rfl rfl (any_of HT_.out (by kernel_rfl)) (fun _ _ _ h => h) (Or.inl ⟨by rfl, ?_⟩) ?_ ?_
    rotate_left
    · intro w'
      go_simp
      with_reducible rfl
    rotate_left
    · simp only [Act.put, List.setIfInBounds_toArray, List.set_cons_zero, List.set_cons_succ, i64_w, i32_w]
      rfl
    refine pure_ (i := 1) (N := some 42) (v := ?_) (a' := ?_) #[true, true, false, false, false, false, false, false, false, false, false, false, false, false, false, false, false, false, false, false] rfl rfl (any_of HT_.out (by kernel_rfl)) (fun _ _ _ h => h) (Or.inl ⟨by rfl, ?_⟩) ?_ ?_
    rotate_left
    · intro w'
      go_simp
      with_reducible rfl
    rotate_left
    · simp only [Act.put, List.setIfInBounds_toArray, List.set_cons_zero, List.set_cons_succ, i64_w, i32_w]
      rfl
    refine pure_ (i := 2) (N := some 43) (v := ?_) (a' := ?_) #[true, true, true, false, false, false, false, false, false, false, false, false, false, false, false, false, false, false, false, false] rfl rfl (any_of HT_.out (by kernel_rfl)) (fun _ _ _ h => h) (Or.inl ⟨by rfl, ?_⟩) ?_ ?_
    rotate_left
    · intro w'
      go_simp
      with_reducible rfl
    rotate_left
    · simp only [Act.put, List.setIfInBounds_toArray, List.set_cons_zero, List.set_cons_succ, i64_w, i32_w]
      rfl
    refine pure_ (i := 6) (N := some 47) (v := ?_) (a' := ?_) #[true, true, true, false, false, false, true, false, false, false, false, false, false, false, false, false, false, false, false, false] rfl rfl (any_of HT_.out (by kernel_rfl)) (fun _ _ _ h => h) (Or.inl ⟨by rfl, ?_⟩) ?_ ?_
    rotate_left
    · intro w'
      go_simp
      with_reducible rfl
    rotate_left
    · simp only [Act.put, List.setIfInBounds_toArray, List.set_cons_zero, List.set_cons_succ, i64_w, i32_w]
      rfl
    refine pure_ (i := 7) (N := some 48) (v := ?_) (a' := ?_) #[true, true, true, false, false, false, true, true, false, false, false, false, false, false, false, false, false, false, false, false] rfl rfl (any_of HT_.out (by kernel_rfl)) (fun _ _ _ h => h) (Or.inl ⟨by rfl, ?_⟩) ?_ ?_
    rotate_left
    · intro w'
      go_simp
      with_reducible rfl
    rotate_left
    · simp only [Act.put, List.setIfInBounds_toArray, List.set_cons_zero, List.set_cons_succ, i64_w, i32_w]
      rfl
    refine pure_ (i := 12) (N := some 53) (v := ?_) (a' := ?_) #[true, true, true, false, false, false, true, true, false, false, false, false, true, false, false, false, false, false, false, false] rfl rfl (any_of HT_.out (by kernel_rfl)) (fun _ _ _ h => h) (Or.inl ⟨by rfl, ?_⟩) ?_ ?_
    rotate_left
    · intro w'
      go_simp
      with_reducible rfl
    rotate_left
    · simp only [Act.put, List.setIfInBounds_toArray, List.set_cons_zero, List.set_cons_succ, i64_w, i32_w]
      rfl
    refine pure_ (i := 13) (N := some 54) (v := ?_) (a' := ?_) #[true, true, true, false, false, false, true, true, false, false, false, false, true, true, false, false, false, false, false, false] rfl rfl (any_of HT_.out (by kernel_rfl)) (fun _ _ _ h => h) (Or.inl ⟨by rfl, ?_⟩) ?_ ?_
    rotate_left
    · intro w'
      go_simp
      with_reducible rfl
    rotate_left
    · simp only [Act.put, List.setIfInBounds_toArray, List.set_cons_zero, List.set_cons_succ, i64_w, i32_w]
      rfl
    refine pure_ (i := 15) (N := some 56) (v := ?_) (a' := ?_) #[true, true, true, false, false, false, true, true, false, false, false, false, true, true, false, true, false, false, false, false] rfl rfl (any_of HT_.out (by kernel_rfl)) (fun _ _ _ h => h) (Or.inl ⟨by rfl, ?_⟩) ?_ ?_
    rotate_left
    · intro w'
      go_simp
      with_reducible rfl
    rotate_left
    · simp only [Act.put, List.setIfInBounds_toArray, List.set_cons_zero, List.set_cons_succ, i64_w, i32_w]
      rfl
    refine take_ (i := 3) (N := some 44) (v := ?_) (a' := ?_) #[true, true, true, true, false, false, true, true, false, false, false, false, true, true, false, true, false, false, false, false] rfl rfl (take_ofW HT_.out HW_.out (by kernel_rfl)) (fun _ _ _ h => h) (Or.inl ⟨by rfl, ?_⟩) hHeld ?_ ?_
    rotate_left
    · rintro w' ⟨s0, s1, s2, s3, s4, s5, s6, s7, s8, s9, s10⟩
      go_simp
      with_reducible rfl
    rotate_left
    · simp only [Act.put, List.setIfInBounds_toArray, List.set_cons_zero, List.set_cons_succ, i64_w, i32_w]
      rfl
    refine pure_ (i := 4) (N := some 45) (v := ?_) (a' := ?_) #[true, true, true, true, true, false, true, true, false, false, false, false, true, true, false, true, false, false, false, false] rfl rfl (any_of HT_.out (by kernel_rfl)) (fun _ _ _ h => h) (Or.inl ⟨by rfl, ?_⟩) ?_ ?_
    rotate_left
    · intro w'
      go_simp
      with_reducible rfl
    rotate_left
    · simp only [Act.put, List.setIfInBounds_toArray, List.set_cons_zero, List.set_cons_succ, i64_w, i32_w]
      rfl
    refine pure_ (i := 5) (N := some 46) (v := ?_) (a' := ?_) #[true, true, true, true, true, true, true, true, false, false, false, false, true, true, false, true, false, false, false, false] rfl rfl (any_of HT_.out (by kernel_rfl)) (fun _ _ _ h => h) (Or.inl ⟨by rfl, ?_⟩) ?_ ?_
    rotate_left
    · intro w'
      go_simp
      with_reducible rfl
    rotate_left
    · simp only [Act.put, List.setIfInBounds_toArray, List.set_cons_zero, List.set_cons_succ, i64_w, i32_w]
      rfl
    refine take_ (i := 8) (N := some 49) (v := ?_) (a' := ?_) #[true, true, true, true, true, true, true, true, true, false, false, false, true, true, false, true, false, false, false, false] rfl rfl (take_ofW HT_.out HW_.out (by kernel_rfl)) (fun _ _ _ h => h) (Or.inl ⟨by rfl, ?_⟩) hHeld ?_ ?_
    rotate_left
    · rintro w' ⟨s0, s1, s2, s3, s4, s5, s6, s7, s8, s9, s10⟩
      go_simp
      with_reducible rfl
    rotate_left
    · simp only [Act.put, List.setIfInBounds_toArray, List.set_cons_zero, List.set_cons_succ, i64_w, i32_w]
      rfl
    refine pure_ (i := 9) (N := some 50) (v := ?_) (a' := ?_) #[true, true, true, true, true, true, true, true, true, true, false, false, true, true, false, true, false, false, false, false] rfl rfl (any_of HT_.out (by kernel_rfl)) (fun _ _ _ h => h) (Or.inl ⟨by rfl, ?_⟩) ?_ ?_
    rotate_left
    · intro w'
      go_simp
      with_reducible rfl
    rotate_left
    · simp only [Act.put, List.setIfInBounds_toArray, List.set_cons_zero, List.set_cons_succ, i64_w, i32_w]
      rfl
    refine pure_ (i := 10) (N := some 51) (v := ?_) (a' := ?_) #[true, true, true, true, true, true, true, true, true, true, true, false, true, true, false, true, false, false, false, false] rfl rfl (any_of HT_.out (by kernel_rfl)) (fun _ _ _ h => h) (Or.inl ⟨by rfl, ?_⟩) ?_ ?_
    rotate_left
    · intro w'
      go_simp
      with_reducible rfl
    rotate_left
    · simp only [Act.put, List.setIfInBounds_toArray, List.set_cons_zero, List.set_cons_succ, i64_w, i32_w]
      rfl
    refine take_ (i := 14) (N := some 55) (v := ?_) (a' := ?_) #[true, true, true, true, true, true, true, true, true, true, true, false, true, true, true, true, false, false, false, false] rfl rfl (take_ofW HT_.out HW_.out (by kernel_rfl)) (fun _ _ _ h => h) (Or.inl ⟨by rfl, ?_⟩) hHeld ?_ ?_
    rotate_left
    · rintro w' ⟨s0, s1, s2, s3, s4, s5, s6, s7, s8, s9, s10⟩
      go_simp
      with_reducible rfl
    rotate_left
    · simp only [Act.put, List.setIfInBounds_toArray, List.set_cons_zero, List.set_cons_succ, i64_w, i32_w]
      rfl
    refine take_ (i := 16) (N := some 57) (v := ?_) (a' := ?_) #[true, true, true, true, true, true, true, true, true, true, true, false, true, true, true, true, true, false, false, false] rfl rfl (take_ofW HT_.out HW_.out (by kernel_rfl)) (fun _ _ _ h => h) (Or.inl ⟨by rfl, ?_⟩) hHeld ?_ ?_
    rotate_left
    · rintro w' ⟨s0, s1, s2, s3, s4, s5, s6, s7, s8, s9, s10⟩
      go_simp
      with_reducible rfl
    rotate_left
    · simp only [Act.put, List.setIfInBounds_toArray, List.set_cons_zero, List.set_cons_succ, i64_w, i32_w]
      rfl
    refine one_ (i := 11) (N := some 52) #[true, true, true, true, true, true, true, true, true, true, true, true, true, true, true, true, true, false, false, false] rfl rfl (one_of HT_.out (by kernel_rfl)) (by decide) (fun K hK => ?_)
    refine goes_ Tryd.func13 (by kernel_rfl) rfl #[.pointer (some ⟨p, 0, none⟩), .slice (some ⟨gn, 0, none⟩) d.ns.length c2, .slice (some ⟨gl, 0, none⟩) d.l.length c5] (by rfl) rfl rfl (by (try simp only [List.map_toArray, List.map_cons, List.map_nil]); first | done | rfl) ?_
    refine (H6.out.obj1 (C_begin (Kd.R_reads' (H6.out.row RN5.out)).2.2) (C_begin (Kd.R_reads' (H6.out.row RL5.out)).2.2) (by omega) (by omega) (by omega)).mono ?_
    rintro e w6 ⟨rfl, hb⟩
    refine ⟨_, rfl, ?_⟩
    have H7 := Aside0.mk hb
    clear hb
    refine hK.out _ _ (box11 (H7.out.blk (Or.inr (Or.inr rfl)) BD.out)) (fun hHeld => ?_)
    clear hK K
    refine norm_ (a' := ?_) ?_ ?_
    rotate_left
    · show Act.put _ (some 52) _ = _
      simp only [Act.put, List.setIfInBounds_toArray, List.set_cons_zero, List.set_cons_succ, i64_w, i32_w]
      rfl
    refine one_ (i := 17) (N := some 58) #[true, true, true, true, true, true, true, true, true, true, true, true, true, true, true, true, true, true, false, false] rfl rfl (one_of HT_.out (by kernel_rfl)) (by decide) (fun K hK => ?_)
    refine goes_ Tryd.func25 (by kernel_rfl) rfl #[.pointer (some ⟨q, 0, none⟩), .slice d.nA d.ns.length d.nc, .slice d.lA d.l.length d.lc] (by rfl) rfl rfl (by (try simp only [List.map_toArray, List.map_cons, List.map_nil]); first | done | rfl) ?_
    refine (H7.out.obj2 HK.out.n HK.out.c (by omega) (by omega) (by omega)).mono ?_
    rintro e w7 ⟨rfl, hb⟩
    refine ⟨_, rfl, ?_⟩
    have H8 := Aside0.mk hb
    clear hb
    refine hK.out _ _ (box11 (H8.out.blk (Or.inr (Or.inr rfl)) BD.out)) (fun hHeld => ?_)
    clear hK K
    refine norm_ (a' := ?_) ?_ ?_
    rotate_left
    · show Act.put _ (some 58) _ = _
      simp only [Act.put, List.setIfInBounds_toArray, List.set_cons_zero, List.set_cons_succ, i64_w, i32_w]
      rfl
    refine pure_ (i := 18) (N := some 59) (v := ?_) (a' := ?_) #[true, true, true, true, true, true, true, true, true, true, true, true, true, true, true, true, true, true, true, false] rfl rfl (any_of HT_.out (by kernel_rfl)) (fun _ _ _ h => h) (Or.inl ⟨by rfl, ?_⟩) ?_ ?_
    rotate_left
    · intro w'
      go_simp
      with_reducible rfl
    rotate_left
    · simp only [Act.put, List.setIfInBounds_toArray, List.set_cons_zero, List.set_cons_succ, i64_w, i32_w]
      rfl
    refine pure_ (i := 19) (N := some 9) (v := ?_) (a' := ?_) #[true, true, true, true, true, true, true, true, true, true, true, true, true, true, true, true, true, true, true, true] rfl rfl (any_of HT_.out (by kernel_rfl)) (fun _ _ _ h => h) (Or.inl ⟨by rfl, ?_⟩) ?_ ?_
    rotate_left
    · intro w'
      go_simp
      with_reducible rfl
    rotate_left
    · simp only [Act.put, List.setIfInBounds_toArray, List.set_cons_zero, List.set_cons_succ, i64_w, i32_w]
      rfl
    refine done_ (done_of HT_.out (by kernel_rfl)) ?_
    try simp only [Exit.inBlock, Exit.then]
    apply HREST.out
    exact H8.out
  have t1 : (d.k == 1) = false := by simpa using e1
  by_cases e2 : d.k = 2
  · have hdo : doD D d = (oSet D d.v d.nm d.x).1 := by unfold doD; simp [e2]
    rw [hdo] at HREST
    have t2 : (d.k == 2) = true := beq_iff_eq.mpr e2
    clear e2 hdo
    obtain ⟨k0, k1, k2, k3, k4, k5, k6, k7, k8, k9, k10⟩ := box11 BD.out
    go_wp2
    refine start_ (n := 18) (S := fun w' => w'.cell? ⟨W.heap.size, 0, none⟩ = some (.int .i64 d.k) ∧ w'.cell? ⟨W.heap.size, 1, none⟩ = some (.int .i64 d.v.f0) ∧ w'.cell? ⟨W.heap.size, 2, none⟩ = some (.int .i64 d.v.f1) ∧ w'.cell? ⟨W.heap.size, 3, none⟩ = some (.string d.v.f2) ∧ w'.cell? ⟨W.heap.size, 4, none⟩ = some (.int .i64 d.x.f0) ∧ w'.cell? ⟨W.heap.size, 5, none⟩ = some (.int .i64 d.x.f1) ∧ w'.cell? ⟨W.heap.size, 6, none⟩ = some (.string d.x.f2) ∧ w'.cell? ⟨W.heap.size, 7, none⟩ = some (.string d.nm) ∧ w'.cell? ⟨W.heap.size, 8, none⟩ = some (.int .i64 d.i) ∧ w'.cell? ⟨W.heap.size, 9, none⟩ = some (.slice d.nA d.ns.length d.nc) ∧ w'.cell? ⟨W.heap.size, 10, none⟩ = some (.slice d.lA d.l.length d.lc)) (ds := []) #[false, false, false, false, false, false, false, false, false, false, false, false, false, false, false, false, false, false] (by kernel_rfl) rfl rfl (box11 BD.out) (fun hHeld => ?_); refine with_tabW do10.tab do10.bits (fun HT_ HW_ => ?_)
    refine pure_ (i := 0) (N := some 62) (v := ?_) (a' := ?_) #[true, false, false, false, false, false, false, false, false, false, false, false, false, false, false, false, false, false] rfl rfl (any_of HT_.out (by kernel_rfl)) (fun _ _ _ h => h) (Or.inl ⟨by rfl, ?_⟩) ?_ ?_
    rotate_left
    · intro w'
      go_simp
      with_reducible rfl
    rotate_left
    · simp only [Act.put, List.setIfInBounds_toArray, List.set_cons_zero, List.set_cons_succ, i64_w, i32_w]
      rfl
    refine pure_ (i := 1) (N := some 63) (v := ?_) (a' := ?_) #[true, true, false, false, false, false, false, false, false, false, false, false, false, false, false, false, false, false] rfl rfl (any_of HT_.out (by kernel_rfl)) (fun _ _ _ h => h) (Or.inl ⟨by rfl, ?_⟩) ?_ ?_
    rotate_left
    · intro w'
      go_simp
      with_reducible rfl
    rotate_left
    · simp only [Act.put, List.setIfInBounds_toArray, List.set_cons_zero, List.set_cons_succ, i64_w, i32_w]
      rfl
    refine pure_ (i := 3) (N := some 65) (v := ?_) (a' := ?_) #[true, true, false, true, false, false, false, false, false, false, false, false, false, false, false, false, false, false] rfl rfl (any_of HT_.out (by kernel_rfl)) (fun _ _ _ h => h) (Or.inl ⟨by rfl, ?_⟩) ?_ ?_
    rotate_left
    · intro w'
      go_simp
      with_reducible rfl
    rotate_left
    · simp only [Act.put, List.setIfInBounds_toArray, List.set_cons_zero, List.set_cons_succ, i64_w, i32_w]
      rfl
    refine pure_ (i := 5) (N := some 67) (v := ?_) (a' := ?_) #[true, true, false, true, false, true, false, false, false, false, false, false, false, false, false, false, false, false] rfl rfl (any_of HT_.out (by kernel_rfl)) (fun _ _ _ h => h) (Or.inl ⟨by rfl, ?_⟩) ?_ ?_
    rotate_left
    · intro w'
      go_simp
      with_reducible rfl
    rotate_left
    · simp only [Act.put, List.setIfInBounds_toArray, List.set_cons_zero, List.set_cons_succ, i64_w, i32_w]
      rfl
    refine pure_ (i := 8) (N := some 70) (v := ?_) (a' := ?_) #[true, true, false, true, false, true, false, false, true, false, false, false, false, false, false, false, false, false] rfl rfl (any_of HT_.out (by kernel_rfl)) (fun _ _ _ h => h) (Or.inl ⟨by rfl, ?_⟩) ?_ ?_
    rotate_left
    · intro w'
      go_simp
      with_reducible rfl
    rotate_left
    · simp only [Act.put, List.setIfInBounds_toArray, List.set_cons_zero, List.set_cons_succ, i64_w, i32_w]
      rfl
    refine pure_ (i := 9) (N := some 71) (v := ?_) (a' := ?_) #[true, true, false, true, false, true, false, false, true, true, false, false, false, false, false, false, false, false] rfl rfl (any_of HT_.out (by kernel_rfl)) (fun _ _ _ h => h) (Or.inl ⟨by rfl, ?_⟩) ?_ ?_
    rotate_left
    · intro w'
      go_simp
      with_reducible rfl
    rotate_left
    · simp only [Act.put, List.setIfInBounds_toArray, List.set_cons_zero, List.set_cons_succ, i64_w, i32_w]
      rfl
    refine pure_ (i := 11) (N := some 73) (v := ?_) (a' := ?_) #[true, true, false, true, false, true, false, false, true, true, false, true, false, false, false, false, false, false] rfl rfl (any_of HT_.out (by kernel_rfl)) (fun _ _ _ h => h) (Or.inl ⟨by rfl, ?_⟩) ?_ ?_
    rotate_left
    · intro w'
      go_simp
      with_reducible rfl
    rotate_left
    · simp only [Act.put, List.setIfInBounds_toArray, List.set_cons_zero, List.set_cons_succ, i64_w, i32_w]
      rfl
    refine pure_ (i := 13) (N := some 75) (v := ?_) (a' := ?_) #[true, true, false, true, false, true, false, false, true, true, false, true, false, true, false, false, false, false] rfl rfl (any_of HT_.out (by kernel_rfl)) (fun _ _ _ h => h) (Or.inl ⟨by rfl, ?_⟩) ?_ ?_
    rotate_left
    · intro w'
      go_simp
      with_reducible rfl
    rotate_left
    · simp only [Act.put, List.setIfInBounds_toArray, List.set_cons_zero, List.set_cons_succ, i64_w, i32_w]
      rfl
    refine take_ (i := 2) (N := some 64) (v := ?_) (a' := ?_) #[true, true, true, true, false, true, false, false, true, true, false, true, false, true, false, false, false, false] rfl rfl (take_ofW HT_.out HW_.out (by kernel_rfl)) (fun _ _ _ h => h) (Or.inl ⟨by rfl, ?_⟩) hHeld ?_ ?_
    rotate_left
    · rintro w' ⟨s0, s1, s2, s3, s4, s5, s6, s7, s8, s9, s10⟩
      go_simp
      with_reducible rfl
    rotate_left
    · simp only [Act.put, List.setIfInBounds_toArray, List.set_cons_zero, List.set_cons_succ, i64_w, i32_w]
      rfl
    refine take_ (i := 4) (N := some 66) (v := ?_) (a' := ?_) #[true, true, true, true, true, true, false, false, true, true, false, true, false, true, false, false, false, false] rfl rfl (take_ofW HT_.out HW_.out (by kernel_rfl)) (fun _ _ _ h => h) (Or.inl ⟨by rfl, ?_⟩) hHeld ?_ ?_
    rotate_left
    · rintro w' ⟨s0, s1, s2, s3, s4, s5, s6, s7, s8, s9, s10⟩
      go_simp
      with_reducible rfl
    rotate_left
    · simp only [Act.put, List.setIfInBounds_toArray, List.set_cons_zero, List.set_cons_succ, i64_w, i32_w]
      rfl
    refine take_ (i := 6) (N := some 68) (v := ?_) (a' := ?_) #[true, true, true, true, true, true, true, false, true, true, false, true, false, true, false, false, false, false] rfl rfl (take_ofW HT_.out HW_.out (by kernel_rfl)) (fun _ _ _ h => h) (Or.inl ⟨by rfl, ?_⟩) hHeld ?_ ?_
    rotate_left
    · rintro w' ⟨s0, s1, s2, s3, s4, s5, s6, s7, s8, s9, s10⟩
      go_simp
      with_reducible rfl
    rotate_left
    · simp only [Act.put, List.setIfInBounds_toArray, List.set_cons_zero, List.set_cons_succ, i64_w, i32_w]
      rfl
    refine take_ (i := 10) (N := some 72) (v := ?_) (a' := ?_) #[true, true, true, true, true, true, true, false, true, true, true, true, false, true, false, false, false, false] rfl rfl (take_ofW HT_.out HW_.out (by kernel_rfl)) (fun _ _ _ h => h) (Or.inl ⟨by rfl, ?_⟩) hHeld ?_ ?_
    rotate_left
    · rintro w' ⟨s0, s1, s2, s3, s4, s5, s6, s7, s8, s9, s10⟩
      go_simp
      with_reducible rfl
    rotate_left
    · simp only [Act.put, List.setIfInBounds_toArray, List.set_cons_zero, List.set_cons_succ, i64_w, i32_w]
      rfl
    refine take_ (i := 12) (N := some 74) (v := ?_) (a' := ?_) #[true, true, true, true, true, true, true, false, true, true, true, true, true, true, false, false, false, false] rfl rfl (take_ofW HT_.out HW_.out (by kernel_rfl)) (fun _ _ _ h => h) (Or.inl ⟨by rfl, ?_⟩) hHeld ?_ ?_
    rotate_left
    · rintro w' ⟨s0, s1, s2, s3, s4, s5, s6, s7, s8, s9, s10⟩
      go_simp
      with_reducible rfl
    rotate_left
    · simp only [Act.put, List.setIfInBounds_toArray, List.set_cons_zero, List.set_cons_succ, i64_w, i32_w]
      rfl
    refine take_ (i := 14) (N := some 76) (v := ?_) (a' := ?_) #[true, true, true, true, true, true, true, false, true, true, true, true, true, true, true, false, false, false] rfl rfl (take_ofW HT_.out HW_.out (by kernel_rfl)) (fun _ _ _ h => h) (Or.inl ⟨by rfl, ?_⟩) hHeld ?_ ?_
    rotate_left
    · rintro w' ⟨s0, s1, s2, s3, s4, s5, s6, s7, s8, s9, s10⟩
      go_simp
      with_reducible rfl
    rotate_left
    · simp only [Act.put, List.setIfInBounds_toArray, List.set_cons_zero, List.set_cons_succ, i64_w, i32_w]
      rfl
    refine one_ (i := 7) (N := some 69) #[true, true, true, true, true, true, true, true, true, true, true, true, true, true, true, false, false, false] rfl rfl (one_of HT_.out (by kernel_rfl)) (by decide) (fun K hK => ?_)
    refine goes_ Tryd.func15 (by kernel_rfl) rfl #[.pointer (some ⟨p, 0, none⟩), .agg #[.int .i64 d.v.f0, .int .i64 d.v.f1, .string d.v.f2], .string d.nm, .agg #[.int .i64 d.x.f0, .int .i64 d.x.f1, .string d.x.f2]] (by rfl) rfl rfl (by (try simp only [List.map_toArray, List.map_cons, List.map_nil]); first | done | rfl) ?_
    refine (H6.out.set1 d.v d.x d.nm).mono ?_
    rintro e w6 ⟨rfl, hb⟩
    refine ⟨_, rfl, ?_⟩
    have H7 := Aside0.mk hb
    clear hb
    refine hK.out _ _ (box11 (H7.out.blk (Or.inr (Or.inr rfl)) BD.out)) (fun hHeld => ?_)
    clear hK K
    refine norm_ (a' := ?_) ?_ ?_
    rotate_left
    · show Act.put _ (some 69) _ = _
      simp only [Act.put, List.setIfInBounds_toArray, List.set_cons_zero, List.set_cons_succ, i64_w, i32_w]
      rfl
    refine one_ (i := 15) (N := some 77) #[true, true, true, true, true, true, true, true, true, true, true, true, true, true, true, true, false, false] rfl rfl (one_of HT_.out (by kernel_rfl)) (by decide) (fun K hK => ?_)
    refine goes_ Tryd.func26 (by kernel_rfl) rfl #[.pointer (some ⟨q, 0, none⟩), .agg #[.int .i64 d.v.f0, .int .i64 d.v.f1, .string d.v.f2], .string d.nm, .agg #[.int .i64 d.x.f0, .int .i64 d.x.f1, .string d.x.f2]] (by rfl) rfl rfl (by (try simp only [List.map_toArray, List.map_cons, List.map_nil]); first | done | rfl) ?_
    refine (H7.out.set2 d.v d.x d.nm R2.out).mono ?_
    rintro e w7 ⟨rfl, hb⟩
    refine ⟨_, rfl, ?_⟩
    have H8 := Aside0.mk hb
    clear hb
    refine hK.out _ _ (box11 (H8.out.blk (Or.inr (Or.inr rfl)) BD.out)) (fun hHeld => ?_)
    clear hK K
    refine norm_ (a' := ?_) ?_ ?_
    rotate_left
    · show Act.put _ (some 77) _ = _
      simp only [Act.put, List.setIfInBounds_toArray, List.set_cons_zero, List.set_cons_succ, i64_w, i32_w]
      rfl
    refine pure_ (i := 16) (N := some 78) (v := ?_) (a' := ?_) #[true, true, true, true, true, true, true, true, true, true, true, true, true, true, true, true, true, false] rfl rfl (any_of HT_.out (by kernel_rfl)) (fun _ _ _ h => h) (Or.inl ⟨by rfl, ?_⟩) ?_ ?_
    rotate_left
    · intro w'
      go_simp
      with_reducible rfl
    rotate_left
    · simp only [Act.put, List.setIfInBounds_toArray, List.set_cons_zero, List.set_cons_succ, i64_w, i32_w]
      rfl
    refine pure_ (i := 17) (N := some 9) (v := ?_) (a' := ?_) #[true, true, true, true, true, true, true, true, true, true, true, true, true, true, true, true, true, true] rfl rfl (any_of HT_.out (by kernel_rfl)) (fun _ _ _ h => h) (Or.inl ⟨by rfl, ?_⟩) ?_ ?_
    rotate_left
    · intro w'
      go_simp
      with_reducible rfl
    rotate_left
    · simp only [Act.put, List.setIfInBounds_toArray, List.set_cons_zero, List.set_cons_succ, i64_w, i32_w]
      rfl
    refine done_ (done_of HT_.out (by kernel_rfl)) ?_
    try simp only [Exit.inBlock, Exit.then]
    apply HREST.out
    exact H8.out
  have t2 : (d.k == 2) = false := by simpa using e2
  by_cases e3 : d.k = 3
  · have hdo : doD D d = (aPut D d.v d.i d.x).1 := by unfold doD; simp [e3]
    rw [hdo] at HREST
    have t3 : (d.k == 3) = true := beq_iff_eq.mpr e3
    clear e3 hdo
    obtain ⟨k0, k1, k2, k3, k4, k5, k6, k7, k8, k9, k10⟩ := box11 BD.out
    go_wp2
    refine start_ (n := 18) (S := fun w' => w'.cell? ⟨W.heap.size, 0, none⟩ = some (.int .i64 d.k) ∧ w'.cell? ⟨W.heap.size, 1, none⟩ = some (.int .i64 d.v.f0) ∧ w'.cell? ⟨W.heap.size, 2, none⟩ = some (.int .i64 d.v.f1) ∧ w'.cell? ⟨W.heap.size, 3, none⟩ = some (.string d.v.f2) ∧ w'.cell? ⟨W.heap.size, 4, none⟩ = some (.int .i64 d.x.f0) ∧ w'.cell? ⟨W.heap.size, 5, none⟩ = some (.int .i64 d.x.f1) ∧ w'.cell? ⟨W.heap.size, 6, none⟩ = some (.string d.x.f2) ∧ w'.cell? ⟨W.heap.size, 7, none⟩ = some (.string d.nm) ∧ w'.cell? ⟨W.heap.size, 8, none⟩ = some (.int .i64 d.i) ∧ w'.cell? ⟨W.heap.size, 9, none⟩ = some (.slice d.nA d.ns.length d.nc) ∧ w'.cell? ⟨W.heap.size, 10, none⟩ = some (.slice d.lA d.l.length d.lc)) (ds := []) #[false, false, false, false, false, false, false, false, false, false, false, false, false, false, false, false, false, false] (by kernel_rfl) rfl rfl (box11 BD.out) (fun hHeld => ?_); refine with_tabW do12.tab do12.bits (fun HT_ HW_ => ?_)
    refine pure_ (i := 0) (N := some 81) (v := ?_) (a' := ?_) #[true, false, false, false, false, false, false, false, false, false, false, false, false, false, false, false, false, false] rfl rfl (any_of HT_.out (by kernel_rfl)) (fun _ _ _ h => h) (Or.inl ⟨by rfl, ?_⟩) ?_ ?_
    rotate_left
    · intro w'
      go_simp
      with_reducible rfl
    rotate_left
    · simp only [Act.put, List.setIfInBounds_toArray, List.set_cons_zero, List.set_cons_succ, i64_w, i32_w]
      rfl
    refine pure_ (i := 1) (N := some 82) (v := ?_) (a' := ?_) #[true, true, false, false, false, false, false, false, false, false, false, false, false, false, false, false, false, false] rfl rfl (any_of HT_.out (by kernel_rfl)) (fun _ _ _ h => h) (Or.inl ⟨by rfl, ?_⟩) ?_ ?_
    rotate_left
    · intro w'
      go_simp
      with_reducible rfl
    rotate_left
    · simp only [Act.put, List.setIfInBounds_toArray, List.set_cons_zero, List.set_cons_succ, i64_w, i32_w]
      rfl
    refine pure_ (i := 3) (N := some 84) (v := ?_) (a' := ?_) #[true, true, false, true, false, false, false, false, false, false, false, false, false, false, false, false, false, false] rfl rfl (any_of HT_.out (by kernel_rfl)) (fun _ _ _ h => h) (Or.inl ⟨by rfl, ?_⟩) ?_ ?_
    rotate_left
    · intro w'
      go_simp
      with_reducible rfl
    rotate_left
    · simp only [Act.put, List.setIfInBounds_toArray, List.set_cons_zero, List.set_cons_succ, i64_w, i32_w]
      rfl
    refine pure_ (i := 5) (N := some 86) (v := ?_) (a' := ?_) #[true, true, false, true, false, true, false, false, false, false, false, false, false, false, false, false, false, false] rfl rfl (any_of HT_.out (by kernel_rfl)) (fun _ _ _ h => h) (Or.inl ⟨by rfl, ?_⟩) ?_ ?_
    rotate_left
    · intro w'
      go_simp
      with_reducible rfl
    rotate_left
    · simp only [Act.put, List.setIfInBounds_toArray, List.set_cons_zero, List.set_cons_succ, i64_w, i32_w]
      rfl
    refine pure_ (i := 8) (N := some 89) (v := ?_) (a' := ?_) #[true, true, false, true, false, true, false, false, true, false, false, false, false, false, false, false, false, false] rfl rfl (any_of HT_.out (by kernel_rfl)) (fun _ _ _ h => h) (Or.inl ⟨by rfl, ?_⟩) ?_ ?_
    rotate_left
    · intro w'
      go_simp
      with_reducible rfl
    rotate_left
    · simp only [Act.put, List.setIfInBounds_toArray, List.set_cons_zero, List.set_cons_succ, i64_w, i32_w]
      rfl
    refine pure_ (i := 9) (N := some 90) (v := ?_) (a' := ?_) #[true, true, false, true, false, true, false, false, true, true, false, false, false, false, false, false, false, false] rfl rfl (any_of HT_.out (by kernel_rfl)) (fun _ _ _ h => h) (Or.inl ⟨by rfl, ?_⟩) ?_ ?_
    rotate_left
    · intro w'
      go_simp
      with_reducible rfl
    rotate_left
    · simp only [Act.put, List.setIfInBounds_toArray, List.set_cons_zero, List.set_cons_succ, i64_w, i32_w]
      rfl
    refine pure_ (i := 11) (N := some 92) (v := ?_) (a' := ?_) #[true, true, false, true, false, true, false, false, true, true, false, true, false, false, false, false, false, false] rfl rfl (any_of HT_.out (by kernel_rfl)) (fun _ _ _ h => h) (Or.inl ⟨by rfl, ?_⟩) ?_ ?_
    rotate_left
    · intro w'
      go_simp
      with_reducible rfl
    rotate_left
    · simp only [Act.put, List.setIfInBounds_toArray, List.set_cons_zero, List.set_cons_succ, i64_w, i32_w]
      rfl
    refine pure_ (i := 13) (N := some 94) (v := ?_) (a' := ?_) #[true, true, false, true, false, true, false, false, true, true, false, true, false, true, false, false, false, false] rfl rfl (any_of HT_.out (by kernel_rfl)) (fun _ _ _ h => h) (Or.inl ⟨by rfl, ?_⟩) ?_ ?_
    rotate_left
    · intro w'
      go_simp
      with_reducible rfl
    rotate_left
    · simp only [Act.put, List.setIfInBounds_toArray, List.set_cons_zero, List.set_cons_succ, i64_w, i32_w]
      rfl
    refine take_ (i := 2) (N := some 83) (v := ?_) (a' := ?_) #[true, true, true, true, false, true, false, false, true, true, false, true, false, true, false, false, false, false] rfl rfl (take_ofW HT_.out HW_.out (by kernel_rfl)) (fun _ _ _ h => h) (Or.inl ⟨by rfl, ?_⟩) hHeld ?_ ?_
    rotate_left
    · rintro w' ⟨s0, s1, s2, s3, s4, s5, s6, s7, s8, s9, s10⟩
      go_simp
      with_reducible rfl
    rotate_left
    · simp only [Act.put, List.setIfInBounds_toArray, List.set_cons_zero, List.set_cons_succ, i64_w, i32_w]
      rfl
    refine take_ (i := 4) (N := some 85) (v := ?_) (a' := ?_) #[true, true, true, true, true, true, false, false, true, true, false, true, false, true, false, false, false, false] rfl rfl (take_ofW HT_.out HW_.out (by kernel_rfl)) (fun _ _ _ h => h) (Or.inl ⟨by rfl, ?_⟩) hHeld ?_ ?_
    rotate_left
    · rintro w' ⟨s0, s1, s2, s3, s4, s5, s6, s7, s8, s9, s10⟩
      go_simp
      with_reducible rfl
    rotate_left
    · simp only [Act.put, List.setIfInBounds_toArray, List.set_cons_zero, List.set_cons_succ, i64_w, i32_w]
      rfl
    refine take_ (i := 6) (N := some 87) (v := ?_) (a' := ?_) #[true, true, true, true, true, true, true, false, true, true, false, true, false, true, false, false, false, false] rfl rfl (take_ofW HT_.out HW_.out (by kernel_rfl)) (fun _ _ _ h => h) (Or.inl ⟨by rfl, ?_⟩) hHeld ?_ ?_
    rotate_left
    · rintro w' ⟨s0, s1, s2, s3, s4, s5, s6, s7, s8, s9, s10⟩
      go_simp
      with_reducible rfl
    rotate_left
    · simp only [Act.put, List.setIfInBounds_toArray, List.set_cons_zero, List.set_cons_succ, i64_w, i32_w]
      rfl
    refine take_ (i := 10) (N := some 91) (v := ?_) (a' := ?_) #[true, true, true, true, true, true, true, false, true, true, true, true, false, true, false, false, false, false] rfl rfl (take_ofW HT_.out HW_.out (by kernel_rfl)) (fun _ _ _ h => h) (Or.inl ⟨by rfl, ?_⟩) hHeld ?_ ?_
    rotate_left
    · rintro w' ⟨s0, s1, s2, s3, s4, s5, s6, s7, s8, s9, s10⟩
      go_simp
      with_reducible rfl
    rotate_left
    · simp only [Act.put, List.setIfInBounds_toArray, List.set_cons_zero, List.set_cons_succ, i64_w, i32_w]
      rfl
    refine take_ (i := 12) (N := some 93) (v := ?_) (a' := ?_) #[true, true, true, true, true, true, true, false, true, true, true, true, true, true, false, false, false, false] rfl rfl (take_ofW HT_.out HW_.out (by kernel_rfl)) (fun _ _ _ h => h) (Or.inl ⟨by rfl, ?_⟩) hHeld ?_ ?_
    rotate_left
    · rintro w' ⟨s0, s1, s2, s3, s4, s5, s6, s7, s8, s9, s10⟩
      go_simp
      with_reducible rfl
    rotate_left
    · simp only [Act.put, List.setIfInBounds_toArray, List.set_cons_zero, List.set_cons_succ, i64_w, i32_w]
      rfl
    refine take_ (i := 14) (N := some 95) (v := ?_) (a' := ?_) #[true, true, true, true, true, true, true, false, true, true, true, true, true, true, true, false, false, false] rfl rfl (take_ofW HT_.out HW_.out (by kernel_rfl)) (fun _ _ _ h => h) (Or.inl ⟨by rfl, ?_⟩) hHeld ?_ ?_
    rotate_left
    · rintro w' ⟨s0, s1, s2, s3, s4, s5, s6, s7, s8, s9, s10⟩
      go_simp
      with_reducible rfl
    rotate_left
    · simp only [Act.put, List.setIfInBounds_toArray, List.set_cons_zero, List.set_cons_succ, i64_w, i32_w]
      rfl
    refine one_ (i := 7) (N := some 88) #[true, true, true, true, true, true, true, true, true, true, true, true, true, true, true, false, false, false] rfl rfl (one_of HT_.out (by kernel_rfl)) (by decide) (fun K hK => ?_)
    refine goes_ Tryd.func16 (by kernel_rfl) rfl #[.pointer (some ⟨p, 0, none⟩), .agg #[.int .i64 d.v.f0, .int .i64 d.v.f1, .string d.v.f2], .int .i64 d.i, .agg #[.int .i64 d.x.f0, .int .i64 d.x.f1, .string d.x.f2]] (by rfl) rfl rfl (by (try simp only [List.map_toArray, List.map_cons, List.map_nil]); first | done | rfl) ?_
    refine (H6.out.put1 d.v d.x d.i R2.out).mono ?_
    rintro e w6 ⟨rfl, hb⟩
    refine ⟨_, rfl, ?_⟩
    have H7 := Aside0.mk hb
    clear hb
    refine hK.out _ _ (box11 (H7.out.blk (Or.inr (Or.inr rfl)) BD.out)) (fun hHeld => ?_)
    clear hK K
    refine norm_ (a' := ?_) ?_ ?_
    rotate_left
    · show Act.put _ (some 88) _ = _
      simp only [Act.put, List.setIfInBounds_toArray, List.set_cons_zero, List.set_cons_succ, i64_w, i32_w]
      rfl
    refine one_ (i := 15) (N := some 96) #[true, true, true, true, true, true, true, true, true, true, true, true, true, true, true, true, false, false] rfl rfl (one_of HT_.out (by kernel_rfl)) (by decide) (fun K hK => ?_)
    refine goes_ Tryd.func27 (by kernel_rfl) rfl #[.pointer (some ⟨q, 0, none⟩), .agg #[.int .i64 d.v.f0, .int .i64 d.v.f1, .string d.v.f2], .int .i64 d.i, .agg #[.int .i64 d.x.f0, .int .i64 d.x.f1, .string d.x.f2]] (by rfl) rfl rfl (by (try simp only [List.map_toArray, List.map_cons, List.map_nil]); first | done | rfl) ?_
    refine (H7.out.put2 d.v d.x d.i R2.out).mono ?_
    rintro e w7 ⟨rfl, hb⟩
    refine ⟨_, rfl, ?_⟩
    have H8 := Aside0.mk hb
    clear hb
    refine hK.out _ _ (box11 (H8.out.blk (Or.inr (Or.inr rfl)) BD.out)) (fun hHeld => ?_)
    clear hK K
    refine norm_ (a' := ?_) ?_ ?_
    rotate_left
    · show Act.put _ (some 96) _ = _
      simp only [Act.put, List.setIfInBounds_toArray, List.set_cons_zero, List.set_cons_succ, i64_w, i32_w]
      rfl
    refine pure_ (i := 16) (N := some 97) (v := ?_) (a' := ?_) #[true, true, true, true, true, true, true, true, true, true, true, true, true, true, true, true, true, false] rfl rfl (any_of HT_.out (by kernel_rfl)) (fun _ _ _ h => h) (Or.inl ⟨by rfl, ?_⟩) ?_ ?_
    rotate_left
    · intro w'
      go_simp
      with_reducible rfl
    rotate_left
    · simp only [Act.put, List.setIfInBounds_toArray, List.set_cons_zero, List.set_cons_succ, i64_w, i32_w]
      rfl
    refine pure_ (i := 17) (N := some 9) (v := ?_) (a' := ?_) #[true, true, true, true, true, true, true, true, true, true, true, true, true, true, true, true, true, true] rfl rfl (any_of HT_.out (by kernel_rfl)) (fun _ _ _ h => h) (Or.inl ⟨by rfl, ?_⟩) ?_ ?_
    rotate_left
    · intro w'
      go_simp
      with_reducible rfl
    rotate_left
    · simp only [Act.put, List.setIfInBounds_toArray, List.set_cons_zero, List.set_cons_succ, i64_w, i32_w]
      rfl
    refine done_ (done_of HT_.out (by kernel_rfl)) ?_
    try simp only [Exit.inBlock, Exit.then]
    apply HREST.out
    exact H8.out
  have t3 : (d.k == 3) = false := by simpa using e3
  by_cases e4 : d.k = 4
  · have hdo : doD D d = (aPush D d.v d.x).1 := by unfold doD; simp [e4]
    rw [hdo] at HREST
    have t4 : (d.k == 4) = true := beq_iff_eq.mpr e4
    clear e4 hdo
    obtain ⟨k0, k1, k2, k3, k4, k5, k6, k7, k8, k9, k10⟩ := box11 BD.out
    go_wp2
    refine start_ (n := 14) (S := fun w' => w'.cell? ⟨W.heap.size, 0, none⟩ = some (.int .i64 d.k) ∧ w'.cell? ⟨W.heap.size, 1, none⟩ = some (.int .i64 d.v.f0) ∧ w'.cell? ⟨W.heap.size, 2, none⟩ = some (.int .i64 d.v.f1) ∧ w'.cell? ⟨W.heap.size, 3, none⟩ = some (.string d.v.f2) ∧ w'.cell? ⟨W.heap.size, 4, none⟩ = some (.int .i64 d.x.f0) ∧ w'.cell? ⟨W.heap.size, 5, none⟩ = some (.int .i64 d.x.f1) ∧ w'.cell? ⟨W.heap.size, 6, none⟩ = some (.string d.x.f2) ∧ w'.cell? ⟨W.heap.size, 7, none⟩ = some (.string d.nm) ∧ w'.cell? ⟨W.heap.size, 8, none⟩ = some (.int .i64 d.i) ∧ w'.cell? ⟨W.heap.size, 9, none⟩ = some (.slice d.nA d.ns.length d.nc) ∧ w'.cell? ⟨W.heap.size, 10, none⟩ = some (.slice d.lA d.l.length d.lc)) (ds := []) #[false, false, false, false, false, false, false, false, false, false, false, false, false, false] (by kernel_rfl) rfl rfl (box11 BD.out) (fun hHeld => ?_); refine with_tabW do14.tab do14.bits (fun HT_ HW_ => ?_)
    refine pure_ (i := 0) (N := some 100) (v := ?_) (a' := ?_) #[true, false, false, false, false, false, false, false, false, false, false, false, false, false] rfl rfl (any_of HT_.out (by kernel_rfl)) (fun _ _ _ h => h) (Or.inl ⟨by rfl, ?_⟩) ?_ ?_
    rotate_left
    · intro w'
      go_simp
      with_reducible rfl
    rotate_left
    · simp only [Act.put, List.setIfInBounds_toArray, List.set_cons_zero, List.set_cons_succ, i64_w, i32_w]
      rfl
    refine pure_ (i := 1) (N := some 101) (v := ?_) (a' := ?_) #[true, true, false, false, false, false, false, false, false, false, false, false, false, false] rfl rfl (any_of HT_.out (by kernel_rfl)) (fun _ _ _ h => h) (Or.inl ⟨by rfl, ?_⟩) ?_ ?_
    rotate_left
    · intro w'
      go_simp
      with_reducible rfl
    rotate_left
    · simp only [Act.put, List.setIfInBounds_toArray, List.set_cons_zero, List.set_cons_succ, i64_w, i32_w]
      rfl
    refine pure_ (i := 3) (N := some 103) (v := ?_) (a' := ?_) #[true, true, false, true, false, false, false, false, false, false, false, false, false, false] rfl rfl (any_of HT_.out (by kernel_rfl)) (fun _ _ _ h => h) (Or.inl ⟨by rfl, ?_⟩) ?_ ?_
    rotate_left
    · intro w'
      go_simp
      with_reducible rfl
    rotate_left
    · simp only [Act.put, List.setIfInBounds_toArray, List.set_cons_zero, List.set_cons_succ, i64_w, i32_w]
      rfl
    refine pure_ (i := 6) (N := some 106) (v := ?_) (a' := ?_) #[true, true, false, true, false, false, true, false, false, false, false, false, false, false] rfl rfl (any_of HT_.out (by kernel_rfl)) (fun _ _ _ h => h) (Or.inl ⟨by rfl, ?_⟩) ?_ ?_
    rotate_left
    · intro w'
      go_simp
      with_reducible rfl
    rotate_left
    · simp only [Act.put, List.setIfInBounds_toArray, List.set_cons_zero, List.set_cons_succ, i64_w, i32_w]
      rfl
    refine pure_ (i := 7) (N := some 107) (v := ?_) (a' := ?_) #[true, true, false, true, false, false, true, true, false, false, false, false, false, false] rfl rfl (any_of HT_.out (by kernel_rfl)) (fun _ _ _ h => h) (Or.inl ⟨by rfl, ?_⟩) ?_ ?_
    rotate_left
    · intro w'
      go_simp
      with_reducible rfl
    rotate_left
    · simp only [Act.put, List.setIfInBounds_toArray, List.set_cons_zero, List.set_cons_succ, i64_w, i32_w]
      rfl
    refine pure_ (i := 9) (N := some 109) (v := ?_) (a' := ?_) #[true, true, false, true, false, false, true, true, false, true, false, false, false, false] rfl rfl (any_of HT_.out (by kernel_rfl)) (fun _ _ _ h => h) (Or.inl ⟨by rfl, ?_⟩) ?_ ?_
    rotate_left
    · intro w'
      go_simp
      with_reducible rfl
    rotate_left
    · simp only [Act.put, List.setIfInBounds_toArray, List.set_cons_zero, List.set_cons_succ, i64_w, i32_w]
      rfl
    refine take_ (i := 2) (N := some 102) (v := ?_) (a' := ?_) #[true, true, true, true, false, false, true, true, false, true, false, false, false, false] rfl rfl (take_ofW HT_.out HW_.out (by kernel_rfl)) (fun _ _ _ h => h) (Or.inl ⟨by rfl, ?_⟩) hHeld ?_ ?_
    rotate_left
    · rintro w' ⟨s0, s1, s2, s3, s4, s5, s6, s7, s8, s9, s10⟩
      go_simp
      with_reducible rfl
    rotate_left
    · simp only [Act.put, List.setIfInBounds_toArray, List.set_cons_zero, List.set_cons_succ, i64_w, i32_w]
      rfl
    refine take_ (i := 4) (N := some 104) (v := ?_) (a' := ?_) #[true, true, true, true, true, false, true, true, false, true, false, false, false, false] rfl rfl (take_ofW HT_.out HW_.out (by kernel_rfl)) (fun _ _ _ h => h) (Or.inl ⟨by rfl, ?_⟩) hHeld ?_ ?_
    rotate_left
    · rintro w' ⟨s0, s1, s2, s3, s4, s5, s6, s7, s8, s9, s10⟩
      go_simp
      with_reducible rfl
    rotate_left
    · simp only [Act.put, List.setIfInBounds_toArray, List.set_cons_zero, List.set_cons_succ, i64_w, i32_w]
      rfl
    refine take_ (i := 8) (N := some 108) (v := ?_) (a' := ?_) #[true, true, true, true, true, false, true, true, true, true, false, false, false, false] rfl rfl (take_ofW HT_.out HW_.out (by kernel_rfl)) (fun _ _ _ h => h) (Or.inl ⟨by rfl, ?_⟩) hHeld ?_ ?_
    rotate_left
    · rintro w' ⟨s0, s1, s2, s3, s4, s5, s6, s7, s8, s9, s10⟩
      go_simp
      with_reducible rfl
    rotate_left
    · simp only [Act.put, List.setIfInBounds_toArray, List.set_cons_zero, List.set_cons_succ, i64_w, i32_w]
      rfl
    refine take_ (i := 10) (N := some 110) (v := ?_) (a' := ?_) #[true, true, true, true, true, false, true, true, true, true, true, false, false, false] rfl rfl (take_ofW HT_.out HW_.out (by kernel_rfl)) (fun _ _ _ h => h) (Or.inl ⟨by rfl, ?_⟩) hHeld ?_ ?_
    rotate_left
    · rintro w' ⟨s0, s1, s2, s3, s4, s5, s6, s7, s8, s9, s10⟩
      go_simp
      with_reducible rfl
    rotate_left
    · simp only [Act.put, List.setIfInBounds_toArray, List.set_cons_zero, List.set_cons_succ, i64_w, i32_w]
      rfl
    refine one_ (i := 5) (N := some 105) #[true, true, true, true, true, true, true, true, true, true, true, false, false, false] rfl rfl (one_of HT_.out (by kernel_rfl)) (by decide) (fun K hK => ?_)
    refine goes_ Tryd.func17 (by kernel_rfl) rfl #[.pointer (some ⟨p, 0, none⟩), .agg #[.int .i64 d.v.f0, .int .i64 d.v.f1, .string d.v.f2], .agg #[.int .i64 d.x.f0, .int .i64 d.x.f1, .string d.x.f2]] (by rfl) rfl rfl (by (try simp only [List.map_toArray, List.map_cons, List.map_nil]); first | done | rfl) ?_
    refine (H6.out.push1 d.v d.x R2.out).mono ?_
    rintro e w6 ⟨rfl, hb⟩
    refine ⟨_, rfl, ?_⟩
    have H7 := Aside0.mk hb
    clear hb
    refine hK.out _ _ (box11 (H7.out.blk (Or.inr (Or.inr rfl)) BD.out)) (fun hHeld => ?_)
    clear hK K
    refine norm_ (a' := ?_) ?_ ?_
    rotate_left
    · show Act.put _ (some 105) _ = _
      simp only [Act.put, List.setIfInBounds_toArray, List.set_cons_zero, List.set_cons_succ, i64_w, i32_w]
      rfl
    refine one_ (i := 11) (N := some 111) #[true, true, true, true, true, true, true, true, true, true, true, true, false, false] rfl rfl (one_of HT_.out (by kernel_rfl)) (by decide) (fun K hK => ?_)
    refine goes_ Tryd.func28 (by kernel_rfl) rfl #[.pointer (some ⟨q, 0, none⟩), .agg #[.int .i64 d.v.f0, .int .i64 d.v.f1, .string d.v.f2], .agg #[.int .i64 d.x.f0, .int .i64 d.x.f1, .string d.x.f2]] (by rfl) rfl rfl (by (try simp only [List.map_toArray, List.map_cons, List.map_nil]); first | done | rfl) ?_
    refine (H7.out.push2 d.v d.x R2.out).mono ?_
    rintro e w7 ⟨rfl, hb⟩
    refine ⟨_, rfl, ?_⟩
    have H8 := Aside0.mk hb
    clear hb
    refine hK.out _ _ (box11 (H8.out.blk (Or.inr (Or.inr rfl)) BD.out)) (fun hHeld => ?_)
    clear hK K
    refine norm_ (a' := ?_) ?_ ?_
    rotate_left
    · show Act.put _ (some 111) _ = _
      simp only [Act.put, List.setIfInBounds_toArray, List.set_cons_zero, List.set_cons_succ, i64_w, i32_w]
      rfl
    refine pure_ (i := 12) (N := some 112) (v := ?_) (a' := ?_) #[true, true, true, true, true, true, true, true, true, true, true, true, true, false] rfl rfl (any_of HT_.out (by kernel_rfl)) (fun _ _ _ h => h) (Or.inl ⟨by rfl, ?_⟩) ?_ ?_
    rotate_left
    · intro w'
      go_simp
      with_reducible rfl
    rotate_left
    · simp only [Act.put, List.setIfInBounds_toArray, List.set_cons_zero, List.set_cons_succ, i64_w, i32_w]
      rfl
    refine pure_ (i := 13) (N := some 9) (v := ?_) (a' := ?_) #[true, true, true, true, true, true, true, true, true, true, true, true, true, true] rfl rfl (any_of HT_.out (by kernel_rfl)) (fun _ _ _ h => h) (Or.inl ⟨by rfl, ?_⟩) ?_ ?_
    rotate_left
    · intro w'
      go_simp
      with_reducible rfl
    rotate_left
    · simp only [Act.put, List.setIfInBounds_toArray, List.set_cons_zero, List.set_cons_succ, i64_w, i32_w]
      rfl
    refine done_ (done_of HT_.out (by kernel_rfl)) ?_
    try simp only [Exit.inBlock, Exit.then]
    apply HREST.out
    exact H8.out
  have t4 : (d.k == 4) = false := by simpa using e4
  have hdo : doD D d = D := by unfold doD; simp [e0, e1, e2, e3, e4]
  rw [hdo] at HREST
  clear e0 e1 e2 e3 e4 hdo
  obtain ⟨k0, k1, k2, k3, k4, k5, k6, k7, k8, k9, k10⟩ := box11 BD.out
  go_wp2
  try simp only [Exit.inBlock, Exit.then]
  apply HREST.out
  exact H5.out
end Go.Proofs.YtjbolkkbehfnmaaDoor.Val
namespace Go.Proofs.YtjbolkkbehfnmaaDoor.Val
open Go.RowKit Go.Proofs.YtjbolkkbehfnmaaDoor.PVal Go.Proofs.YtjbolkkbehfnmaaDoorW.PrintWords Go.Proofs.YtjbolkkbehfnmaaDoorW.PrintLast Go.Proofs.YtjbolkkbehfnmaaDoorW.PrintMore
set_option linter.unusedVariables false
set_option linter.unusedSimpArgs false
instance : Inhabited Deed := ⟨⟨0, z32, z32, ⟨#[]⟩, 0, none, 0, [], none, 0, []⟩⟩
/-- The deeds' row: at each place the deed's eleven cells. -/
structure Deeds (w : World) (A : Option Addr) (n : Nat) (ds : List Deed) : Prop where
  len : ds.length = n
  at_ : ∀ i : Nat, i < n → ∃ ad, A = some ad ∧ ∀ j u, (deedC (ds.getD i default))[j]? = some u → w.cell? (ad.add (i * 11 + j)) = some u
  ok : ∀ d, d ∈ ds → DeedOk w d ∧ d.l.length ≤ d.lc
theorem Deeds.below {w W : World} {A : Option Addr} {n : Nat} {ds : List Deed} (h : Deeds w A n ds) (hb : Below w.heap.size w W) : Deeds W A n ds :=
  ⟨h.len, fun i hi => by
    obtain ⟨ad, e, hc⟩ := h.at_ i hi
    exact ⟨ad, e, fun j u hu => (Chg.of_below (O := No) hb).cell (hc j u hu) (fun h => h)⟩, fun d hd => ⟨(h.ok d hd).1.below hb, (h.ok d hd).2⟩⟩
/-- A deed's cells, in the walk's form. -/
theorem Deeds.cells {w : World} {ad : Addr} {n : Nat} {ds : List Deed} (h : Deeds w (some ad) n ds) (i : Nat) (hi : i < n) : ∃ d, d = ds.getD i default ∧ d ∈ ds ∧ w.cell? (ad.add (i * 11)) = some (.int .i64 d.k) ∧ w.cell? ⟨(ad.add (i * 11)).block, (ad.add (i * 11)).off + 1, none⟩ = some (.int .i64 d.v.f0) ∧ w.cell? ⟨(ad.add (i * 11)).block, (ad.add (i * 11)).off + 2, none⟩ = some (.int .i64 d.v.f1) ∧ w.cell? ⟨(ad.add (i * 11)).block, (ad.add (i * 11)).off + 3, none⟩ = some (.string d.v.f2) ∧ w.cell? ⟨(ad.add (i * 11)).block, (ad.add (i * 11)).off + 4, none⟩ = some (.int .i64 d.x.f0) ∧ w.cell? ⟨(ad.add (i * 11)).block, (ad.add (i * 11)).off + 5, none⟩ = some (.int .i64 d.x.f1) ∧ w.cell? ⟨(ad.add (i * 11)).block, (ad.add (i * 11)).off + 6, none⟩ = some (.string d.x.f2) ∧ w.cell? ⟨(ad.add (i * 11)).block, (ad.add (i * 11)).off + 7, none⟩ = some (.string d.nm) ∧ w.cell? ⟨(ad.add (i * 11)).block, (ad.add (i * 11)).off + 8, none⟩ = some (.int .i64 d.i) ∧ w.cell? ⟨(ad.add (i * 11)).block, (ad.add (i * 11)).off + 9, none⟩ = some (.slice d.nA d.ns.length d.nc) ∧ w.cell? ⟨(ad.add (i * 11)).block, (ad.add (i * 11)).off + 10, none⟩ = some (.slice d.lA d.l.length d.lc) := by
  obtain ⟨ad', e, hc⟩ := h.at_ i hi
  cases e
  have hm : ds.getD i default ∈ ds := by
    have hl : i < ds.length := by rw [h.len]; exact hi
    rw [List.getD_eq_getElem?_getD, List.getElem?_eq_getElem hl]
    exact List.getElem_mem hl
  refine ⟨_, rfl, hm, ?_⟩
  have f : ∀ j u, (deedC (ds.getD i default))[j]? = some u → w.cell? ⟨(ad.add (i * 11)).block, (ad.add (i * 11)).off + j, none⟩ = some u ∨ j = 0 := by
    intro j u hu
    by_cases e : j = 0
    · exact Or.inr e
    · refine Or.inl ?_
      rw [← add_field ad (i * 11) j (by omega)]
      exact hc j u hu
  refine ⟨hc 0 _ rfl, (f 1 _ rfl).resolve_right (by decide), (f 2 _ rfl).resolve_right (by decide), (f 3 _ rfl).resolve_right (by decide), (f 4 _ rfl).resolve_right (by decide), (f 5 _ rfl).resolve_right (by decide), (f 6 _ rfl).resolve_right (by decide), (f 7 _ rfl).resolve_right (by decide), (f 8 _ rfl).resolve_right (by decide), (f 9 _ rfl).resolve_right (by decide), (f 10 _ rfl).resolve_right (by decide)⟩
theorem Room.set {D : List Th} {N : Nat} (h : Room D N) (i : Nat) (t : Th) (ht : match t with | .arr l => l.length ≤ N + 1 | .obj kv => kv.length ≤ N + 1) : Room (D.set i t) (N + 1) := by
  refine ⟨by rw [List.length_set]; exact Nat.le_succ_of_le h.1, fun t' hm => ?_⟩
  rcases List.mem_or_eq_of_mem_set hm with hm | rfl
  · have := h.2 t' hm
    cases t' <;> exact Nat.le_succ_of_le this
  · exact ht
theorem Room.succ {D : List Th} {N : Nat} (h : Room D N) : Room D (N + 1) := ⟨Nat.le_succ_of_le h.1, fun t' hm => by
    have := h.2 t' hm
    cases t' <;> exact Nat.le_succ_of_le this⟩
theorem Room.app {D : List Th} {N : Nat} (h : Room D N) (t : Th) (ht : match t with | .arr l => l.length ≤ N + 1 | .obj kv => kv.length ≤ N + 1) : Room (D ++ [t]) (N + 1) := by
  refine ⟨by rw [List.length_append]; exact Nat.succ_le_succ h.1, fun t' hm => ?_⟩
  rcases List.mem_append.1 hm with hm | hm
  · have := h.2 t' hm
    cases t' <;> exact Nat.le_succ_of_le this
  · rw [List.mem_singleton.1 hm]
    exact ht
theorem Room.doD {D : List Th} {N : Nat} (h : Room D N) (d : Deed) (h1 : d.l.length ≤ N) (h2 : d.ns.length ≤ N) : Room (doD D d) (N + 1) := by
  unfold Val.doD
  split
  · exact h.app _ (Nat.le_succ_of_le h1)
  · split
    · exact h.app _ (Nat.le_succ_of_le (Nat.le_trans (kvFold_len d.ns d.l) h2))
    · split
      · unfold oSet
        cases hl : objAt D d.v with
        | none => exact h.succ
        | some kv =>
          have hk := h.2 _ (List.mem_of_getElem? (objAt_some hl).2.2.2)
          exact h.set _ _ (Nat.le_trans (kvPut_len kv d.nm d.x) (Nat.succ_le_succ hk))
      · split
        · unfold aPut
          cases hl : arrAt D d.v with
          | none => exact h.succ
          | some l =>
            have hk := h.arr hl
            dsimp only
            split
            · split
              · exact h.set _ _ (by simp only [List.length_append, List.length_cons, List.length_nil]; omega)
              · exact h.set _ _ (by simp only [List.length_set]; omega)
            · exact h.succ
        · split
          · unfold aPush
            cases hl : arrAt D d.v with
            | none => exact h.succ
            | some l =>
              have hk := h.arr hl
              exact h.set _ _ (by simp only [List.length_append, List.length_cons, List.length_nil]; omega)
          · exact h.succ
def runD (ds : List Deed) (i : Nat) : List Th := (ds.take i).foldl doD []
theorem runD_succ (ds : List Deed) (i : Nat) (hi : i < ds.length) : runD ds (i + 1) = doD (runD ds i) (ds.getD i default) := by
  unfold runD
  rw [List.take_add_one, List.foldl_append, List.getElem?_eq_getElem hi, List.getD_eq_getElem?_getD, List.getElem?_eq_getElem hi]
  rfl
theorem runD_room (ds : List Deed) (h : ∀ d, d ∈ ds → d.l.length ≤ 1048576 ∧ d.ns.length ≤ 1048576) : ∀ i, i ≤ ds.length → Room (runD ds i) (1048576 + i)
  | 0, _ => ⟨Nat.zero_le _, fun t ht => by simp [runD] at ht⟩
  | i + 1, hi => by
    rw [runD_succ ds i hi]
    have hm : ds.getD i default ∈ ds := by
      rw [List.getD_eq_getElem?_getD, List.getElem?_eq_getElem hi]
      exact List.getElem_mem hi
    have h2 := h _ hm
    exact (runD_room ds h i (by omega)).doD _ (by omega) (by omega)
theorem both_new (w : World) : Both w No No w w.heap.size (w.heap.size + 1) ((w.alloc (.cells #[.slice none 0 0] 52)).alloc (.cells #[.slice none 0 0] 28)) [] [] := by
  refine ⟨fun k => k = w.heap.size, fun k => k = w.heap.size + 1, (Has.new w w (Below.refl _ _)).below (below_alloc (Below.refl _ _) _), ?_, fun k h1 h2 => by omega, below_alloc (below_alloc (Below.refl _ _) _) _, fun k hk => hk.elim, fun k hk => hk.elim⟩
  have h := HasG.new w.heap.size (w.alloc (.cells #[.slice none 0 0] 52)) (by simp)
  rw [show (w.alloc (.cells #[.slice none 0 0] 52)).heap.size = w.heap.size + 1 by simp] at h
  exact h
set_option maxHeartbeats 8000000 in
set_option maxRecDepth 100000 in
theorem heaps_calls {w : World} [GW w] {A : Option Addr} {c : Nat} {ds : List Deed} (hD : Deeds w A ds.length ds) (hl : ds.length ≤ 1048576) :
    Calls Tryd.prog 3 #[.slice A ds.length c] w fun e w' => e = .returned (.bool true) ∧ Below w.heap.size w w' := by
  have HD := Aside0.mk hD
  have HRM := Aside0.mk (runD_room ds (fun d hd => ⟨(hD.ok d hd).1.cl, (hD.ok d hd).1.nl⟩))
  clear hD
  have hsz : (w.alloc (.cells #[.slice none 0 0] 52)).heap.size = w.heap.size + 1 := by simp
  go_enter Tryd.func3, Tryd.ntmps3
  go_wp2_with (first
    | (go_at_call 6; refine (new_calls _).mono ?_; rintro e w' ⟨rfl, rfl⟩)
    | (go_at_call 7; refine hold_ ?_))
  unfold Held
  haveI : GW ((w.alloc (.cells #[.slice none 0 0] 52)).alloc (.cells #[.slice none 0 0] 28)) := GW.of (below_alloc (below_alloc (Below.refl w.heap.size w) (.cells #[.slice none 0 0] 52)) (.cells #[.slice none 0 0] 28))
  refine (awake_calls _).mono ?_
  rintro e w3 ⟨rfl, hb⟩
  have HB := Aside0.mk ((both_new w).below hb)
  clear hb hsz
  go_wp2
  all_goals
    go_loopw [5] (fun v5 wr => ∃ i : Nat, v5 = .int .i64 i ∧ i ≤ ds.length ∧ Both w No No w w.heap.size (w.heap.size + 1) wr (runD ds i) (runD ds i)) (fun v5 _ => ds.length - (intOf v5).toNat)
    case atStart => exact ⟨0, rfl, Nat.zero_le _, HB.out⟩
    case round =>
      obtain ⟨i, rfl, hi, hb⟩ := hrel
      clear HB
      have HB := Aside0.mk hb
      clear hb
      by_cases hlt : i < ds.length
      · have d1 : decide ((i : Int) < (ds.length : Int)) = true := by simp; omega
        have d1' : ((i : Int) < (ds.length : Int)) = True := eq_true (by omega)
        obtain ⟨ad, eA, _⟩ := HD.out.at_ i hlt
        subst eA
        obtain ⟨d, ed, hm, k0, k1, k2, k3, k4, k5, k6, k7, k8, k9, k10⟩ := (HD.out.below HB.out.bel).cells i hlt
        haveI := GW.of HB.out.bel
        have ED := Aside0.mk (And.intro ed hm)
        clear ed hm
        have hsd := HD.out.ok d ED.out.2
        have HDO := Aside0.mk (do_calls HB.out d hsd.1 (by
          have h_ := HRM.out i (by omega)
          exact ⟨Nat.le_trans h_.1 (by omega), fun t ht => by
            have h2 := h_.2 t ht
            cases t <;> exact Nat.le_trans h2 (by omega)⟩) hsd.2)
        clear hsd
        go_wp2_with (go_at_call 8; refine hold_ ?_)
        unfold Held
        refine HDO.out.mono ?_
        rintro e w4 ⟨rfl, hb4⟩
        rw [ED.out.1, ← runD_succ ds i hlt] at hb4
        have HB4 := Aside0.mk hb4
        clear hb4 HDO k0 k1 k2 k3 k4 k5 k6 k7 k8 k9 k10
        obtain ⟨d2, ed2, _, k0, k1, k2, k3, k4, k5, k6, k7, k8, k9, k10⟩ := (HD.out.below HB4.out.bel).cells i hlt
        obtain rfl : d2 = d := ed2.trans ED.out.1.symm
        clear ed2
        haveI := GW.of HB4.out.bel
        go_wp2_with (go_at_call 9; refine hold_ ?_)
        unfold Held
        refine (HB4.out.look d2).mono ?_
        rintro e w5 ⟨rfl, hb5⟩
        have HB5 := Aside0.mk hb5
        clear hb5 k0 k1 k2 k3 k4 k5 k6 k7 k8 k9 k10
        have hl2 : ds.length ≤ 9223372036854775807 := by omega
        go_wp2
        go_roundw
        case rel => exact ⟨i + 1, by go_num, by omega, HB5.out⟩
        case measure => (simp [intOf] <;> try omega)
      · have d1 : decide ((i : Int) < (ds.length : Int)) = false := by simp; omega
        obtain rfl : i = ds.length := by omega

        go_wp2
        go_loopw [6] (fun v6 ws => ∃ i : Nat, v6 = .int .i64 i ∧ i ≤ ds.length ∧ Both w No No w w.heap.size (w.heap.size + 1) ws (runD ds ds.length) (runD ds ds.length)) (fun v6 _ => ds.length - (intOf v6).toNat)
        case atStart => exact ⟨0, rfl, Nat.zero_le _, HB.out⟩
        case round =>
          obtain ⟨i2, rfl, hi, hb⟩ := hrel
          clear HB
          have HB := Aside0.mk hb
          clear hb
          by_cases hlt : i2 < ds.length
          · have d1 : decide ((i2 : Int) < (ds.length : Int)) = true := by simp; omega
            have d1' : ((i2 : Int) < (ds.length : Int)) = True := eq_true (by omega)
            obtain ⟨ad, eA, _⟩ := HD.out.at_ i2 hlt
            subst eA
            obtain ⟨d, ed, _, k0, k1, k2, k3, k4, k5, k6, k7, k8, k9, k10⟩ := (HD.out.below HB.out.bel).cells i2 hlt
            haveI := GW.of HB.out.bel
            clear ed
            go_wp2_with (go_at_call 9; refine hold_ ?_)
            unfold Held
            refine (HB.out.look d).mono ?_
            rintro e w4 ⟨rfl, hb4⟩
            have HB4 := Aside0.mk hb4
            clear hb4 k0 k1 k2 k3 k4 k5 k6 k7 k8 k9 k10
            have hl2 : ds.length ≤ 9223372036854775807 := by omega
            go_wp2
            go_roundw
            case rel => exact ⟨i2 + 1, by go_num, by omega, HB4.out⟩
            case measure => (simp [intOf] <;> try omega)
          · have d1 : decide ((i2 : Int) < (ds.length : Int)) = false := by simp; omega
            go_wp2
            go_ret
            exact ⟨rfl, HB.out.bel⟩
end Go.Proofs.YtjbolkkbehfnmaaDoor.Val
