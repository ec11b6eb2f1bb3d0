/- The heap's contracts with their answers given, for ValueApart; what a lookup tells of its things. -/
import Derived.Test.YtjbolkkbehfnmaaDoorVW
import Derived.Test.YtjbolkkbehfnmaaDoorPValx6
namespace Go.Proofs.YtjbolkkbehfnmaaDoor.Val
open Go.RowKit Go.Proofs.YtjbolkkbehfnmaaDoor.PVal Go.Proofs.YtjbolkkbehfnmaaDoorW.PrintWords Go.Proofs.YtjbolkkbehfnmaaDoorW.PrintLast Go.Proofs.YtjbolkkbehfnmaaDoorW.PrintMore
set_option linter.unusedVariables false
set_option linter.unusedSimpArgs false
section
variable {B : Nat} {W : World} {O : Nat → Prop} {p : Nat} {D D' : List Th}
theorem Has.arrE (h : Has B W O p D) {A : Option Addr} {c : Nat} {l : List S32} (hC : k32.C W A l.length l) (hc : l.length ≤ c) (hmax : l.length < 1000000000000) (hlen : D.length < 1000000000000) (i : Int) (hi : (D.length : Int) = i) (hD : D ++ [.arr l] = D') :
    Calls Tryd.prog 12 #[.pointer (some ⟨p, 0, none⟩), .slice A l.length c] W fun e w' => e = .returned (.agg #[.int .i64 5, .int .i64 i, .string ⟨#[]⟩]) ∧ ∃ O', Has B w' O' p D' ∧ (∀ k, k < W.heap.size → ¬ O k → ¬ O' k) ∧ Chg O W w' := by
  subst hi
  subst hD
  exact h.arr hC hc hmax hlen
theorem Has.objE (h : Has B W O p D) {A A2 : Option Addr} {c d n m : Nat} {ns : List ByteArray} {l : List S32} (hN : Kd.string.C W A ns.length ns) (hC : k32.C W A2 l.length l) (hn : ns.length = n) (hm : l.length = m) (hmax : l.length < 1000000000000) (hmax2 : ns.length < 1000000000000) (hlen : D.length < 1000000000000) (i : Int) (hi : (D.length : Int) = i) (hD : D ++ [.obj (kvFold ns l)] = D') :
    Calls Tryd.prog 13 #[.pointer (some ⟨p, 0, none⟩), .slice A n c, .slice A2 m d] W fun e w' => e = .returned (.agg #[.int .i64 6, .int .i64 i, .string ⟨#[]⟩]) ∧ ∃ O', Has B w' O' p D' ∧ (∀ k, k < W.heap.size → ¬ O k → ¬ O' k) ∧ Chg O W w' := by
  subst hi
  subst hD
  subst hn
  subst hm
  exact h.obj hN hC hmax hmax2 hlen
theorem Has.pushE (h : Has B W O p D) (x y : S32) (hR : Room D 100000000000) (r : Bool) (hD : aPush D x y = (D', r)) :
    Calls Tryd.prog 17 #[.pointer (some ⟨p, 0, none⟩), .agg #[.int .i64 x.f0, .int .i64 x.f1, .string x.f2], .agg #[.int .i64 y.f0, .int .i64 y.f1, .string y.f2]] W fun e w' => e = .returned (.bool r) ∧ ∃ O', Has B w' O' p D' ∧ (∀ k, k < W.heap.size → ¬ O k → ¬ O' k) ∧ Chg O W w' := by
  have := h.push x y hR
  rw [hD] at this
  exact this
theorem Has.setE (h : Has B W O p D) (x y : S32) (n : ByteArray) (r : Bool) (hD : oSet D x n y = (D', r)) :
    Calls Tryd.prog 15 #[.pointer (some ⟨p, 0, none⟩), .agg #[.int .i64 x.f0, .int .i64 x.f1, .string x.f2], .string n, .agg #[.int .i64 y.f0, .int .i64 y.f1, .string y.f2]] W fun e w' => e = .returned (.bool r) ∧ ∃ O', Has B w' O' p D' ∧ (∀ k, k < W.heap.size → ¬ O k → ¬ O' k) ∧ Chg O W w' := by
  have := h.set x y n
  rw [hD] at this
  exact this
theorem Has.atE (h : Has B W O p D) (x : S32) (i : Int) (y : S32) (r : Bool) (hD : aAt D x i = (y, r)) :
    Calls Tryd.prog 11 #[.pointer (some ⟨p, 0, none⟩), .agg #[.int .i64 x.f0, .int .i64 x.f1, .string x.f2], .int .i64 i] W fun e w' => e = .returned (.tuple #[.agg #[.int .i64 y.f0, .int .i64 y.f1, .string y.f2], .bool r]) ∧ Below W.heap.size W w' := by
  have := h.at x i
  rw [hD] at this
  exact this
theorem Has.getE (h : Has B W O p D) (x : S32) (n : ByteArray) (y : S32) (r : Bool) (hD : oGet D x n = (y, r)) :
    Calls Tryd.prog 10 #[.pointer (some ⟨p, 0, none⟩), .agg #[.int .i64 x.f0, .int .i64 x.f1, .string x.f2], .string n] W fun e w' => e = .returned (.tuple #[.agg #[.int .i64 y.f0, .int .i64 y.f1, .string y.f2], .bool r]) ∧ Below W.heap.size W w' := by
  have := h.get x n
  rw [hD] at this
  exact this
theorem Has.lenE (h : Has B W O p D) (x : S32) (n : Int) (hD : aLen D x = n) :
    Calls Tryd.prog 14 #[.pointer (some ⟨p, 0, none⟩), .agg #[.int .i64 x.f0, .int .i64 x.f1, .string x.f2]] W fun e w' => e = .returned (.int .i64 n) ∧ Below W.heap.size W w' := by
  have := h.len x
  rw [hD] at this
  exact this
end
def a0 : S32 := ⟨5, 0, ⟨#[]⟩⟩
def a1 : S32 := ⟨5, 1, ⟨#[]⟩⟩
def p2 : S32 := ⟨6, 2, ⟨#[]⟩⟩
def q3 : S32 := ⟨6, 3, ⟨#[]⟩⟩
section
variable (l m : List S32) (P Q : List (ByteArray × S32)) (x : S32) (n : ByteArray)
theorem push_a0 : aPush [.arr l, .arr m, .obj P, .obj Q] a0 x = ([.arr (l ++ [x]), .arr m, .obj P, .obj Q], true) := rfl
theorem push_p2 : aPush [.arr l, .arr m, .obj P, .obj Q] p2 x = ([.arr l, .arr m, .obj P, .obj Q], false) := rfl
theorem set_p2 : oSet [.arr l, .arr m, .obj P, .obj Q] p2 n x = ([.arr l, .arr m, .obj (kvPut P n x), .obj Q], true) := rfl
theorem set_a0 : oSet [.arr l, .arr m, .obj P, .obj Q] a0 n x = ([.arr l, .arr m, .obj P, .obj Q], false) := rfl
theorem at_a0 (i : Int) (h0 : 0 ≤ i) (h1 : i < (l.length : Int)) : aAt [.arr l, .arr m, .obj P, .obj Q] a0 i = (rd_T32 l i, true) := by
  show (if 0 ≤ i ∧ i < (l.length : Int) then (rd_T32 l i, true) else (z32, false)) = _
  rw [if_pos ⟨h0, h1⟩]
theorem at_a1 (i : Int) (h1 : (m.length : Int) ≤ i) : aAt [.arr l, .arr m, .obj P, .obj Q] a1 i = (z32, false) := by
  show (if 0 ≤ i ∧ i < (m.length : Int) then (rd_T32 m i, true) else (z32, false)) = _
  rw [if_neg (by omega)]
theorem get_p2 : oGet [.arr l, .arr m, .obj P, .obj Q] p2 n = ((kvGet P n).getD z32, (kvGet P n).isSome) := rfl
theorem get_q3 : oGet [.arr l, .arr m, .obj P, .obj Q] q3 n = ((kvGet Q n).getD z32, (kvGet Q n).isSome) := rfl
theorem get_a0 : oGet [.arr l, .arr m, .obj P, .obj Q] a0 n = (z32, false) := rfl
theorem len_a0 : aLen [.arr l, .arr m, .obj P, .obj Q] a0 = (l.length : Int) := rfl
theorem len_a1 : aLen [.arr l, .arr m, .obj P, .obj Q] a1 = (m.length : Int) := rfl
theorem len_p2 : aLen [.arr l, .arr m, .obj P, .obj Q] p2 = 0 := rfl
theorem room4 (hl : l.length ≤ 1048577) (hm : m.length ≤ 1048577) (hP : P.length ≤ 1048577) (hQ : Q.length ≤ 1048577) : Room [.arr l, .arr m, .obj P, .obj Q] 100000000000 := by
  refine ⟨by simp, fun t ht => ?_⟩
  simp only [List.mem_cons, List.mem_nil_iff, or_false] at ht
  rcases ht with rfl | rfl | rfl | rfl <;> simp <;> omega
theorem fold_one : kvFold [n] l = match l with | [] => [] | y :: _ => [(n, y)] := by
  cases l <;> rfl
theorem fold_len : (kvFold [n] l).length ≤ 1 := by
  rw [fold_one]
  cases l <;> simp
theorem get_one : kvGet [(n, x)] n = some x := by
  unfold kvGet
  rw [if_pos rfl]
theorem fold_nil (h : l.length = 0) : kvGet (kvFold [n] l) n = none := by
  cases l with
  | nil => rfl
  | cons a r => simp at h
theorem fold_cons (h : 0 < l.length) : kvGet (kvFold [n] l) n = some (rd_T32 l 0) := by
  cases l with
  | nil => simp at h
  | cons a r => rw [fold_one]; exact get_one a n
theorem rd_new : rd_T32 (l ++ [x]) (l.length : Int) = x := by
  unfold rd_T32
  simp
theorem rd_old (i : Nat) (h : i < l.length) : rd_T32 (l ++ [x]) (i : Int) = rd_T32 l (i : Int) := by
  unfold rd_T32
  simp [List.getElem?_append_left h]
end
end Go.Proofs.YtjbolkkbehfnmaaDoor.Val
