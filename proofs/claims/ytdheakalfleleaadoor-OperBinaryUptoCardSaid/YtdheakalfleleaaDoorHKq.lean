/- HK, as this claim needs it. -/
import Derived.Test.YtdheakalfleleaaDoorHBq
import Derived.Lib.EndianBits
import Derived.Lib.ItoaLen
import Derived.Test.YtdheakalfleleaaDoorPOperx17q
import Derived.Test.YtdheakalfleleaaDoorPOperx10q
import Derived.Test.YtdheakalfleleaaDoorPOperx16q
import Derived.Test.YtdheakalfleleaaDoorPOperx3q
import Derived.Test.YtdheakalfleleaaDoorHGq
import Derived.Test.YtdheakalfleleaaDoorPOperx18q
import Derived.Test.YtdheakalfleleaaDoorHFq
namespace Go.Proofs.YtdheakalfleleaaDoor.Val
open Go.RowKit Go.Proofs.YtdheakalfleleaaDoor.POper Go.Proofs.YtdheakalfleleaaDoorW.PrintWords Go.Proofs.YtdheakalfleleaaDoorW.PrintLast Go.Proofs.YtdheakalfleleaaDoorW.PrintMore
set_option linter.unusedVariables false
set_option linter.unusedSimpArgs false
def B (l : List UInt8) : ByteArray := ⟨l.toArray⟩
theorem B_size (l : List UInt8) : (B l).size = l.length := by show l.toArray.size = _; simp
theorem B_app (l m : List UInt8) : B l ++ B m = B (l ++ m) := by
  apply ByteArray.ext
  apply Array.toList_inj.1
  rw [ByteArray.data_append, Array.toList_append]
  rfl
theorem num_one : ∀ d : Nat, d < 10 → strOfNums [((48 + d : Nat) : Int)] = B [UInt8.ofNat (48 + d)] := by decide +kernel
def dd (u : Nat) : List UInt8 := if u = 0 then [] else Lib.decDigits u
theorem dd_step (u : Nat) (h : u ≠ 0) : dd u = dd (u / 10) ++ [UInt8.ofNat (48 + u % 10)] := by
  unfold dd
  rw [if_neg h, Lib.decDigits]
  by_cases hu : u < 10
  · rw [dif_pos hu, if_pos (by omega), Nat.mod_eq_of_lt hu]
    rfl
  · rw [dif_neg hu, if_neg (by omega)]
theorem print_l (s : List UInt8) (hs : s.length ≤ 1) : ∀ (m u : Nat) (acc : List UInt8), u < 10 ^ m → u < 18446744073709551616 → acc.length + m ≤ 40 →
    gussetref23_Print.l0 (m + 1) (u : Int) (B s) (B acc) = some (B (s ++ dd u ++ acc)) ∧ (dd u).length ≤ m := by
  intro m
  induction m with
  | zero =>
    intro u acc hu _ ha
    have h0 : u = 0 := by simpa using hu
    subst h0
    refine ⟨?_, by simp [dd]⟩
    rw [gussetref23_Print.l0, if_neg (by decide), if_pos (by rw [B_size, B_size]; omega), B_app]
    simp [dd]
  | succ m ih =>
    intro u acc hu hu2 ha
    by_cases h0 : u = 0
    · subst h0
      refine ⟨?_, by simp [dd]⟩
      rw [gussetref23_Print.l0, if_neg (by decide), if_pos (by rw [B_size, B_size]; omega), B_app]
      simp [dd]
    · have h1 : (IntKind.u64.wrap (48 + (Int.tmod (u : Int) 10))) % 256 = ((48 + u % 10 : Nat) : Int) := by
        rw [Int.tmod_eq_emod_of_nonneg (by omega), wraps_u64 _ (by omega) (by omega)]
        omega
      have h2 : IntKind.u64.wrap (Int.tdiv (u : Int) 10) = ((u / 10 : Nat) : Int) := by
        rw [Int.tdiv_eq_ediv_of_nonneg (by omega), wraps_u64 _ (by omega) (by omega)]
        omega
      have hs1 := num_one (u % 10) (by omega)
      obtain ⟨q1, q2⟩ := ih (u / 10) ([UInt8.ofNat (48 + u % 10)] ++ acc) (by rw [Nat.pow_succ] at hu; omega) (by omega) (by simp only [List.length_append, List.length_cons, List.length_nil]; omega)
      refine ⟨?_, by rw [dd_step u h0]; simp only [List.length_append, List.length_cons, List.length_nil]; omega⟩
      rw [gussetref23_Print.l0, if_pos (by omega), Option.bind_some, h1, h2, hs1, if_pos (by rw [B_size, B_size]; simp only [List.length_cons, List.length_nil]; omega), B_app, q1, dd_step u h0]
      simp
theorem print_eq (n : Int) (hl : -9223372036854775808 ≤ n) (hu : n ≤ 9223372036854775807) : gussetref23_Print.f 22 n = some ⟨(Lib.itoa n).toArray⟩ := by
  unfold gussetref23_Print.f
  by_cases h0 : n = 0
  · rw [if_pos h0]
    subst h0
    kernel_rfl
  rw [if_neg h0]
  by_cases h1 : n < 0
  · rw [if_pos h1]
    have e : IntKind.u64.wrap (-(IntKind.u64.wrap n)) = ((n.natAbs : Nat) : Int) := by
      rw [IntKind.wrap_u64, IntKind.wrap_u64]
      omega
    rw [e, gussetref23_Print.j0]
    have := (print_l [45] (by simp) 20 n.natAbs [] (by omega) (by omega) (by simp)).1
    refine this.trans ?_
    unfold Lib.itoa dd
    rw [if_pos h1, if_neg (by omega)]
    simp [B]
  · rw [if_neg h1]
    have e : IntKind.u64.wrap n = ((n.toNat : Nat) : Int) := by
      rw [IntKind.wrap_u64]
      omega
    rw [e, gussetref23_Print.j0]
    have := (print_l [] (by simp) 20 n.toNat [] (by omega) (by omega) (by simp)).1
    refine this.trans ?_
    unfold Lib.itoa dd
    rw [if_neg h1, if_neg (by omega)]
    simp [B]
theorem text_p (x : S23) (hl : -9223372036854775808 ≤ x.f1) (hu : x.f1 ≤ 9223372036854775807) : gussetref23_Text.f 22 x.f0 x.f1 x.f2 = some (textV x) := by
  obtain ⟨a, b, s⟩ := x
  simp only at hl hu ⊢
  unfold gussetref23_Text.f textV
  simp only
  by_cases h2 : a = 2
  · subst h2
    by_cases hb : b = 0
    · subst hb; kernel_rfl
    · have : (b != 0) = true := bne_iff_ne.mpr hb
      rw [if_pos rfl, if_neg hb, if_neg (by decide), if_neg (by decide), if_pos rfl, this]; refine congrArg some ?_
      kernel_rfl
  rw [if_neg h2]
  by_cases h3 : a = 3
  · subst h3
    rw [if_pos rfl, print_eq b hl hu, if_neg (by decide), if_neg (by decide), if_neg (by decide), if_pos rfl]
    rfl
  rw [if_neg h3]
  by_cases h4 : a = 4
  · subst h4
    rw [if_pos rfl, if_neg (by decide), if_neg (by decide), if_neg (by decide), if_neg (by decide), if_pos rfl]
  rw [if_neg h4, Option.bind_some]
  by_cases hn : a < 0
  · rw [if_pos hn, if_neg (by omega), if_neg (by omega), if_neg h2, if_neg h3, if_neg h4, if_neg (by omega), if_neg (by omega), if_neg (by omega), if_neg (by omega), if_neg (by omega)]
  rw [if_neg hn]
  by_cases h10 : a ≥ 10
  · rw [if_pos (by simpa using h10), if_neg (by omega), if_neg (by omega), if_neg h2, if_neg h3, if_neg h4, if_neg (by omega), if_neg (by omega), if_neg (by omega), if_neg (by omega), if_neg (by omega)]
  rw [if_neg (by simpa using h10), if_pos (by omega), if_pos (by simpa using h10)]
  obtain rfl | rfl | rfl | rfl | rfl | rfl | rfl : a = 0 ∨ a = 1 ∨ a = 5 ∨ a = 6 ∨ a = 7 ∨ a = 8 ∨ a = 9 := by omega
  all_goals kernel_rfl
end Go.Proofs.YtdheakalfleleaaDoor.Val
namespace Go.Proofs.YtdheakalfleleaaDoor.Pure2
open Go.RowKit Go.Proofs.YtdheakalfleleaaDoor.POper Go.Proofs.YtdheakalfleleaaDoorW.PrintWords Go.Proofs.YtdheakalfleleaaDoorW.PrintLast Go.Proofs.YtdheakalfleleaaDoorW.PrintMore
set_option linter.unusedVariables false
set_option linter.unusedSimpArgs false
theorem wrap_k (n : Int) : ∃ k, wrap64 n = n + k * 18446744073709551616 := by
  refine ⟨-((n + 9223372036854775808) / 18446744073709551616), ?_⟩
  unfold wrap64
  omega
theorem wrap_id (n : Int) (h : -9223372036854775808 ≤ n ∧ n ≤ 9223372036854775807) : wrap64 n = n := by
  unfold wrap64; omega
theorem num_true (n : Int) : oper_number.f n true = gussetref24_number.f n := by simp [oper_number.f, gussetref24_number.f]
theorem num_false (n : Int) : oper_number.f n false = some (0, 0, ⟨#[]⟩, 4) := rfl
theorem num_over (n : Int) (h : n > 9007199254740991 ∨ n < -9007199254740991) : gussetref24_number.f n = some (0, 0, ⟨#[]⟩, 4) := by
  unfold gussetref24_number.f
  by_cases h1 : n > 9007199254740991
  · rw [if_pos h1]
  · rw [if_neg h1, if_pos (by omega)]
theorem num_some (n : Int) : ∃ r, gussetref24_number.f n = some r := by
  unfold gussetref24_number.f
  repeat' split
  all_goals exact ⟨_, rfl⟩
theorem prod_big (a b : Int) (ha : -9007199254740991 ≤ a ∧ a ≤ 9007199254740991) (hb : -9007199254740991 ≤ b ∧ b ≤ 9007199254740991) (h0 : a ≠ 0) (hg : 9007199254740991 < a.natAbs * b.natAbs) :
    oper_number.f (wrap64 (a * b)) ((wrap64 (Int.tdiv (wrap64 (a * b)) a)) == b) = some (0, 0, ⟨#[]⟩, 4) := by
  by_cases he : (wrap64 (Int.tdiv (wrap64 (a * b)) a)) = b
  · rw [beq_iff_eq.mpr he, num_true]
    obtain ⟨k, hk⟩ := wrap_k (a * b)
    have hr : -9223372036854775808 ≤ wrap64 (a * b) ∧ wrap64 (a * b) ≤ 9223372036854775807 := by unfold wrap64; omega
    have hab : (a * b).natAbs = a.natAbs * b.natAbs := Int.natAbs_mul a b
    have ht : (Int.tdiv (wrap64 (a * b)) a).natAbs ≤ (wrap64 (a * b)).natAbs := by
      rw [Int.natAbs_tdiv]; exact Nat.div_le_self _ _
    have hm := Int.tmod_add_mul_tdiv (wrap64 (a * b)) a
    have hl : (Int.tmod (wrap64 (a * b)) a).natAbs < a.natAbs := by
      rw [Int.natAbs_tmod]; exact Nat.mod_lt _ (by omega)
    have hq : Int.tdiv (wrap64 (a * b)) a = b ∨ (Int.tdiv (wrap64 (a * b)) a = 9223372036854775808) := by
      generalize Int.tdiv (wrap64 (a * b)) a = q at *
      unfold wrap64 at he
      omega
    rcases hq with hq | hq
    · rw [hq] at hm
      apply num_over
      generalize wrap64 (a * b) = p at *
      generalize a * b = P at *
      generalize Int.tmod p a = m at *
      rw [← hab] at hg
      omega
    · exfalso
      rw [hq] at he
      have : wrap64 9223372036854775808 = -9223372036854775808 := by unfold wrap64; omega
      omega
  · have : ((wrap64 (Int.tdiv (wrap64 (a * b)) a)) == b) = false := beq_eq_false_iff_ne.mpr he
    rw [this, num_false]
theorem prod_small (a b : Int) (h0 : a ≠ 0) (hg : a.natAbs * b.natAbs ≤ 9007199254740991) (hb : -9007199254740991 ≤ b ∧ b ≤ 9007199254740991) :
    oper_number.f (wrap64 (a * b)) ((wrap64 (Int.tdiv (wrap64 (a * b)) a)) == b) = gussetref24_number.f (wrap64 (a * b)) := by
  have hab : (a * b).natAbs = a.natAbs * b.natAbs := Int.natAbs_mul a b
  rw [← hab] at hg
  have e : wrap64 (a * b) = a * b := wrap_id _ (by omega)
  rw [e, Int.mul_tdiv_cancel_left b h0, wrap_id b (by omega), beq_self_eq_true, num_true]
theorem lim_is (b : Int) (h : 0 < b) : wrap64 (Int.tdiv (9007199254740991 : Int) b) = ((9007199254740991 / b.natAbs : Nat) : Int) := by
  have e : Int.tdiv (9007199254740991 : Int) b = ((9007199254740991 / b.natAbs : Nat) : Int) := by
    rw [Int.tdiv_eq_ediv_of_nonneg (by decide)]
    have : b = (b.natAbs : Int) := by omega
    rw [this]
    rfl
  rw [e]
  apply wrap_id
  have : 9007199254740991 / b.natAbs ≤ 9007199254740991 := Nat.div_le_self _ _
  generalize 9007199254740991 / b.natAbs = d at *
  omega
theorem times_is (k : Nat) (a b : Int) (ha : -9007199254740991 ≤ a ∧ a ≤ 9007199254740991) (hb : -9007199254740991 ≤ b ∧ b ≤ 9007199254740991) :
    ∃ r, (if a = 0 then oper_number.f (wrap64 (a * b)) true else oper_number.f (wrap64 (a * b)) ((wrap64 (Int.tdiv (wrap64 (a * b)) a)) == b)) = some r ∧
      ((gussetref24_times.f (k + 2) a b).bind fun t => if t.2 = true then gussetref24_number.f t.1 else some (0, 0, ⟨#[]⟩, 4)) = some r := by
  have w0 : wrap64 0 = 0 := by unfold wrap64; omega
  unfold gussetref24_times.f
  by_cases h0 : a = 0
  · subst h0
    rw [if_pos rfl, if_pos rfl, Int.zero_mul, w0, num_true]
    simp only [gussetref24_times.j0]
    obtain ⟨r, hr⟩ := num_some 0
    exact ⟨r, hr, hr⟩
  rw [if_neg h0, if_neg h0]
  by_cases h1 : b = 0
  · subst h1
    rw [prod_small a 0 h0 (by simp) (by decide), Int.mul_zero, w0]
    simp only [gussetref24_times.j0]
    obtain ⟨r, hr⟩ := num_some 0
    exact ⟨r, hr, hr⟩
  have hbf : (b == 0) = false := beq_eq_false_iff_ne.mpr h1
  have key : ∀ A : Int, A = (a.natAbs : Int) → ∃ r, oper_number.f (wrap64 (a * b)) ((wrap64 (Int.tdiv (wrap64 (a * b)) a)) == b) = some r ∧
      ((gussetref24_times.j1 (k + 1) a b A b).bind fun t => if t.2 = true then gussetref24_number.f t.1 else some (0, 0, ⟨#[]⟩, 4)) = some r := by
    intro A hA
    have fin : ∀ L : Int, L = ((9007199254740991 / b.natAbs : Nat) : Int) → ∃ r, oper_number.f (wrap64 (a * b)) ((wrap64 (Int.tdiv (wrap64 (a * b)) a)) == b) = some r ∧
        ((if A > L then some ((0 : Int), false) else some (wrap64 (a * b), true)).bind fun t => if t.2 = true then gussetref24_number.f t.1 else some (0, 0, ⟨#[]⟩, 4)) = some r := by
      intro L hL
      have hbp : 0 < b.natAbs := by omega
      by_cases hg : A > L
      · rw [if_pos hg]
        have : 9007199254740991 / b.natAbs < a.natAbs := by omega
        have := (Nat.div_lt_iff_lt_mul hbp).1 this
        exact ⟨_, prod_big a b ha hb h0 this, rfl⟩
      · rw [if_neg hg]
        have : a.natAbs ≤ 9007199254740991 / b.natAbs := by omega
        have := (Nat.le_div_iff_mul_le hbp).1 this
        rw [prod_small a b h0 this hb]
        obtain ⟨r, hr⟩ := num_some (wrap64 (a * b))
        exact ⟨r, hr, hr⟩
    simp only [gussetref24_times.j1]
    by_cases hn : b < 0
    · have e : wrap64 (-b) = -b := wrap_id _ (by omega)
      rw [if_pos hn, e, if_neg (by omega)]
      apply fin
      rw [lim_is (-b) (by omega), Int.natAbs_neg]
    · rw [if_neg hn, if_neg h1]
      apply fin
      exact lim_is b (by omega)
  rw [hbf]
  simp only [gussetref24_times.j0]
  by_cases hn : a < 0
  · have e : wrap64 (-a) = -a := wrap_id _ (by omega)
    rw [if_pos hn, e]
    exact key (-a) (by omega)
  · rw [if_neg hn]
    exact key a (by omega)
end Go.Proofs.YtdheakalfleleaaDoor.Pure2
namespace Go.Proofs.YtdheakalfleleaaDoor.Pure2
open Go.RowKit Go.Proofs.YtdheakalfleleaaDoor.POper Go.Proofs.YtdheakalfleleaaDoorW.PrintWords Go.Proofs.YtdheakalfleleaaDoorW.PrintLast Go.Proofs.YtdheakalfleleaaDoorW.PrintMore
set_option linter.unusedVariables false
set_option linter.unusedSimpArgs false
def tb (b : Bool) : Int × Int × ByteArray × Int := (2, if b = true then 1 else 0, ⟨#[]⟩, 0)
theorem truth_tb (b : Bool) : gussetref24_truth.f b = some (tb b) := by cases b <;> rfl
theorem bool_tb (b : Bool) : ((oper_boolean.f b).bind fun t => some (t.1, t.2.1, t.2.2, (0 : Int))) = some (tb b) := by cases b <;> rfl
def cmpd (l : List UInt8) (lt gt : Bool) : Int × Int × ByteArray × Int :=
  if l = [60] then tb lt else if l = [60, 61] then tb (!gt) else if l = [62] then tb gt else if l = [62, 61] then tb (!lt) else (0, 0, ⟨#[]⟩, 3)
theorem compared_is (op : ByteArray) (lt eq gt : Bool) (h : (lt || eq) = !gt) : oper_compared.f op lt eq = some (cmpd op.toList lt gt) := by
  unfold oper_compared.f cmpd
  rw [bool_tb, bool_tb, bool_tb, bool_tb, bool_tb, bool_tb]
  repeat' split
  all_goals first | rfl | (simp_all; done) | (cases lt <;> cases eq <;> cases gt <;> simp_all)
theorem eta4 {r : Option (Int × Int × ByteArray × Int)} : (r.bind fun t => some (t.1, t.2.1, t.2.2.1, t.2.2.2)) = r := by cases r <;> rfl
theorem arith_is (k : Nat) (op : ByteArray) (a b : Int) (ha : -9007199254740991 ≤ a ∧ a ≤ 9007199254740991) (hb : -9007199254740991 ≤ b ∧ b ≤ 9007199254740991) :
    ∃ r, oper_arithmetic.f op a b = some r ∧ gussetref24_numbers.f (k + 3) op a b = some r := by
  have hc := compared_is op (decide (a < b)) (a == b) (decide (a > b)) (by
    by_cases h1 : a < b
    · rw [decide_eq_true h1, decide_eq_false (by omega)]; rfl
    · by_cases h2 : a = b
      · rw [beq_iff_eq.mpr h2, decide_eq_false (show ¬ a > b by omega)]; simp
      · rw [decide_eq_false h1, beq_eq_false_iff_ne.mpr h2, decide_eq_true (show a > b by omega)]; rfl)
  obtain ⟨rt, t1, t2⟩ := times_is k.succ a b ha hb
  unfold oper_arithmetic.f gussetref24_numbers.f
  simp only [gussetref24_numbers.j0, eta4, truth_tb, num_true, hc]
  generalize op.toList = l
  by_cases h1 : l = [43]
  · subst h1
    obtain ⟨r, hr⟩ := num_some (wrap64 (a + b))
    exact ⟨r, hr, hr⟩
  rw [if_neg h1, if_neg h1]
  by_cases h2 : l = [45]
  · subst h2
    obtain ⟨r, hr⟩ := num_some (wrap64 (a - b))
    exact ⟨r, hr, hr⟩
  rw [if_neg h2, if_neg h2]
  by_cases h3 : l = [42]
  · subst h3
    rw [if_pos rfl, if_pos rfl]
    rw [num_true] at t1
    exact ⟨rt, t1, t2⟩
  rw [if_neg h3, if_neg h3]
  by_cases h4 : l = [47]
  · subst h4
    rw [if_pos rfl, if_pos rfl, if_pos (show (([47] : List UInt8) == [47]) = true by decide), if_pos rfl]
    by_cases h0 : b = 0
    · rw [if_pos h0]; exact ⟨_, rfl, rfl⟩
    · rw [if_neg h0]
      obtain ⟨r, hr⟩ := num_some (wrap64 (Int.tdiv a b))
      exact ⟨r, hr, hr⟩
  rw [if_neg h4, if_neg h4]
  by_cases h5 : l = [37]
  · subst h5
    rw [if_pos rfl, if_pos (show (([37] : List UInt8) == [37]) = true by decide), if_neg (show ¬ ([37] : List UInt8) = [47] by decide)]
    by_cases h0 : b = 0
    · rw [if_pos h0]; exact ⟨_, rfl, rfl⟩
    · rw [if_neg h0]
      obtain ⟨r, hr⟩ := num_some (Int.tmod a b)
      exact ⟨r, hr, hr⟩
  rw [if_neg h5, if_neg (show ¬ (l == [37]) = true by simpa using h5)]
  refine ⟨_, rfl, ?_⟩
  have e1 : decide (a ≤ b) = !decide (a > b) := by
    by_cases h : a ≤ b
    · rw [decide_eq_true h, decide_eq_false (by omega)]; rfl
    · rw [decide_eq_false h, decide_eq_true (show a > b by omega)]; rfl
  have e2 : decide (a ≥ b) = !decide (a < b) := by
    by_cases h : a < b
    · rw [decide_eq_true h, decide_eq_false (by omega)]; rfl
    · rw [decide_eq_false h, decide_eq_true (show a ≥ b by omega)]; rfl
  rw [e1, e2]
  unfold cmpd gussetref24_wrong.f
  repeat' split
  all_goals rfl
theorem same_is (a b : Int) (s : ByteArray) (c d : Int) (t : ByteArray) : ∃ r, ∀ k, value_Same.f (k + 1) a b s c d t = some r ∧ gussetref23_Same.f (k + 1) a b s c d t = some r := by
  have e : ∀ k, gussetref23_Same.f (k + 1) a b s c d t = value_Same.f 1 a b s c d t := fun k => by
    simp only [value_Same.f, gussetref23_Same.f, value_Same.j0, gussetref23_Same.j0]
  have e2 : ∀ k, value_Same.f (k + 1) a b s c d t = value_Same.f 1 a b s c d t := fun k => by
    simp only [value_Same.f, value_Same.j0]
  have : (value_Same.f 1 a b s c d t).isSome = true := by
    simp only [value_Same.f, value_Same.j0]
    repeat' split
    all_goals rfl
  obtain ⟨r, hr⟩ := Option.isSome_iff_exists.1 this
  exact ⟨r, fun k => ⟨(e2 k).trans hr, (e k).trans hr⟩⟩
theorem textV_size (x : S23) (h : -9223372036854775808 ≤ x.f1 ∧ x.f1 ≤ 9223372036854775807) (hs : x.f2.size ≤ 1099511627776) : (Val.textV x).size ≤ 1099511627776 := by
  unfold Val.textV
  have hi : (⟨(Lib.itoa x.f1).toArray⟩ : ByteArray).size ≤ 1099511627776 := by
    have := Lib.itoa_length_le x.f1 h.1 h.2
    show (Lib.itoa x.f1).toArray.size ≤ _
    rw [List.size_toArray]; omega
  have hf : (⟨(Lib.formatBool (x.f1 != 0)).toArray⟩ : ByteArray).size ≤ 1099511627776 := by
    cases (x.f1 != 0) <;> decide
  repeat' split
  all_goals first | exact hi | exact hf | exact hs | decide
theorem binary_is (op : ByteArray) (x y : S23) (hx : Pure1.Fit x.f0 x.f1 x.f2) (hy : Pure1.Fit y.f0 y.f1 y.f2) (hs : x.f2.size ≤ 1099511627776) (ht : y.f2.size ≤ 1099511627776) :
    ∃ r, oper_Binary.f 24 0 op x.f0 x.f1 x.f2 y.f0 y.f1 y.f2 = some r ∧ gussetref24_Binary.f 24 0 op x.f0 x.f1 x.f2 y.f0 y.f1 y.f2 = some r := by
  obtain ⟨sm, hsm⟩ := same_is x.f0 x.f1 x.f2 y.f0 y.f1 y.f2
  unfold oper_Binary.f gussetref24_Binary.f
  rw [(hsm 23).1, (hsm 23).2]
  simp only [Option.bind_some, bool_tb, truth_tb]
  by_cases h1 : op.toList = [61, 61, 61]
  · rw [if_pos h1, if_pos h1]; exact ⟨_, rfl, rfl⟩
  rw [if_neg h1, if_neg h1]
  by_cases h2 : op.toList = [33, 61, 61]
  · rw [if_pos h2, if_pos h2]; exact ⟨_, rfl, rfl⟩
  rw [if_neg h2, if_neg h2]
  have J2 : ∃ r, (if x.f0 = 4 then (if y.f0 = 4 then ((oper_compared.f op (Op.bytesLess x.f2.toList y.f2.toList) (x.f2.toList == y.f2.toList)).bind fun bt266 => (some (bt266.1, bt266.2.1, bt266.2.2.1, bt266.2.2.2))) else (some (0, 0, (⟨#[]⟩ : ByteArray), 3))) else (some (0, 0, (⟨#[]⟩ : ByteArray), 3))) = some r ∧
      (if x.f0 = 4 then (gussetref24_Binary.j2 22 op (y.f0 == 4) x.f0 x.f1 x.f2 y.f0 y.f1 y.f2) else (gussetref24_Binary.j2 22 op false x.f0 x.f1 x.f2 y.f0 y.f1 y.f2)) = some r := by
    simp only [gussetref24_Binary.j2, eta4, truth_tb]
    by_cases h4 : x.f0 = 4
    · rw [if_pos h4, if_pos h4]
      by_cases h5 : y.f0 = 4
      · rw [if_pos h5, if_pos (beq_iff_eq.mpr h5), compared_is op _ _ (Op.bytesLess y.f2.toList x.f2.toList) (bl_leq _ _)]
        refine ⟨_, rfl, ?_⟩
        unfold cmpd gussetref24_wrong.f
        repeat' split
        all_goals rfl
      · rw [if_neg h5, if_neg (show ¬ (y.f0 == 4) = true by simpa using h5)]; exact ⟨_, rfl, rfl⟩
    · rw [if_neg h4, if_neg h4]; exact ⟨_, rfl, rfl⟩
  have J1 : ∀ t : Bool, ∃ r, oper_Binary.j1 23 0 op t x.f0 x.f1 x.f2 y.f0 y.f1 y.f2 = some r ∧ gussetref24_Binary.j1 23 op t x.f0 x.f1 x.f2 y.f0 y.f1 y.f2 = some r := by
    intro t
    simp only [oper_Binary.j1, gussetref24_Binary.j1]
    cases t
    · rw [if_neg (show ¬ (false = true) by decide), if_neg (show ¬ (false = true) by decide)]
      exact J2
    · rw [if_pos rfl, if_pos rfl, Val.text_p x hx.2.1.1 hx.2.1.2, Val.text_p y hy.2.1.1 hy.2.1.2]
      unfold value_Heap_Text.f
      rw [if_pos hx.2.1, if_pos hy.2.1]
      have b1 := textV_size x hx.2.1 hs
      have b2 := textV_size y hy.2.1 ht
      simp only [Option.bind_some]
      have bs : (Val.textV x).size + (Val.textV y).size ≤ 9223372036854775807 := by omega
      rw [if_pos bs]
      rw [show (⟨x.f0, x.f1, x.f2⟩ : S23) = x from rfl, show (⟨y.f0, y.f1, y.f2⟩ : S23) = y from rfl, if_pos bs]
      unfold gussetref24_text.f oper_text.f
      by_cases hz : ((Val.textV x ++ Val.textV y).size : Int) > 16384
      · rw [if_pos hz, if_pos hz]; exact ⟨_, rfl, rfl⟩
      · rw [if_neg hz, if_neg hz]; exact ⟨_, rfl, rfl⟩
  have J0 : ∀ t : Bool, (t = true → x.f0 = 3 ∧ y.f0 = 3) → ∃ r, oper_Binary.j0 24 0 op t x.f0 x.f1 x.f2 y.f0 y.f1 y.f2 = some r ∧ gussetref24_Binary.j0 24 op t x.f0 x.f1 x.f2 y.f0 y.f1 y.f2 = some r := by
    intro t h3
    simp only [oper_Binary.j0, gussetref24_Binary.j0, eta4]
    cases t
    · rw [if_neg (show ¬ (false = true) by decide), if_neg (show ¬ (false = true) by decide)]
      by_cases h4 : op.toList = [43]
      · rw [if_pos h4, if_pos h4]
        simp only [oper_joins.f, Option.bind_some, gussetref24_plain.f]
        obtain ⟨ra, a1, a2⟩ := J1 true
        obtain ⟨rb, b1, b2⟩ := J1 false
        by_cases c1 : x.f0 = 4
        · rw [if_pos c1]
          by_cases c2 : 0 ≤ y.f0 ∧ y.f0 ≤ 4
          · have e : (!(x.f0 != 4 && y.f0 != 4) && (decide (0 ≤ x.f0) && decide (x.f0 < 5)) && (decide (0 ≤ y.f0) && decide (y.f0 < 5))) = true := by
              rw [c1, decide_eq_true c2.1, decide_eq_true (show y.f0 < 5 by omega)]; rfl
            rw [e, if_pos c2.1, decide_eq_true c2.2]
            exact ⟨ra, a1, by simpa using a2⟩
          · have e : (!(x.f0 != 4 && y.f0 != 4) && (decide (0 ≤ x.f0) && decide (x.f0 < 5)) && (decide (0 ≤ y.f0) && decide (y.f0 < 5))) = false := by
              by_cases c3 : 0 ≤ y.f0
              · rw [decide_eq_false (show ¬ y.f0 < 5 by omega)]; simp
              · rw [decide_eq_false c3]; simp
            have c4 : y.f0 ≠ 4 := by omega
            refine ⟨rb, by rw [e]; exact b1, ?_⟩
            by_cases c3 : y.f0 ≥ 0
            · rw [if_pos c3, decide_eq_false (by omega)]; simpa [c4] using b2
            · rw [if_neg c3]; simpa [c4] using b2
        · rw [if_neg c1]
          by_cases c2 : y.f0 = 4
          · rw [if_pos c2]
            by_cases c3 : x.f0 ≥ 0
            · rw [if_pos c3]
              have e : (!(x.f0 != 4 && y.f0 != 4) && (decide (0 ≤ x.f0) && decide (x.f0 < 5)) && (decide (0 ≤ y.f0) && decide (y.f0 < 5))) = decide (x.f0 ≤ 4) := by
                rw [c2, decide_eq_true c3]
                have : decide (x.f0 < 5) = decide (x.f0 ≤ 4) := by
                  by_cases h : x.f0 ≤ 4
                  · rw [decide_eq_true h, decide_eq_true (by omega)]
                  · rw [decide_eq_false h, decide_eq_false (by omega)]
                rw [this]
                simp
              rw [e]
              exact J1 _
            · rw [if_neg c3]
              have e : (!(x.f0 != 4 && y.f0 != 4) && (decide (0 ≤ x.f0) && decide (x.f0 < 5)) && (decide (0 ≤ y.f0) && decide (y.f0 < 5))) = false := by
                rw [decide_eq_false c3]; simp
              rw [e]
              exact ⟨rb, b1, b2⟩
          · rw [if_neg c2]
            have e : (!(x.f0 != 4 && y.f0 != 4) && (decide (0 ≤ x.f0) && decide (x.f0 < 5)) && (decide (0 ≤ y.f0) && decide (y.f0 < 5))) = false := by
              rw [bne_iff_ne.mpr c1, bne_iff_ne.mpr c2]; rfl
            rw [e]
            exact ⟨rb, b1, b2⟩
      · rw [if_neg h4, if_neg h4]
        exact J1 false
    · rw [if_pos rfl, if_pos rfl]
      exact arith_is 20 op x.f1 y.f1 (hx.2.2 (h3 rfl).1) (hy.2.2 (h3 rfl).2)
  by_cases h3 : x.f0 = 3
  · rw [if_pos h3, if_pos h3]
    exact J0 _ (fun h => ⟨h3, beq_iff_eq.mp h⟩)
  · rw [if_neg h3, if_neg h3]
    exact J0 _ (fun h => absurd h (by decide))
end Go.Proofs.YtdheakalfleleaaDoor.Pure2
namespace Go.Proofs.YtdheakalfleleaaDoor.Val
open Go.RowKit Go.Proofs.YtdheakalfleleaaDoor.POper Go.Proofs.YtdheakalfleleaaDoorW.PrintWords Go.Proofs.YtdheakalfleleaaDoorW.PrintLast Go.Proofs.YtdheakalfleleaaDoorW.PrintMore
set_option linter.unusedVariables false
set_option linter.unusedSimpArgs false
theorem s4_of {W w : World} {x y : S23} (hB : Below w.heap.size w W) (hx : W.heap[w.heap.size]? = some (.cells #[.int .i64 x.f0, .int .i64 x.f1, .string x.f2] 23)) (hy : W.heap[w.heap.size + 1]? = some (.cells #[.int .i64 y.f0, .int .i64 y.f1, .string y.f2] 23)) :
    W.cell? ⟨w.heap.size, 0, none⟩ = some (.int .i64 x.f0) ∧ W.cell? ⟨w.heap.size, 1, none⟩ = some (.int .i64 x.f1) ∧ W.cell? ⟨w.heap.size, 2, none⟩ = some (.string x.f2) ∧ W.cell? ⟨w.heap.size + 1, 0, none⟩ = some (.int .i64 y.f0) ∧ W.cell? ⟨w.heap.size + 1, 1, none⟩ = some (.int .i64 y.f1) ∧ W.cell? ⟨w.heap.size + 1, 2, none⟩ = some (.string y.f2) ∧ Below w.heap.size w W ∧ W.heap[w.heap.size]? = some (.cells #[.int .i64 x.f0, .int .i64 x.f1, .string x.f2] 23) ∧ W.heap[w.heap.size + 1]? = some (.cells #[.int .i64 y.f0, .int .i64 y.f1, .string y.f2] 23) := by
  obtain ⟨⟨c00, c01, c02⟩, _⟩ := box3 hx
  obtain ⟨⟨c10, c11, c12⟩, _⟩ := box3 hy
  exact ⟨c00, c01, c02, c10, c11, c12, hB, hx, hy⟩
theorem put3_far {W : World} {b k : Nat} {u0 u1 u2 : Value} (h : k ≠ b) : (((W.setCell ⟨b, 0, none⟩ u0).setCell ⟨b, 1, none⟩ u1).setCell ⟨b, 2, none⟩ u2).heap[k]? = W.heap[k]? :=
  ((Below.heap_setCell _ ⟨b, 2, none⟩ u2 k h).trans (Below.heap_setCell _ ⟨b, 1, none⟩ u1 k h)).trans (Below.heap_setCell _ ⟨b, 0, none⟩ u0 k h)
set_option maxHeartbeats 8000000 in
set_option maxRecDepth 100000 in
theorem operBinary_walk (w : World) [GW w] (op : ByteArray) (x y p q : S23) (r1 r2 : Int) (r3 : ByteArray) (r4 : Int)
    (h_x : gussetlaw24_fit.f 2 x.f0 x.f1 x.f2 = some (p.f0, p.f1, p.f2)) (h_y : gussetlaw24_fit.f 2 y.f0 y.f1 y.f2 = some (q.f0, q.f1, q.f2))
    (h_o : oper_Binary.f 24 0 op p.f0 p.f1 p.f2 q.f0 q.f1 q.f2 = some (r1, r2, r3, r4)) (h_r : gussetref24_Binary.f 24 0 op p.f0 p.f1 p.f2 q.f0 q.f1 q.f2 = some (r1, r2, r3, r4)) :
    Calls Tryd.prog 4 #[.string op, .agg #[.int .i64 x.f0, .int .i64 x.f1, .string x.f2], .agg #[.int .i64 y.f0, .int .i64 y.f1, .string y.f2]] w fun e w' => e = .returned (.bool true) ∧ Below w.heap.size w w' := by
  have E_x := Aside0.mk h_x
  have E_y := Aside0.mk h_y
  have E_o := Aside0.mk h_o
  have E_r := Aside0.mk h_r
  clear h_x h_y h_o h_r
  have HB := Aside0.mk (below_alloc (below_alloc (Below.refl w.heap.size w) (.cells #[.int .i64 x.f0, .int .i64 x.f1, .string x.f2] 23)) (.cells #[.int .i64 y.f0, .int .i64 y.f1, .string y.f2] 23))
  have BX := Aside0.mk (new1 w (.cells #[.int .i64 x.f0, .int .i64 x.f1, .string x.f2] 23) (.cells #[.int .i64 y.f0, .int .i64 y.f1, .string y.f2] 23))
  have BY := Aside0.mk (new2 w (.cells #[.int .i64 x.f0, .int .i64 x.f1, .string x.f2] 23) (.cells #[.int .i64 y.f0, .int .i64 y.f1, .string y.f2] 23))
  go_enter Tryd.func4, Tryd.ntmps4
  go_wp2_with (go_at_call 14; refine hold_ ?_)
  unfold Held
  refine (heaps_calls _).mono ?_
  rintro e w0 ⟨rfl, hb0⟩
  have hb := hb0.bel
  clear hb0
  have n0_ := Aside0.mk (below_step (by repeat (first | (with_reducible exact HB.out) | (with_reducible apply below_alloc) | (with_reducible apply pw_below_drewN) | (with_reducible apply below_drew1))) hb)
  have n1_ := Aside0.mk (blk_below (g := w.heap.size) (o := (.cells #[.int .i64 x.f0, .int .i64 x.f1, .string x.f2] 23)) (by repeat (first | (with_reducible exact BX.out) | (with_reducible refine blk_alloc ?_ _) | (with_reducible refine blk_drewN ?_ _) | (with_reducible refine blk_drew ?_))) hb)
  have n2_ := Aside0.mk (blk_below (g := (w.heap.size + 1)) (o := (.cells #[.int .i64 y.f0, .int .i64 y.f1, .string y.f2] 23)) (by repeat (first | (with_reducible exact BY.out) | (with_reducible refine blk_alloc ?_ _) | (with_reducible refine blk_drewN ?_ _) | (with_reducible refine blk_drew ?_))) hb)
  clear HB BX BY
  have HB := n0_
  have BX := n1_
  have BY := n2_
  clear n0_ n1_ n2_
  haveI := GW.of HB.out
  clear hb
  obtain ⟨⟨c00, c01, c02⟩, fx0, fx1, fx2⟩ := box3 (show (w0).heap[w.heap.size]? = some (.cells #[.int .i64 x.f0, .int .i64 x.f1, .string x.f2] 23) from (by repeat (first | (with_reducible exact BX.out) | (with_reducible refine blk_alloc ?_ _) | (with_reducible refine blk_drewN ?_ _) | (with_reducible refine blk_drew ?_))))
  obtain ⟨⟨c10, c11, c12⟩, fy0, fy1, fy2⟩ := box3 (show (w0).heap[w.heap.size + 1]? = some (.cells #[.int .i64 y.f0, .int .i64 y.f1, .string y.f2] 23) from (by repeat (first | (with_reducible exact BY.out) | (with_reducible refine blk_alloc ?_ _) | (with_reducible refine blk_drewN ?_ _) | (with_reducible refine blk_drew ?_))))
  clear fx0 fx1 fx2 fy0 fy1 fy2 c00 c01 c02 c10 c11 c12
  go_wp2
  refine start_ (n := 6) (S := fun w' => w'.cell? ⟨w.heap.size, 0, none⟩ = some (.int .i64 x.f0) ∧ w'.cell? ⟨w.heap.size, 1, none⟩ = some (.int .i64 x.f1) ∧ w'.cell? ⟨w.heap.size, 2, none⟩ = some (.string x.f2) ∧ w'.cell? ⟨w.heap.size + 1, 0, none⟩ = some (.int .i64 y.f0) ∧ w'.cell? ⟨w.heap.size + 1, 1, none⟩ = some (.int .i64 y.f1) ∧ w'.cell? ⟨w.heap.size + 1, 2, none⟩ = some (.string y.f2) ∧ Below w.heap.size w w' ∧ w'.heap[w.heap.size]? = some (.cells #[.int .i64 x.f0, .int .i64 x.f1, .string x.f2] 23) ∧ w'.heap[w.heap.size + 1]? = some (.cells #[.int .i64 y.f0, .int .i64 y.f1, .string y.f2] 23)) (ds := [4, 5]) #[false, false, false, false, false, false] (by kernel_rfl) rfl rfl (s4_of (below_drew1 HB.out) BX.out BY.out) (fun hHeld => ?_)
  clear HB BX BY
  refine take_ (i := 0) (N := some 19) (v := ?_) (a' := ?_) #[true, false, false, false, false, false] rfl rfl (by kernel_rfl) (fun _ _ _ h => h) (Or.inl ⟨by rfl, ?_⟩) hHeld ?_ ?_
  rotate_left
  · rintro w' ⟨s0, s1, s2, s3, s4, s5, _, _, _⟩
    go_simp
    with_reducible rfl
  rotate_left
  · simp only [Act.put, List.setIfInBounds_toArray, List.set_cons_zero, List.set_cons_succ, i64_w, i32_w]
    rfl
  refine take_ (i := 2) (N := some 21) (v := ?_) (a' := ?_) #[true, false, true, false, false, false] rfl rfl (by kernel_rfl) (fun _ _ _ h => h) (Or.inl ⟨by rfl, ?_⟩) hHeld ?_ ?_
  rotate_left
  · rintro w' ⟨s0, s1, s2, s3, s4, s5, _, _, _⟩
    go_simp
    with_reducible rfl
  rotate_left
  · simp only [Act.put, List.setIfInBounds_toArray, List.set_cons_zero, List.set_cons_succ, i64_w, i32_w]
    rfl
  refine one_ (i := 1) (N := some 20) #[true, true, true, false, false, false] rfl rfl (by kernel_rfl) (by decide) (fun K hK => ?_)
  refine call_ 10 #[.agg #[.int .i64 x.f0, .int .i64 x.f1, .string x.f2]] (by rfl) rfl ?_ ?_
  · go_simp
    try rfl
  refine (gussetlaw24_fit.calls 2 x.f0 x.f1 x.f2 p.f0 p.f1 p.f2 _ E_x.out).mono ?_
  rintro e w1 ⟨rfl, hb⟩
  have hS := s4_of (below_step hHeld.2.2.2.2.2.2.1 hb) (blk_below hHeld.2.2.2.2.2.2.2.1 hb) (blk_below hHeld.2.2.2.2.2.2.2.2 hb)
  clear hHeld hb
  refine ⟨_, rfl, ?_⟩
  refine hK.out _ _ hS (fun hHeld => ?_)
  clear hS hK K
  refine norm_ (a' := ?_) ?_ ?_
  rotate_left
  · show Act.put _ (some 20) _ = _
    simp only [Act.put, List.setIfInBounds_toArray, List.set_cons_zero, List.set_cons_succ, i64_w, i32_w]
    rfl
  refine one_ (i := 3) (N := some 22) #[true, true, true, true, false, false] rfl rfl (by kernel_rfl) (by decide) (fun K hK => ?_)
  refine call_ 10 #[.agg #[.int .i64 y.f0, .int .i64 y.f1, .string y.f2]] (by rfl) rfl ?_ ?_
  · go_simp
    try rfl
  refine (gussetlaw24_fit.calls 2 y.f0 y.f1 y.f2 q.f0 q.f1 q.f2 _ E_y.out).mono ?_
  rintro e w2 ⟨rfl, hb⟩
  have hS := s4_of (below_step hHeld.2.2.2.2.2.2.1 hb) (blk_below hHeld.2.2.2.2.2.2.2.1 hb) (blk_below hHeld.2.2.2.2.2.2.2.2 hb)
  clear hHeld hb
  refine ⟨_, rfl, ?_⟩
  refine hK.out _ _ hS (fun hHeld => ?_)
  clear hS hK K
  refine norm_ (a' := ?_) ?_ ?_
  rotate_left
  · show Act.put _ (some 22) _ = _
    simp only [Act.put, List.setIfInBounds_toArray, List.set_cons_zero, List.set_cons_succ, i64_w, i32_w]
    rfl
  obtain ⟨s0, s1, s2, s3, s4, s5, HB1, BX1, BY1⟩ := hHeld
  have hB2 := Aside0.mk HB1
  have hX2 := Aside0.mk BX1
  have hY2 := Aside0.mk BY1
  clear HB1 BX1 BY1
  have hfx := Aside0.mk (box3 hX2.out).2
  have hfy := Aside0.mk (box3 hY2.out).2
  obtain ⟨f0, f1, f2⟩ := hfx.out
  obtain ⟨g0, g1, g2⟩ := hfy.out
  clear hfx hfy
  refine last_ (i := 4) (N := none) #[true, true, true, true, true, false] rfl rfl (by kernel_rfl) (by decide) (fun K hK => ?_)
  refine skip_ (w1 := ?_) (by rfl) rfl ?_ ?_
  rotate_left
  · go_simp
    rfl
  refine hK.out _ _ ?_
  clear hK K
  have hX3 := put3 (u0 := .int .i64 p.f0) (u1 := .int .i64 p.f1) (u2 := .string p.f2) hX2.out
  have hY3 := (put3_far (b := w.heap.size) (k := w.heap.size + 1) (W := w2) (u0 := .int .i64 p.f0) (u1 := .int .i64 p.f1) (u2 := .string p.f2) (by omega)).trans hY2.out
  have hB3 := below_put3 (b := w.heap.size) (u0 := .int .i64 p.f0) (u1 := .int .i64 p.f1) (u2 := .string p.f2) hB2.out (Nat.le_refl _)
  clear hX2 hY2 hB2 s0 s1 s2 s3 s4 s5 f0 f1 f2 g0 g1 g2
  generalize (((w2.setCell ⟨w.heap.size, 0, none⟩ (.int .i64 p.f0)).setCell ⟨w.heap.size, 1, none⟩ (.int .i64 p.f1)).setCell ⟨w.heap.size, 2, none⟩ (.string p.f2)) = w3 at *
  have AX := Aside0.mk hX3
  have AY := Aside0.mk hY3
  have AB := Aside0.mk hB3
  clear hX3 hY3 hB3
  obtain ⟨⟨s0, s1, s2⟩, f0, f1, f2⟩ := box3 AY.out
  refine last_ (i := 5) (N := none) #[true, true, true, true, true, true] rfl rfl (by kernel_rfl) (by decide) (fun K hK => ?_)
  refine skip_ (w1 := ?_) (by rfl) rfl ?_ ?_
  rotate_left
  · go_simp
    rfl
  refine hK.out _ _ ?_
  clear hK K
  have hY4 := put3 (u0 := .int .i64 q.f0) (u1 := .int .i64 q.f1) (u2 := .string q.f2) AY.out
  have hX4 := (put3_far (b := w.heap.size + 1) (k := w.heap.size) (W := w3) (u0 := .int .i64 q.f0) (u1 := .int .i64 q.f1) (u2 := .string q.f2) (by omega)).trans AX.out
  have hB4 := below_put3 (b := w.heap.size + 1) (u0 := .int .i64 q.f0) (u1 := .int .i64 q.f1) (u2 := .string q.f2) AB.out (Nat.le_succ _)
  clear AX AY AB s0 s1 s2 f0 f1 f2
  generalize (((w3.setCell ⟨w.heap.size + 1, 0, none⟩ (.int .i64 q.f0)).setCell ⟨w.heap.size + 1, 1, none⟩ (.int .i64 q.f1)).setCell ⟨w.heap.size + 1, 2, none⟩ (.string q.f2)) = w4 at *
  refine done_ (by kernel_rfl) ?_
  have BX := Aside0.mk hX4
  have BY := Aside0.mk hY4
  have HB := Aside0.mk hB4
  clear hX4 hY4 hB4
  haveI := GW.of HB.out
  obtain ⟨⟨c00, c01, c02⟩, fx0, fx1, fx2⟩ := box3 (show (w4).heap[w.heap.size]? = some (.cells #[.int .i64 p.f0, .int .i64 p.f1, .string p.f2] 23) from (by repeat (first | (with_reducible exact BX.out) | (with_reducible refine blk_alloc ?_ _) | (with_reducible refine blk_drewN ?_ _) | (with_reducible refine blk_drew ?_))))
  obtain ⟨⟨c10, c11, c12⟩, fy0, fy1, fy2⟩ := box3 (show (w4).heap[w.heap.size + 1]? = some (.cells #[.int .i64 q.f0, .int .i64 q.f1, .string q.f2] 23) from (by repeat (first | (with_reducible exact BY.out) | (with_reducible refine blk_alloc ?_ _) | (with_reducible refine blk_drewN ?_ _) | (with_reducible refine blk_drew ?_))))
  go_wp2_with (go_at_call 15; refine hold_ ?_)
  unfold Held
  clear c00 c01 c02 c10 c11 c12 fx0 fx1 fx2 fy0 fy1 fy2
  refine (oper_Binary.calls _ 24 0 op p.f0 p.f1 p.f2 q.f0 q.f1 q.f2 r1 r2 r3 r4 _ E_o.out).mono ?_
  rintro e w5 ⟨rfl, hb⟩
  have n0_ := Aside0.mk (below_step (by repeat (first | (with_reducible exact HB.out) | (with_reducible apply below_alloc) | (with_reducible apply pw_below_drewN) | (with_reducible apply below_drew1))) hb)
  have n1_ := Aside0.mk (blk_below (g := w.heap.size) (o := (.cells #[.int .i64 p.f0, .int .i64 p.f1, .string p.f2] 23)) (by repeat (first | (with_reducible exact BX.out) | (with_reducible refine blk_alloc ?_ _) | (with_reducible refine blk_drewN ?_ _) | (with_reducible refine blk_drew ?_))) hb)
  have n2_ := Aside0.mk (blk_below (g := (w.heap.size + 1)) (o := (.cells #[.int .i64 q.f0, .int .i64 q.f1, .string q.f2] 23)) (by repeat (first | (with_reducible exact BY.out) | (with_reducible refine blk_alloc ?_ _) | (with_reducible refine blk_drewN ?_ _) | (with_reducible refine blk_drew ?_))) hb)
  clear HB BX BY
  have HB := n0_
  have BX := n1_
  have BY := n2_
  clear n0_ n1_ n2_
  haveI := GW.of HB.out
  clear hb
  have R0 := Aside0.mk (heap_alloc_new w5 (.cells #[.int .i64 r1, .int .i64 r2, .string r3] 23))
  obtain ⟨⟨c00, c01, c02⟩, fx0, fx1, fx2⟩ := box3 (show (w5.alloc (.cells #[.int .i64 r1, .int .i64 r2, .string r3] 23)).heap[w.heap.size]? = some (.cells #[.int .i64 p.f0, .int .i64 p.f1, .string p.f2] 23) from (by repeat (first | (with_reducible exact BX.out) | (with_reducible refine blk_alloc ?_ _) | (with_reducible refine blk_drewN ?_ _) | (with_reducible refine blk_drew ?_))))
  obtain ⟨⟨c10, c11, c12⟩, fy0, fy1, fy2⟩ := box3 (show (w5.alloc (.cells #[.int .i64 r1, .int .i64 r2, .string r3] 23)).heap[w.heap.size + 1]? = some (.cells #[.int .i64 q.f0, .int .i64 q.f1, .string q.f2] 23) from (by repeat (first | (with_reducible exact BY.out) | (with_reducible refine blk_alloc ?_ _) | (with_reducible refine blk_drewN ?_ _) | (with_reducible refine blk_drew ?_))))
  go_wp2_with (go_at_call 16; refine hold_ ?_)
  unfold Held
  clear c00 c01 c02 c10 c11 c12 fx0 fx1 fx2 fy0 fy1 fy2
  refine (gussetref24_Binary.calls _ 24 0 op p.f0 p.f1 p.f2 q.f0 q.f1 q.f2 r1 r2 r3 r4 _ E_r.out).mono ?_
  rintro e w6 ⟨rfl, hb⟩
  have n0_ := Aside0.mk (below_step (by repeat (first | (with_reducible exact HB.out) | (with_reducible apply below_alloc) | (with_reducible apply pw_below_drewN) | (with_reducible apply below_drew1))) hb)
  have n1_ := Aside0.mk (blk_below (g := w.heap.size) (o := (.cells #[.int .i64 p.f0, .int .i64 p.f1, .string p.f2] 23)) (by repeat (first | (with_reducible exact BX.out) | (with_reducible refine blk_alloc ?_ _) | (with_reducible refine blk_drewN ?_ _) | (with_reducible refine blk_drew ?_))) hb)
  have n2_ := Aside0.mk (blk_below (g := (w.heap.size + 1)) (o := (.cells #[.int .i64 q.f0, .int .i64 q.f1, .string q.f2] 23)) (by repeat (first | (with_reducible exact BY.out) | (with_reducible refine blk_alloc ?_ _) | (with_reducible refine blk_drewN ?_ _) | (with_reducible refine blk_drew ?_))) hb)
  have n3_ := Aside0.mk (blk_below (g := w5.heap.size) (o := (.cells #[.int .i64 r1, .int .i64 r2, .string r3] 23)) (by repeat (first | (with_reducible exact R0.out) | (with_reducible refine blk_alloc ?_ _) | (with_reducible refine blk_drewN ?_ _) | (with_reducible refine blk_drew ?_))) hb)
  clear HB BX BY R0
  have HB := n0_
  have BX := n1_
  have BY := n2_
  have R0 := n3_
  clear n0_ n1_ n2_ n3_
  haveI := GW.of HB.out
  clear hb
  have R1 := Aside0.mk (heap_alloc_new w6 (.cells #[.int .i64 r1, .int .i64 r2, .string r3] 23))
  obtain ⟨⟨r00, r01, r02⟩, _, _, _⟩ := box3 (show (w6.alloc (.cells #[.int .i64 r1, .int .i64 r2, .string r3] 23)).heap[w5.heap.size]? = some (.cells #[.int .i64 r1, .int .i64 r2, .string r3] 23) from (by repeat (first | (with_reducible exact R0.out) | (with_reducible refine blk_alloc ?_ _) | (with_reducible refine blk_drewN ?_ _) | (with_reducible refine blk_drew ?_))))
  obtain ⟨⟨r10, r11, r12⟩, _, _, _⟩ := box3 (show (w6.alloc (.cells #[.int .i64 r1, .int .i64 r2, .string r3] 23)).heap[w6.heap.size]? = some (.cells #[.int .i64 r1, .int .i64 r2, .string r3] 23) from (by repeat (first | (with_reducible exact R1.out) | (with_reducible refine blk_alloc ?_ _) | (with_reducible refine blk_drewN ?_ _) | (with_reducible refine blk_drew ?_))))
  go_wp2_with (go_at_call 13; refine hold_ ?_)
  unfold Held
  refine (sure_calls _).mono ?_
  rintro e w7 ⟨rfl, hb⟩
  have n0_ := Aside0.mk (below_step (by repeat (first | (with_reducible exact HB.out) | (with_reducible apply below_alloc) | (with_reducible apply pw_below_drewN) | (with_reducible apply below_drew1))) hb)
  have n1_ := Aside0.mk (blk_below (g := w.heap.size) (o := (.cells #[.int .i64 p.f0, .int .i64 p.f1, .string p.f2] 23)) (by repeat (first | (with_reducible exact BX.out) | (with_reducible refine blk_alloc ?_ _) | (with_reducible refine blk_drewN ?_ _) | (with_reducible refine blk_drew ?_))) hb)
  have n2_ := Aside0.mk (blk_below (g := (w.heap.size + 1)) (o := (.cells #[.int .i64 q.f0, .int .i64 q.f1, .string q.f2] 23)) (by repeat (first | (with_reducible exact BY.out) | (with_reducible refine blk_alloc ?_ _) | (with_reducible refine blk_drewN ?_ _) | (with_reducible refine blk_drew ?_))) hb)
  have n3_ := Aside0.mk (blk_below (g := w5.heap.size) (o := (.cells #[.int .i64 r1, .int .i64 r2, .string r3] 23)) (by repeat (first | (with_reducible exact R0.out) | (with_reducible refine blk_alloc ?_ _) | (with_reducible refine blk_drewN ?_ _) | (with_reducible refine blk_drew ?_))) hb)
  have n4_ := Aside0.mk (blk_below (g := w6.heap.size) (o := (.cells #[.int .i64 r1, .int .i64 r2, .string r3] 23)) (by repeat (first | (with_reducible exact R1.out) | (with_reducible refine blk_alloc ?_ _) | (with_reducible refine blk_drewN ?_ _) | (with_reducible refine blk_drew ?_))) hb)
  clear HB BX BY R0 R1
  have HB := n0_
  have BX := n1_
  have BY := n2_
  have R0 := n3_
  have R1 := n4_
  clear n0_ n1_ n2_ n3_ n4_
  haveI := GW.of HB.out
  clear hb
  go_wp2
  go_ret
  exact ⟨rfl, (by repeat (first | (with_reducible exact HB.out) | (with_reducible apply below_alloc) | (with_reducible apply pw_below_drewN) | (with_reducible apply below_drew1)))⟩
theorem operBinary_calls (w : World) [GW w] (op : ByteArray) (x y : S23) (hx : -9223372036854775808 ≤ x.f1 ∧ x.f1 ≤ 9223372036854775807) (hy : -9223372036854775808 ≤ y.f1 ∧ y.f1 ≤ 9223372036854775807) (hs : x.f2.size ≤ 1099511627776) (ht : y.f2.size ≤ 1099511627776) :
    Calls Tryd.prog 4 #[.string op, .agg #[.int .i64 x.f0, .int .i64 x.f1, .string x.f2], .agg #[.int .i64 y.f0, .int .i64 y.f1, .string y.f2]] w fun e w' => e = .returned (.bool true) ∧ Below w.heap.size w w' := by
  obtain ⟨a, b, s, h1, hf, z1⟩ := Pure1.fit_is 1 x.f0 x.f1 x.f2 hx
  obtain ⟨c, d, t, h2, hg, z2⟩ := Pure1.fit_is 1 y.f0 y.f1 y.f2 hy
  have hs2 : s.size ≤ 1099511627776 := by rcases z1 with rfl | rfl; exact hs; decide
  have ht2 : t.size ≤ 1099511627776 := by rcases z2 with rfl | rfl; exact ht; decide
  obtain ⟨⟨r1, r2, r3, r4⟩, o1, o2⟩ := Pure2.binary_is op ⟨a, b, s⟩ ⟨c, d, t⟩ hf hg hs2 ht2
  exact operBinary_walk w op x y ⟨a, b, s⟩ ⟨c, d, t⟩ r1 r2 r3 r4 h1 h2 o1 o2
end Go.Proofs.YtdheakalfleleaaDoor.Val
