/- PTypx6, as this claim needs it. -/
import Derived.Test.YtjcajpkgamolkaaDoorPTypx0q
import Derived.Test.YtjcajpkgamolkaaDoorPTypx5q
namespace Go.Proofs.YtjcajpkgamolkaaDoor.PTyp
open Go.RowKit Go.Proofs.YtjcajpkgamolkaaDoorW.PrintWords Go.Proofs.YtjcajpkgamolkaaDoorW.PrintLast Go.Proofs.YtjcajpkgamolkaaDoorW.PrintMore
attribute [local go_sem] max2_int min2_int max_two min_two max_three min_three max_four min_four   -- for this text's walks alone
set_option linter.unusedVariables false
set_option linter.unusedSimpArgs false
attribute [local go_sem high] bs_leq bs_gtr bs_geq
mutual
def gussetref14_Compare.j0 : Nat → Int → Int → Int → List ByteArray → List (S25) → Int → Int → List ByteArray → List (S25) → Option (Int)
  | 0, _, _, _, _, _, _, _, _, _ => none
  | k + 1, x5, x157000, x157001, x157002, x157003, x158000, x158001, x158002, x158003 => if x5 = 0 then ((gussetref14_order.f (x157002.length : Int) (x158002.length : Int)).bind fun t160 => (gussetref14_Compare.j1 k t160 x157000 x157001 x157002 x157003 x158000 x158001 x158002 x158003)) else (gussetref14_Compare.j1 k x5 x157000 x157001 x157002 x157003 x158000 x158001 x158002 x158003)
def gussetref14_Compare.j1 : Nat → Int → Int → Int → List ByteArray → List (S25) → Int → Int → List ByteArray → List (S25) → Option (Int)
  | 0, _, _, _, _, _, _, _, _, _ => none
  | k + 1, x5, x157000, x157001, x157002, x157003, x158000, x158001, x158002, x158003 => gussetref14_Compare.l0 k x5 0 x157000 x157001 x157002 x157003 x158000 x158001 x158002 x158003
def gussetref14_Compare.l0 : Nat → Int → Int → Int → Int → List ByteArray → List (S25) → Int → Int → List ByteArray → List (S25) → Option (Int)
  | 0, _, _, _, _, _, _, _, _, _, _ => none
  | k + 1, x5, x6, x157000, x157001, x157002, x157003, x158000, x158001, x158002, x158003 => if x5 = 0 then (gussetref14_Compare.j3 k x5 x6 (decide (x6 < (x157002.length : Int))) x157000 x157001 x157002 x157003 x158000 x158001 x158002 x158003) else (gussetref14_Compare.j3 k x5 x6 false x157000 x157001 x157002 x157003 x158000 x158001 x158002 x158003)
def gussetref14_Compare.j3 : Nat → Int → Int → Bool → Int → Int → List ByteArray → List (S25) → Int → Int → List ByteArray → List (S25) → Option (Int)
  | 0, _, _, _, _, _, _, _, _, _, _, _ => none
  | k + 1, x5, x6, x37, x157000, x157001, x157002, x157003, x158000, x158001, x158002, x158003 => if x37 = true then (if 0 ≤ x6 then (if x6 < (x157002.length : Int) then (if x6 < (x158002.length : Int) then (if (Op.bytesLess ((rdOf ByteArray.empty x157002 x6).toList) ((rdOf ByteArray.empty x158002 x6).toList)) = true then (gussetref14_Compare.l0 k (-1) (wrap64 (x6 + 1)) x157000 x157001 x157002 x157003 x158000 x158001 x158002 x158003) else (if (Op.bytesLess ((rdOf ByteArray.empty x158002 x6).toList) ((rdOf ByteArray.empty x157002 x6).toList)) = true then (gussetref14_Compare.l0 k 1 (wrap64 (x6 + 1)) x157000 x157001 x157002 x157003 x158000 x158001 x158002 x158003) else (gussetref14_Compare.l0 k x5 (wrap64 (x6 + 1)) x157000 x157001 x157002 x157003 x158000 x158001 x158002 x158003))) else (none)) else (none)) else (none)) else (if x5 = 0 then ((gussetref14_order.f (x157003.length : Int) (x158003.length : Int)).bind fun t165 => (gussetref14_Compare.j4 k t165 x157000 x157001 x157002 x157003 x158000 x158001 x158002 x158003)) else (gussetref14_Compare.j4 k x5 x157000 x157001 x157002 x157003 x158000 x158001 x158002 x158003))
def gussetref14_Compare.j4 : Nat → Int → Int → Int → List ByteArray → List (S25) → Int → Int → List ByteArray → List (S25) → Option (Int)
  | 0, _, _, _, _, _, _, _, _, _ => none
  | k + 1, x5, x157000, x157001, x157002, x157003, x158000, x158001, x158002, x158003 => gussetref14_Compare.l1 k x5 0 x157000 x157001 x157002 x157003 x158000 x158001 x158002 x158003
def gussetref14_Compare.l1 : Nat → Int → Int → Int → Int → List ByteArray → List (S25) → Int → Int → List ByteArray → List (S25) → Option (Int)
  | 0, _, _, _, _, _, _, _, _, _, _ => none
  | k + 1, x5, x7, x157000, x157001, x157002, x157003, x158000, x158001, x158002, x158003 => if x5 = 0 then (if x7 < (x157003.length : Int) then (if 0 ≤ x7 then (if x7 < (x158003.length : Int) then ((gussetref14_Compare.f k ((rd_T25 x157003 x7).f0) ((rd_T25 x157003 x7).f1) ((rd_T25 x157003 x7).f2) ((rd_T25 x157003 x7).f3) ((rd_T25 x158003 x7).f0) ((rd_T25 x158003 x7).f1) ((rd_T25 x158003 x7).f2) ((rd_T25 x158003 x7).f3)).bind fun t168 => (gussetref14_Compare.l1 k t168 (wrap64 (x7 + 1)) x157000 x157001 x157002 x157003 x158000 x158001 x158002 x158003)) else (none)) else (none)) else (some x5)) else (some x5)
def gussetref14_Compare.f : Nat → Int → Int → List ByteArray → List (S25) → Int → Int → List ByteArray → List (S25) → Option (Int)
  | 0, _, _, _, _, _, _, _, _ => none
  | k + 1, a0_0, a0_1, l0_2, l0_3, a1_0, a1_1, l1_2, l1_3 => (gussetref14_order.f a0_0 a1_0).bind fun t158 => (if t158 = 0 then ((gussetref14_order.f a0_1 a1_1).bind fun t159 => (gussetref14_Compare.j0 k t159 a0_0 a0_1 l0_2 l0_3 a1_0 a1_1 l1_2 l1_3)) else (gussetref14_Compare.j0 k t158 a0_0 a0_1 l0_2 l0_3 a1_0 a1_1 l1_2 l1_3))
end
end Go.Proofs.YtjcajpkgamolkaaDoor.PTyp
