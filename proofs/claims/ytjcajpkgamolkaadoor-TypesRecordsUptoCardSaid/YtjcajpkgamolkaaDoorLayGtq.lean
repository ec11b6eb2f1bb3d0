/- LayGt, as this claim needs it. -/
import Derived.Shelf.Small.Strs
import Derived.Shelf.LaysM
import Derived.Ground.GgsProg
import Derived.Shelf.GgSortFunc.Insertion
import Derived.Shelf.GgSortFunc.InsertionK
import Derived.Shelf.GgSortFunc.Tiny
import Derived.Shelf.GgSortFunc.Compose
import Derived.Ground.GgtProg
import Derived.Shelf.GgSortMore.Stable
import Derived.Test.YtjcajpkgamolkaaDoorProg
namespace Go.Proofs
open Go.Shelf
def Tryd.laysGt8_ren : Go.Shelf.Ren := ⟨fun | 8 => 43 | 13 => 61 | 14 => 62 | 16 => 64 | 15 => 63 | 29 => 91 | 30 => 92 | 42 => 120 | 49 => 136 | n => n, fun | 20 => 20 | 26 => 67 | 36 => 81 | 0 => 0 | 38 => 83 | 42 => 87 | 3 => 3 | 4 => 4 | 47 => 116 | 17 => 17 | 33 => 78 | 34 => 79 | 89 => 157 | 12 => 12 | 56 => 135 | 82 => 151 | 5 => 5 | 83 => 152 | 84 => 153 | 85 => 114 | 86 => 154 | 87 => 155 | n => n, fun | n => n⟩
theorem Tryd.laysGt8 : Go.Proofs.LaysGt.n8 Tryd.prog Tryd.laysGt8_ren := {
  mixed := by kernel_rfl
  f8 := Tryd.func43.trans (congrArg some (by kernel_rfl))
  f13 := Tryd.func61.trans (congrArg some (by kernel_rfl))
  f14 := Tryd.func62.trans (congrArg some (by kernel_rfl))
  f15 := Tryd.func63.trans (congrArg some (by kernel_rfl))
  f16 := Tryd.func64.trans (congrArg some (by kernel_rfl))
  f29 := Tryd.func91.trans (congrArg some (by kernel_rfl))
  f30 := Tryd.func92.trans (congrArg some (by kernel_rfl))
  f42 := Tryd.func120.trans (congrArg some (by kernel_rfl))
  f49 := Tryd.func136.trans (congrArg some (by kernel_rfl))
  t0 := Tryd.underlying0
  a0 := Tryd.isAgg0
  z0 := Tryd.sizeOf0
  v0 := Tryd.zeroValue0
  i0 := by kernel_rfl
  t3 := Tryd.underlying3
  a3 := Tryd.isAgg3
  z3 := Tryd.sizeOf3
  v3 := Tryd.zeroValue3
  i3 := by kernel_rfl
  t4 := Tryd.underlying4
  a4 := Tryd.isAgg4
  z4 := Tryd.sizeOf4
  v4 := Tryd.zeroValue4
  i4 := by kernel_rfl
  t5 := Tryd.underlying5
  a5 := Tryd.isAgg5
  z5 := Tryd.sizeOf5
  v5 := Tryd.zeroValue5
  i5 := by kernel_rfl
  t12 := Tryd.underlying12
  a12 := Tryd.isAgg12
  z12 := Tryd.sizeOf12
  v12 := Tryd.zeroValue12
  i12 := by kernel_rfl
  t17 := Tryd.underlying17
  a17 := Tryd.isAgg17
  z17 := Tryd.sizeOf17
  v17 := Tryd.zeroValue17
  i17 := by kernel_rfl
  t20 := Tryd.underlying20
  a20 := Tryd.isAgg20
  z20 := Tryd.sizeOf20
  v20 := Tryd.zeroValue20
  i20 := by kernel_rfl
  t26 := Tryd.underlying67
  a26 := Tryd.isAgg67
  z26 := Tryd.sizeOf67
  v26 := Tryd.zeroValue67
  i26 := by kernel_rfl
  t33 := Tryd.underlying78
  a33 := Tryd.isAgg78
  z33 := Tryd.sizeOf78
  v33 := Tryd.zeroValue78
  i33 := by kernel_rfl
  t34 := Tryd.underlying79
  a34 := Tryd.isAgg79
  z34 := Tryd.sizeOf79
  v34 := Tryd.zeroValue79
  i34 := by kernel_rfl
  t36 := Tryd.underlying81
  a36 := Tryd.isAgg81
  z36 := Tryd.sizeOf81
  v36 := Tryd.zeroValue81
  i36 := by kernel_rfl
  t38 := Tryd.underlying83
  a38 := Tryd.isAgg83
  z38 := Tryd.sizeOf83
  v38 := Tryd.zeroValue83
  i38 := by kernel_rfl
  t42 := Tryd.underlying87
  a42 := Tryd.isAgg87
  z42 := Tryd.sizeOf87
  v42 := Tryd.zeroValue87
  i42 := by kernel_rfl
  t47 := Tryd.underlying116
  a47 := Tryd.isAgg116
  z47 := Tryd.sizeOf116
  v47 := Tryd.zeroValue116
  i47 := by kernel_rfl
  t56 := Tryd.underlying135
  a56 := Tryd.isAgg135
  z56 := Tryd.sizeOf135
  v56 := Tryd.zeroValue135
  i56 := by kernel_rfl
  t82 := Tryd.underlying151
  a82 := Tryd.isAgg151
  z82 := Tryd.sizeOf151
  v82 := Tryd.zeroValue151
  i82 := by kernel_rfl
  t83 := Tryd.underlying152
  a83 := Tryd.isAgg152
  z83 := Tryd.sizeOf152
  v83 := Tryd.zeroValue152
  i83 := by kernel_rfl
  t84 := Tryd.underlying153
  a84 := Tryd.isAgg153
  z84 := Tryd.sizeOf153
  v84 := Tryd.zeroValue153
  i84 := by kernel_rfl
  t85 := Tryd.underlying114
  a85 := Tryd.isAgg114
  z85 := Tryd.sizeOf114
  v85 := Tryd.zeroValue114
  i85 := by kernel_rfl
  t86 := Tryd.underlying154
  a86 := Tryd.isAgg154
  z86 := Tryd.sizeOf154
  v86 := Tryd.zeroValue154
  i86 := by kernel_rfl
  t87 := Tryd.underlying155
  a87 := Tryd.isAgg155
  z87 := Tryd.sizeOf155
  v87 := Tryd.zeroValue155
  i87 := by kernel_rfl
  t89 := Tryd.underlying157
  a89 := Tryd.isAgg157
  z89 := Tryd.sizeOf157
  v89 := Tryd.zeroValue157
  i89 := by kernel_rfl }
end Go.Proofs
