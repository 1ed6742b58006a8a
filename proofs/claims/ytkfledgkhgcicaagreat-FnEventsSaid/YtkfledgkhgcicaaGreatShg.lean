/- The library's contracts of the shelf, laid at this translation by the kit's own tools. -/
import Derived.Ground.GgsProg
import Derived.Shelf.GgSortFunc.Insertion
import Derived.Shelf.GgSortFunc.InsertionK
import Derived.Shelf.GgSortFunc.Tiny
import Derived.Shelf.GgSortFunc.Compose
import Derived.Ground.GgtProg
import Derived.Shelf.GgSortMore.Stable
import Derived.StillTailTactics
import Derived.Maps.OwnSet
import Derived.Maps.Views
import Derived.Maps.OwnOps
import Derived.Deep.DeepCutAuto
import Derived.Test.YtkfledgkhgcicaaGreatProg
namespace Go.Proofs
open Go.Shelf
def Tryz.v0p : Go.Shelf.Ren := ⟨fun | 8 => 58 | 13 => 70 | 14 => 71 | 16 => 73 | 15 => 72 | 29 => 95 | 30 => 96 | 42 => 111 | 49 => 116 | n => n, fun | 20 => 20 | 26 => 75 | 36 => 84 | 0 => 0 | 38 => 86 | 42 => 90 | 3 => 3 | 4 => 4 | 47 => 80 | 17 => 17 | 33 => 81 | 34 => 82 | 89 => 137 | 12 => 12 | 56 => 99 | 82 => 130 | 5 => 5 | 83 => 131 | 84 => 132 | 85 => 133 | 86 => 134 | 87 => 135 | n => n, fun | n => n⟩
theorem Tryz.v1y : Go.Proofs.LaysGt.n8 Tryz.prog Tryz.v0p := {
  mixed := by kernel_rfl
  f8 := Tryz.func58.trans (congrArg some (by kernel_rfl))
  f13 := Tryz.func70.trans (congrArg some (by kernel_rfl))
  f14 := Tryz.func71.trans (congrArg some (by kernel_rfl))
  f15 := Tryz.func72.trans (congrArg some (by kernel_rfl))
  f16 := Tryz.func73.trans (congrArg some (by kernel_rfl))
  f29 := Tryz.func95.trans (congrArg some (by kernel_rfl))
  f30 := Tryz.func96.trans (congrArg some (by kernel_rfl))
  f42 := Tryz.func111.trans (congrArg some (by kernel_rfl))
  f49 := Tryz.func116.trans (congrArg some (by kernel_rfl))
  t0 := Tryz.underlying0
  a0 := Tryz.isAgg0
  z0 := Tryz.sizeOf0
  v0 := Tryz.zeroValue0
  i0 := by kernel_rfl
  t3 := Tryz.underlying3
  a3 := Tryz.isAgg3
  z3 := Tryz.sizeOf3
  v3 := Tryz.zeroValue3
  i3 := by kernel_rfl
  t4 := Tryz.underlying4
  a4 := Tryz.isAgg4
  z4 := Tryz.sizeOf4
  v4 := Tryz.zeroValue4
  i4 := by kernel_rfl
  t5 := Tryz.underlying5
  a5 := Tryz.isAgg5
  z5 := Tryz.sizeOf5
  v5 := Tryz.zeroValue5
  i5 := by kernel_rfl
  t12 := Tryz.underlying12
  a12 := Tryz.isAgg12
  z12 := Tryz.sizeOf12
  v12 := Tryz.zeroValue12
  i12 := by kernel_rfl
  t17 := Tryz.underlying17
  a17 := Tryz.isAgg17
  z17 := Tryz.sizeOf17
  v17 := Tryz.zeroValue17
  i17 := by kernel_rfl
  t20 := Tryz.underlying20
  a20 := Tryz.isAgg20
  z20 := Tryz.sizeOf20
  v20 := Tryz.zeroValue20
  i20 := by kernel_rfl
  t26 := Tryz.underlying75
  a26 := Tryz.isAgg75
  z26 := Tryz.sizeOf75
  v26 := Tryz.zeroValue75
  i26 := by kernel_rfl
  t33 := Tryz.underlying81
  a33 := Tryz.isAgg81
  z33 := Tryz.sizeOf81
  v33 := Tryz.zeroValue81
  i33 := by kernel_rfl
  t34 := Tryz.underlying82
  a34 := Tryz.isAgg82
  z34 := Tryz.sizeOf82
  v34 := Tryz.zeroValue82
  i34 := by kernel_rfl
  t36 := Tryz.underlying84
  a36 := Tryz.isAgg84
  z36 := Tryz.sizeOf84
  v36 := Tryz.zeroValue84
  i36 := by kernel_rfl
  t38 := Tryz.underlying86
  a38 := Tryz.isAgg86
  z38 := Tryz.sizeOf86
  v38 := Tryz.zeroValue86
  i38 := by kernel_rfl
  t42 := Tryz.underlying90
  a42 := Tryz.isAgg90
  z42 := Tryz.sizeOf90
  v42 := Tryz.zeroValue90
  i42 := by kernel_rfl
  t47 := Tryz.underlying80
  a47 := Tryz.isAgg80
  z47 := Tryz.sizeOf80
  v47 := Tryz.zeroValue80
  i47 := by kernel_rfl
  t56 := Tryz.underlying99
  a56 := Tryz.isAgg99
  z56 := Tryz.sizeOf99
  v56 := Tryz.zeroValue99
  i56 := by kernel_rfl
  t82 := Tryz.underlying130
  a82 := Tryz.isAgg130
  z82 := Tryz.sizeOf130
  v82 := Tryz.zeroValue130
  i82 := by kernel_rfl
  t83 := Tryz.underlying131
  a83 := Tryz.isAgg131
  z83 := Tryz.sizeOf131
  v83 := Tryz.zeroValue131
  i83 := by kernel_rfl
  t84 := Tryz.underlying132
  a84 := Tryz.isAgg132
  z84 := Tryz.sizeOf132
  v84 := Tryz.zeroValue132
  i84 := by kernel_rfl
  t85 := Tryz.underlying133
  a85 := Tryz.isAgg133
  z85 := Tryz.sizeOf133
  v85 := Tryz.zeroValue133
  i85 := by kernel_rfl
  t86 := Tryz.underlying134
  a86 := Tryz.isAgg134
  z86 := Tryz.sizeOf134
  v86 := Tryz.zeroValue134
  i86 := by kernel_rfl
  t87 := Tryz.underlying135
  a87 := Tryz.isAgg135
  z87 := Tryz.sizeOf135
  v87 := Tryz.zeroValue135
  i87 := by kernel_rfl
  t89 := Tryz.underlying137
  a89 := Tryz.isAgg137
  z89 := Tryz.sizeOf137
  v89 := Tryz.zeroValue137
  i89 := by kernel_rfl }
end Go.Proofs
