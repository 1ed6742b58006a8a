/- The library's contracts of the shelf, laid at this translation by the kit's own tools. -/
import Derived.Ground.GgsProg
import Derived.Shelf.GgSortFunc.Insertion
import Derived.Shelf.GgSortFunc.InsertionK
import Derived.Shelf.GgSortFunc.Tiny
import Derived.Shelf.GgSortFunc.Compose
import Derived.Ground.GgtProg
import Derived.Shelf.GgSortMore.Stable
import Derived.StillTailTactics
import Derived.Maps.OwnSet
import Derived.Maps.Views
import Derived.Maps.OwnOps
import Derived.Deep.DeepCutAuto
import Derived.Test.YtjdkdbeenggfaaaProg
namespace Go.Proofs
open Go.Shelf
def Try.laysGt8_ren : Go.Shelf.Ren := ⟨fun | 8 => 133 | 13 => 151 | 14 => 152 | 16 => 154 | 15 => 153 | 29 => 182 | 30 => 183 | 42 => 193 | 49 => 205 | n => n, fun | 20 => 20 | 26 => 122 | 36 => 136 | 0 => 0 | 38 => 138 | 42 => 142 | 3 => 3 | 4 => 4 | 47 => 126 | 17 => 17 | 33 => 133 | 34 => 134 | 89 => 194 | 12 => 12 | 56 => 151 | 82 => 187 | 5 => 5 | 83 => 188 | 84 => 189 | 85 => 190 | 86 => 191 | 87 => 192 | n => n, fun | n => n⟩
theorem Try.laysGt8 : Go.Proofs.LaysGt.n8 Try.prog Try.laysGt8_ren := {
  mixed := by kernel_rfl
  f8 := Try.func133.trans (congrArg some (by kernel_rfl))
  f13 := Try.func151.trans (congrArg some (by kernel_rfl))
  f14 := Try.func152.trans (congrArg some (by kernel_rfl))
  f15 := Try.func153.trans (congrArg some (by kernel_rfl))
  f16 := Try.func154.trans (congrArg some (by kernel_rfl))
  f29 := Try.func182.trans (congrArg some (by kernel_rfl))
  f30 := Try.func183.trans (congrArg some (by kernel_rfl))
  f42 := Try.func193.trans (congrArg some (by kernel_rfl))
  f49 := Try.func205.trans (congrArg some (by kernel_rfl))
  t0 := Try.underlying0
  a0 := Try.isAgg0
  z0 := Try.sizeOf0
  v0 := Try.zeroValue0
  i0 := by kernel_rfl
  t3 := Try.underlying3
  a3 := Try.isAgg3
  z3 := Try.sizeOf3
  v3 := Try.zeroValue3
  i3 := by kernel_rfl
  t4 := Try.underlying4
  a4 := Try.isAgg4
  z4 := Try.sizeOf4
  v4 := Try.zeroValue4
  i4 := by kernel_rfl
  t5 := Try.underlying5
  a5 := Try.isAgg5
  z5 := Try.sizeOf5
  v5 := Try.zeroValue5
  i5 := by kernel_rfl
  t12 := Try.underlying12
  a12 := Try.isAgg12
  z12 := Try.sizeOf12
  v12 := Try.zeroValue12
  i12 := by kernel_rfl
  t17 := Try.underlying17
  a17 := Try.isAgg17
  z17 := Try.sizeOf17
  v17 := Try.zeroValue17
  i17 := by kernel_rfl
  t20 := Try.underlying20
  a20 := Try.isAgg20
  z20 := Try.sizeOf20
  v20 := Try.zeroValue20
  i20 := by kernel_rfl
  t26 := Try.underlying122
  a26 := Try.isAgg122
  z26 := Try.sizeOf122
  v26 := Try.zeroValue122
  i26 := by kernel_rfl
  t33 := Try.underlying133
  a33 := Try.isAgg133
  z33 := Try.sizeOf133
  v33 := Try.zeroValue133
  i33 := by kernel_rfl
  t34 := Try.underlying134
  a34 := Try.isAgg134
  z34 := Try.sizeOf134
  v34 := Try.zeroValue134
  i34 := by kernel_rfl
  t36 := Try.underlying136
  a36 := Try.isAgg136
  z36 := Try.sizeOf136
  v36 := Try.zeroValue136
  i36 := by kernel_rfl
  t38 := Try.underlying138
  a38 := Try.isAgg138
  z38 := Try.sizeOf138
  v38 := Try.zeroValue138
  i38 := by kernel_rfl
  t42 := Try.underlying142
  a42 := Try.isAgg142
  z42 := Try.sizeOf142
  v42 := Try.zeroValue142
  i42 := by kernel_rfl
  t47 := Try.underlying126
  a47 := Try.isAgg126
  z47 := Try.sizeOf126
  v47 := Try.zeroValue126
  i47 := by kernel_rfl
  t56 := Try.underlying151
  a56 := Try.isAgg151
  z56 := Try.sizeOf151
  v56 := Try.zeroValue151
  i56 := by kernel_rfl
  t82 := Try.underlying187
  a82 := Try.isAgg187
  z82 := Try.sizeOf187
  v82 := Try.zeroValue187
  i82 := by kernel_rfl
  t83 := Try.underlying188
  a83 := Try.isAgg188
  z83 := Try.sizeOf188
  v83 := Try.zeroValue188
  i83 := by kernel_rfl
  t84 := Try.underlying189
  a84 := Try.isAgg189
  z84 := Try.sizeOf189
  v84 := Try.zeroValue189
  i84 := by kernel_rfl
  t85 := Try.underlying190
  a85 := Try.isAgg190
  z85 := Try.sizeOf190
  v85 := Try.zeroValue190
  i85 := by kernel_rfl
  t86 := Try.underlying191
  a86 := Try.isAgg191
  z86 := Try.sizeOf191
  v86 := Try.zeroValue191
  i86 := by kernel_rfl
  t87 := Try.underlying192
  a87 := Try.isAgg192
  z87 := Try.sizeOf192
  v87 := Try.zeroValue192
  i87 := by kernel_rfl
  t89 := Try.underlying194
  a89 := Try.isAgg194
  z89 := Try.sizeOf194
  v89 := Try.zeroValue194
  i89 := by kernel_rfl }
end Go.Proofs
