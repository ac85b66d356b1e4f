/-
  DERIVED: THE SHELF's CONTRACTS AT THIS DUMP, IN PLAIN WORDS (tools/lay-plain.mjs out of 'YtjidioekeinppaaBFLtmp.lean', which tools/lay-shelf.mjs wrote): THE SAME DECLARATIONS UNDER THE SAME NAMES: 'import', 'namespace', 'open', 'def', 'theorem' AND NOTHING ELSE: no command of the shelf's: FOR A HAND-IN. Each laying: the table of numbers ('.._ren') and one theorem, a field a fact of the dump's own or the kernel's comparison; each contract: ONE APPLICATION.
-/
import Derived.Shelf.SlGeneric
import Derived.Ground.SlgnProg
import Derived.Ground.GgtProg
import Derived.Shelf.SlSortFuncK.SWK
import Derived.Shelf.GgSortMore.Stable
import Derived.Shelf.SlicesE.Clone
import Derived.Test.YtjidioekeinppaaProg
namespace Go.Proofs
open Go.Shelf
def Try.slStable_ren : Go.Shelf.Ren := ⟨fun | 8 => 110 | 13 => 117 | 14 => 118 | 16 => 120 | 15 => 119 | 29 => 132 | 30 => 133 | 42 => 145 | 49 => 152 | n => n, fun | 20 => 20 | 26 => 103 | 36 => 107 | 0 => 0 | 38 => 109 | 42 => 113 | 3 => 3 | 4 => 4 | 47 => 117 | 17 => 17 | 33 => 104 | 34 => 105 | 89 => 155 | 12 => 12 | 56 => 130 | 82 => 148 | 5 => 5 | 83 => 149 | 84 => 150 | 85 => 151 | 86 => 152 | 87 => 153 | n => n, fun | n => n⟩
theorem Try.slStable : Go.Proofs.LaysGt.n8 Try.prog Try.slStable_ren := {
  mixed := by kernel_rfl
  f8 := Try.func110.trans (congrArg some (by kernel_rfl))
  f13 := Try.func117.trans (congrArg some (by kernel_rfl))
  f14 := Try.func118.trans (congrArg some (by kernel_rfl))
  f15 := Try.func119.trans (congrArg some (by kernel_rfl))
  f16 := Try.func120.trans (congrArg some (by kernel_rfl))
  f29 := Try.func132.trans (congrArg some (by kernel_rfl))
  f30 := Try.func133.trans (congrArg some (by kernel_rfl))
  f42 := Try.func145.trans (congrArg some (by kernel_rfl))
  f49 := Try.func152.trans (congrArg some (by kernel_rfl))
  t0 := Try.underlying0
  a0 := Try.isAgg0
  z0 := Try.sizeOf0
  v0 := Try.zeroValue0
  i0 := by kernel_rfl
  t3 := Try.underlying3
  a3 := Try.isAgg3
  z3 := Try.sizeOf3
  v3 := Try.zeroValue3
  i3 := by kernel_rfl
  t4 := Try.underlying4
  a4 := Try.isAgg4
  z4 := Try.sizeOf4
  v4 := Try.zeroValue4
  i4 := by kernel_rfl
  t5 := Try.underlying5
  a5 := Try.isAgg5
  z5 := Try.sizeOf5
  v5 := Try.zeroValue5
  i5 := by kernel_rfl
  t12 := Try.underlying12
  a12 := Try.isAgg12
  z12 := Try.sizeOf12
  v12 := Try.zeroValue12
  i12 := by kernel_rfl
  t17 := Try.underlying17
  a17 := Try.isAgg17
  z17 := Try.sizeOf17
  v17 := Try.zeroValue17
  i17 := by kernel_rfl
  t20 := Try.underlying20
  a20 := Try.isAgg20
  z20 := Try.sizeOf20
  v20 := Try.zeroValue20
  i20 := by kernel_rfl
  t26 := Try.underlying103
  a26 := Try.isAgg103
  z26 := Try.sizeOf103
  v26 := Try.zeroValue103
  i26 := by kernel_rfl
  t33 := Try.underlying104
  a33 := Try.isAgg104
  z33 := Try.sizeOf104
  v33 := Try.zeroValue104
  i33 := by kernel_rfl
  t34 := Try.underlying105
  a34 := Try.isAgg105
  z34 := Try.sizeOf105
  v34 := Try.zeroValue105
  i34 := by kernel_rfl
  t36 := Try.underlying107
  a36 := Try.isAgg107
  z36 := Try.sizeOf107
  v36 := Try.zeroValue107
  i36 := by kernel_rfl
  t38 := Try.underlying109
  a38 := Try.isAgg109
  z38 := Try.sizeOf109
  v38 := Try.zeroValue109
  i38 := by kernel_rfl
  t42 := Try.underlying113
  a42 := Try.isAgg113
  z42 := Try.sizeOf113
  v42 := Try.zeroValue113
  i42 := by kernel_rfl
  t47 := Try.underlying117
  a47 := Try.isAgg117
  z47 := Try.sizeOf117
  v47 := Try.zeroValue117
  i47 := by kernel_rfl
  t56 := Try.underlying130
  a56 := Try.isAgg130
  z56 := Try.sizeOf130
  v56 := Try.zeroValue130
  i56 := by kernel_rfl
  t82 := Try.underlying148
  a82 := Try.isAgg148
  z82 := Try.sizeOf148
  v82 := Try.zeroValue148
  i82 := by kernel_rfl
  t83 := Try.underlying149
  a83 := Try.isAgg149
  z83 := Try.sizeOf149
  v83 := Try.zeroValue149
  i83 := by kernel_rfl
  t84 := Try.underlying150
  a84 := Try.isAgg150
  z84 := Try.sizeOf150
  v84 := Try.zeroValue150
  i84 := by kernel_rfl
  t85 := Try.underlying151
  a85 := Try.isAgg151
  z85 := Try.sizeOf151
  v85 := Try.zeroValue151
  i85 := by kernel_rfl
  t86 := Try.underlying152
  a86 := Try.isAgg152
  z86 := Try.sizeOf152
  v86 := Try.zeroValue152
  i86 := by kernel_rfl
  t87 := Try.underlying153
  a87 := Try.isAgg153
  z87 := Try.sizeOf153
  v87 := Try.zeroValue153
  i87 := by kernel_rfl
  t89 := Try.underlying155
  a89 := Try.isAgg155
  z89 := Try.sizeOf155
  v89 := Try.zeroValue155
  i89 := by kernel_rfl }
def Try.slCloneNote_ren : Go.Shelf.Ren := ⟨fun | 41 => 109 | n => n, fun | 22 => 59 | 23 => 37 | 4 => 4 | n => n, fun | n => n⟩
theorem Try.slCloneNote : Go.Proofs.SlLaysE0.n41 Try.prog Try.slCloneNote_ren := {
  mixed := by kernel_rfl
  f41 := ⟨Try.f109.name, by decide, Try.func109.trans (congrArg some (by kernel_rfl))⟩
  t4 := Try.underlying4
  a4 := Try.isAgg4
  z4 := Try.sizeOf4
  v4 := Try.zeroValue4
  t22 := Try.underlying59
  a22 := Try.isAgg59
  z22 := Try.sizeOf59
  v22 := Try.zeroValue59 }
end Go.Proofs
