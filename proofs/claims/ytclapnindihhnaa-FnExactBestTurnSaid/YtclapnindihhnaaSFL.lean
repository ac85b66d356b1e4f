/-
  DERIVED: THE SHELF's CONTRACTS AT THIS DUMP, IN PLAIN WORDS (tools/lay-plain.mjs out of 'YtclapnindihhnaaSFLtmp.lean', which tools/lay-shelf.mjs wrote): THE SAME DECLARATIONS UNDER THE SAME NAMES: 'import', 'namespace', 'open', 'def', 'theorem' AND NOTHING ELSE: no command of the shelf's: FOR A HAND-IN. Each laying: the table of numbers ('.._ren') and one theorem, a field a fact of the dump's own or the kernel's comparison; each contract: ONE APPLICATION.
-/
import Derived.Shelf.SlGeneric
import Derived.Ground.SlgnProg
import Derived.Ground.GgtProg
import Derived.Shelf.SlSortFuncK.SWK
import Derived.Shelf.GgSortMore.Stable
import Derived.Shelf.SlicesE.Clone
import Derived.Test.YtclapnindihhnaaProg
namespace Go.Proofs
open Go.Shelf
def Try.slStable_ren : Go.Shelf.Ren := ⟨fun | 8 => 74 | 13 => 79 | 14 => 80 | 16 => 82 | 15 => 81 | 29 => 94 | 30 => 95 | 42 => 96 | 49 => 97 | n => n, fun | 20 => 20 | 26 => 67 | 36 => 73 | 0 => 0 | 38 => 75 | 42 => 79 | 3 => 3 | 4 => 4 | 47 => 86 | 17 => 17 | 33 => 70 | 34 => 71 | 89 => 101 | 12 => 12 | 56 => 93 | 82 => 94 | 5 => 5 | 83 => 95 | 84 => 96 | 85 => 97 | 86 => 98 | 87 => 99 | n => n, fun | n => n⟩
theorem Try.slStable : Go.Proofs.LaysGt.n8 Try.prog Try.slStable_ren := {
  mixed := by kernel_rfl
  f8 := Try.func74.trans (congrArg some (by kernel_rfl))
  f13 := Try.func79.trans (congrArg some (by kernel_rfl))
  f14 := Try.func80.trans (congrArg some (by kernel_rfl))
  f15 := Try.func81.trans (congrArg some (by kernel_rfl))
  f16 := Try.func82.trans (congrArg some (by kernel_rfl))
  f29 := Try.func94.trans (congrArg some (by kernel_rfl))
  f30 := Try.func95.trans (congrArg some (by kernel_rfl))
  f42 := Try.func96.trans (congrArg some (by kernel_rfl))
  f49 := Try.func97.trans (congrArg some (by kernel_rfl))
  t0 := Try.underlying0
  a0 := Try.isAgg0
  z0 := Try.sizeOf0
  v0 := Try.zeroValue0
  i0 := by kernel_rfl
  t3 := Try.underlying3
  a3 := Try.isAgg3
  z3 := Try.sizeOf3
  v3 := Try.zeroValue3
  i3 := by kernel_rfl
  t4 := Try.underlying4
  a4 := Try.isAgg4
  z4 := Try.sizeOf4
  v4 := Try.zeroValue4
  i4 := by kernel_rfl
  t5 := Try.underlying5
  a5 := Try.isAgg5
  z5 := Try.sizeOf5
  v5 := Try.zeroValue5
  i5 := by kernel_rfl
  t12 := Try.underlying12
  a12 := Try.isAgg12
  z12 := Try.sizeOf12
  v12 := Try.zeroValue12
  i12 := by kernel_rfl
  t17 := Try.underlying17
  a17 := Try.isAgg17
  z17 := Try.sizeOf17
  v17 := Try.zeroValue17
  i17 := by kernel_rfl
  t20 := Try.underlying20
  a20 := Try.isAgg20
  z20 := Try.sizeOf20
  v20 := Try.zeroValue20
  i20 := by kernel_rfl
  t26 := Try.underlying67
  a26 := Try.isAgg67
  z26 := Try.sizeOf67
  v26 := Try.zeroValue67
  i26 := by kernel_rfl
  t33 := Try.underlying70
  a33 := Try.isAgg70
  z33 := Try.sizeOf70
  v33 := Try.zeroValue70
  i33 := by kernel_rfl
  t34 := Try.underlying71
  a34 := Try.isAgg71
  z34 := Try.sizeOf71
  v34 := Try.zeroValue71
  i34 := by kernel_rfl
  t36 := Try.underlying73
  a36 := Try.isAgg73
  z36 := Try.sizeOf73
  v36 := Try.zeroValue73
  i36 := by kernel_rfl
  t38 := Try.underlying75
  a38 := Try.isAgg75
  z38 := Try.sizeOf75
  v38 := Try.zeroValue75
  i38 := by kernel_rfl
  t42 := Try.underlying79
  a42 := Try.isAgg79
  z42 := Try.sizeOf79
  v42 := Try.zeroValue79
  i42 := by kernel_rfl
  t47 := Try.underlying86
  a47 := Try.isAgg86
  z47 := Try.sizeOf86
  v47 := Try.zeroValue86
  i47 := by kernel_rfl
  t56 := Try.underlying93
  a56 := Try.isAgg93
  z56 := Try.sizeOf93
  v56 := Try.zeroValue93
  i56 := by kernel_rfl
  t82 := Try.underlying94
  a82 := Try.isAgg94
  z82 := Try.sizeOf94
  v82 := Try.zeroValue94
  i82 := by kernel_rfl
  t83 := Try.underlying95
  a83 := Try.isAgg95
  z83 := Try.sizeOf95
  v83 := Try.zeroValue95
  i83 := by kernel_rfl
  t84 := Try.underlying96
  a84 := Try.isAgg96
  z84 := Try.sizeOf96
  v84 := Try.zeroValue96
  i84 := by kernel_rfl
  t85 := Try.underlying97
  a85 := Try.isAgg97
  z85 := Try.sizeOf97
  v85 := Try.zeroValue97
  i85 := by kernel_rfl
  t86 := Try.underlying98
  a86 := Try.isAgg98
  z86 := Try.sizeOf98
  v86 := Try.zeroValue98
  i86 := by kernel_rfl
  t87 := Try.underlying99
  a87 := Try.isAgg99
  z87 := Try.sizeOf99
  v87 := Try.zeroValue99
  i87 := by kernel_rfl
  t89 := Try.underlying101
  a89 := Try.isAgg101
  z89 := Try.sizeOf101
  v89 := Try.zeroValue101
  i89 := by kernel_rfl }
def Try.slClonePin_ren : Go.Shelf.Ren := ⟨fun | 41 => 66 | n => n, fun | 22 => 25 | 23 => 50 | 4 => 4 | n => n, fun | n => n⟩
theorem Try.slClonePin : Go.Proofs.SlLaysE0.n41 Try.prog Try.slClonePin_ren := {
  mixed := by kernel_rfl
  f41 := ⟨Try.f66.name, by decide, Try.func66.trans (congrArg some (by kernel_rfl))⟩
  t4 := Try.underlying4
  a4 := Try.isAgg4
  z4 := Try.sizeOf4
  v4 := Try.zeroValue4
  t22 := Try.underlying25
  a22 := Try.isAgg25
  z22 := Try.sizeOf25
  v22 := Try.zeroValue25 }
end Go.Proofs
