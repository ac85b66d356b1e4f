/-
  DERIVED: THE SHELF's CONTRACTS AT THIS DUMP, IN PLAIN WORDS (tools/lay-plain.mjs out of 'YtbfehdhncncgdaaIFLtmp.lean', which tools/lay-shelf.mjs wrote): THE SAME DECLARATIONS UNDER THE SAME NAMES: 'import', 'namespace', 'open', 'def', 'theorem' AND NOTHING ELSE: no command of the shelf's: FOR A HAND-IN. Each laying: the table of numbers ('.._ren') and one theorem, a field a fact of the dump's own or the kernel's comparison; each contract: ONE APPLICATION.
-/
import Derived.Shelf.SlGeneric
import Derived.Ground.SlgnProg
import Derived.Ground.GgtProg
import Derived.Shelf.SlSortFuncK.SWK
import Derived.Shelf.GgSortMore.Stable
import Derived.Shelf.SlicesE.Clone
import Derived.Test.YtbfehdhncncgdaaProg
namespace Go.Proofs
open Go.Shelf
def Try.slStable_ren : Go.Shelf.Ren := ⟨fun | 8 => 81 | 13 => 89 | 14 => 90 | 16 => 92 | 15 => 91 | 29 => 102 | 30 => 103 | 42 => 104 | 49 => 105 | n => n, fun | 20 => 20 | 26 => 94 | 36 => 99 | 0 => 0 | 38 => 101 | 42 => 105 | 3 => 3 | 4 => 4 | 47 => 112 | 17 => 17 | 33 => 96 | 34 => 97 | 89 => 127 | 12 => 12 | 56 => 119 | 82 => 120 | 5 => 5 | 83 => 121 | 84 => 122 | 85 => 123 | 86 => 124 | 87 => 125 | n => n, fun | n => n⟩
theorem Try.slStable : Go.Proofs.LaysGt.n8 Try.prog Try.slStable_ren := {
  mixed := by kernel_rfl
  f8 := Try.func81.trans (congrArg some (by kernel_rfl))
  f13 := Try.func89.trans (congrArg some (by kernel_rfl))
  f14 := Try.func90.trans (congrArg some (by kernel_rfl))
  f15 := Try.func91.trans (congrArg some (by kernel_rfl))
  f16 := Try.func92.trans (congrArg some (by kernel_rfl))
  f29 := Try.func102.trans (congrArg some (by kernel_rfl))
  f30 := Try.func103.trans (congrArg some (by kernel_rfl))
  f42 := Try.func104.trans (congrArg some (by kernel_rfl))
  f49 := Try.func105.trans (congrArg some (by kernel_rfl))
  t0 := Try.underlying0
  a0 := Try.isAgg0
  z0 := Try.sizeOf0
  v0 := Try.zeroValue0
  i0 := by kernel_rfl
  t3 := Try.underlying3
  a3 := Try.isAgg3
  z3 := Try.sizeOf3
  v3 := Try.zeroValue3
  i3 := by kernel_rfl
  t4 := Try.underlying4
  a4 := Try.isAgg4
  z4 := Try.sizeOf4
  v4 := Try.zeroValue4
  i4 := by kernel_rfl
  t5 := Try.underlying5
  a5 := Try.isAgg5
  z5 := Try.sizeOf5
  v5 := Try.zeroValue5
  i5 := by kernel_rfl
  t12 := Try.underlying12
  a12 := Try.isAgg12
  z12 := Try.sizeOf12
  v12 := Try.zeroValue12
  i12 := by kernel_rfl
  t17 := Try.underlying17
  a17 := Try.isAgg17
  z17 := Try.sizeOf17
  v17 := Try.zeroValue17
  i17 := by kernel_rfl
  t20 := Try.underlying20
  a20 := Try.isAgg20
  z20 := Try.sizeOf20
  v20 := Try.zeroValue20
  i20 := by kernel_rfl
  t26 := Try.underlying94
  a26 := Try.isAgg94
  z26 := Try.sizeOf94
  v26 := Try.zeroValue94
  i26 := by kernel_rfl
  t33 := Try.underlying96
  a33 := Try.isAgg96
  z33 := Try.sizeOf96
  v33 := Try.zeroValue96
  i33 := by kernel_rfl
  t34 := Try.underlying97
  a34 := Try.isAgg97
  z34 := Try.sizeOf97
  v34 := Try.zeroValue97
  i34 := by kernel_rfl
  t36 := Try.underlying99
  a36 := Try.isAgg99
  z36 := Try.sizeOf99
  v36 := Try.zeroValue99
  i36 := by kernel_rfl
  t38 := Try.underlying101
  a38 := Try.isAgg101
  z38 := Try.sizeOf101
  v38 := Try.zeroValue101
  i38 := by kernel_rfl
  t42 := Try.underlying105
  a42 := Try.isAgg105
  z42 := Try.sizeOf105
  v42 := Try.zeroValue105
  i42 := by kernel_rfl
  t47 := Try.underlying112
  a47 := Try.isAgg112
  z47 := Try.sizeOf112
  v47 := Try.zeroValue112
  i47 := by kernel_rfl
  t56 := Try.underlying119
  a56 := Try.isAgg119
  z56 := Try.sizeOf119
  v56 := Try.zeroValue119
  i56 := by kernel_rfl
  t82 := Try.underlying120
  a82 := Try.isAgg120
  z82 := Try.sizeOf120
  v82 := Try.zeroValue120
  i82 := by kernel_rfl
  t83 := Try.underlying121
  a83 := Try.isAgg121
  z83 := Try.sizeOf121
  v83 := Try.zeroValue121
  i83 := by kernel_rfl
  t84 := Try.underlying122
  a84 := Try.isAgg122
  z84 := Try.sizeOf122
  v84 := Try.zeroValue122
  i84 := by kernel_rfl
  t85 := Try.underlying123
  a85 := Try.isAgg123
  z85 := Try.sizeOf123
  v85 := Try.zeroValue123
  i85 := by kernel_rfl
  t86 := Try.underlying124
  a86 := Try.isAgg124
  z86 := Try.sizeOf124
  v86 := Try.zeroValue124
  i86 := by kernel_rfl
  t87 := Try.underlying125
  a87 := Try.isAgg125
  z87 := Try.sizeOf125
  v87 := Try.zeroValue125
  i87 := by kernel_rfl
  t89 := Try.underlying127
  a89 := Try.isAgg127
  z89 := Try.sizeOf127
  v89 := Try.zeroValue127
  i89 := by kernel_rfl }
def Try.slCloneHole_ren : Go.Shelf.Ren := ⟨fun | 41 => 61 | n => n, fun | 22 => 28 | 23 => 64 | 4 => 4 | n => n, fun | n => n⟩
theorem Try.slCloneHole : Go.Proofs.SlLaysE0.n41 Try.prog Try.slCloneHole_ren := {
  mixed := by kernel_rfl
  f41 := ⟨Try.f61.name, by decide, Try.func61.trans (congrArg some (by kernel_rfl))⟩
  t4 := Try.underlying4
  a4 := Try.isAgg4
  z4 := Try.sizeOf4
  v4 := Try.zeroValue4
  t22 := Try.underlying28
  a22 := Try.isAgg28
  z22 := Try.sizeOf28
  v22 := Try.zeroValue28 }
def Try.slCloneNote_ren : Go.Shelf.Ren := ⟨fun | 41 => 86 | n => n, fun | 22 => 33 | 23 => 57 | 4 => 4 | n => n, fun | n => n⟩
theorem Try.slCloneNote : Go.Proofs.SlLaysE0.n41 Try.prog Try.slCloneNote_ren := {
  mixed := by kernel_rfl
  f41 := ⟨Try.f86.name, by decide, Try.func86.trans (congrArg some (by kernel_rfl))⟩
  t4 := Try.underlying4
  a4 := Try.isAgg4
  z4 := Try.sizeOf4
  v4 := Try.zeroValue4
  t22 := Try.underlying33
  a22 := Try.isAgg33
  z22 := Try.sizeOf33
  v22 := Try.zeroValue33 }
end Go.Proofs
