/-
  DERIVED: THE SHELF's CONTRACTS AT THIS DUMP, IN PLAIN WORDS (tools/lay-plain.mjs out of 'YtafapmanfncfkaaDFLtmp.lean', which tools/lay-shelf.mjs wrote): THE SAME DECLARATIONS UNDER THE SAME NAMES: 'import', 'namespace', 'open', 'def', 'theorem' AND NOTHING ELSE: no command of the shelf's: FOR A HAND-IN. Each laying: the table of numbers ('.._ren') and one theorem, a field a fact of the dump's own or the kernel's comparison; each contract: ONE APPLICATION.
-/
import Derived.Shelf.SlGeneric
import Derived.Ground.SlgnProg
import Derived.Ground.GgtProg
import Derived.Shelf.SlSortFuncK.SWK
import Derived.Shelf.GgSortMore.Stable
import Derived.Shelf.SlicesE.Clone
import Derived.Test.YtafapmanfncfkaaProg
namespace Go.Proofs
open Go.Shelf
def Try.slStable_ren : Go.Shelf.Ren := ⟨fun | 8 => 79 | 13 => 87 | 14 => 88 | 16 => 90 | 15 => 89 | 29 => 101 | 30 => 102 | 42 => 103 | 49 => 104 | n => n, fun | 20 => 20 | 26 => 91 | 36 => 96 | 0 => 0 | 38 => 98 | 42 => 102 | 3 => 3 | 4 => 4 | 47 => 109 | 17 => 17 | 33 => 93 | 34 => 94 | 89 => 124 | 12 => 12 | 56 => 116 | 82 => 117 | 5 => 5 | 83 => 118 | 84 => 119 | 85 => 120 | 86 => 121 | 87 => 122 | n => n, fun | n => n⟩
theorem Try.slStable : Go.Proofs.LaysGt.n8 Try.prog Try.slStable_ren := {
  mixed := by kernel_rfl
  f8 := Try.func79.trans (congrArg some (by kernel_rfl))
  f13 := Try.func87.trans (congrArg some (by kernel_rfl))
  f14 := Try.func88.trans (congrArg some (by kernel_rfl))
  f15 := Try.func89.trans (congrArg some (by kernel_rfl))
  f16 := Try.func90.trans (congrArg some (by kernel_rfl))
  f29 := Try.func101.trans (congrArg some (by kernel_rfl))
  f30 := Try.func102.trans (congrArg some (by kernel_rfl))
  f42 := Try.func103.trans (congrArg some (by kernel_rfl))
  f49 := Try.func104.trans (congrArg some (by kernel_rfl))
  t0 := Try.underlying0
  a0 := Try.isAgg0
  z0 := Try.sizeOf0
  v0 := Try.zeroValue0
  i0 := by kernel_rfl
  t3 := Try.underlying3
  a3 := Try.isAgg3
  z3 := Try.sizeOf3
  v3 := Try.zeroValue3
  i3 := by kernel_rfl
  t4 := Try.underlying4
  a4 := Try.isAgg4
  z4 := Try.sizeOf4
  v4 := Try.zeroValue4
  i4 := by kernel_rfl
  t5 := Try.underlying5
  a5 := Try.isAgg5
  z5 := Try.sizeOf5
  v5 := Try.zeroValue5
  i5 := by kernel_rfl
  t12 := Try.underlying12
  a12 := Try.isAgg12
  z12 := Try.sizeOf12
  v12 := Try.zeroValue12
  i12 := by kernel_rfl
  t17 := Try.underlying17
  a17 := Try.isAgg17
  z17 := Try.sizeOf17
  v17 := Try.zeroValue17
  i17 := by kernel_rfl
  t20 := Try.underlying20
  a20 := Try.isAgg20
  z20 := Try.sizeOf20
  v20 := Try.zeroValue20
  i20 := by kernel_rfl
  t26 := Try.underlying91
  a26 := Try.isAgg91
  z26 := Try.sizeOf91
  v26 := Try.zeroValue91
  i26 := by kernel_rfl
  t33 := Try.underlying93
  a33 := Try.isAgg93
  z33 := Try.sizeOf93
  v33 := Try.zeroValue93
  i33 := by kernel_rfl
  t34 := Try.underlying94
  a34 := Try.isAgg94
  z34 := Try.sizeOf94
  v34 := Try.zeroValue94
  i34 := by kernel_rfl
  t36 := Try.underlying96
  a36 := Try.isAgg96
  z36 := Try.sizeOf96
  v36 := Try.zeroValue96
  i36 := by kernel_rfl
  t38 := Try.underlying98
  a38 := Try.isAgg98
  z38 := Try.sizeOf98
  v38 := Try.zeroValue98
  i38 := by kernel_rfl
  t42 := Try.underlying102
  a42 := Try.isAgg102
  z42 := Try.sizeOf102
  v42 := Try.zeroValue102
  i42 := by kernel_rfl
  t47 := Try.underlying109
  a47 := Try.isAgg109
  z47 := Try.sizeOf109
  v47 := Try.zeroValue109
  i47 := by kernel_rfl
  t56 := Try.underlying116
  a56 := Try.isAgg116
  z56 := Try.sizeOf116
  v56 := Try.zeroValue116
  i56 := by kernel_rfl
  t82 := Try.underlying117
  a82 := Try.isAgg117
  z82 := Try.sizeOf117
  v82 := Try.zeroValue117
  i82 := by kernel_rfl
  t83 := Try.underlying118
  a83 := Try.isAgg118
  z83 := Try.sizeOf118
  v83 := Try.zeroValue118
  i83 := by kernel_rfl
  t84 := Try.underlying119
  a84 := Try.isAgg119
  z84 := Try.sizeOf119
  v84 := Try.zeroValue119
  i84 := by kernel_rfl
  t85 := Try.underlying120
  a85 := Try.isAgg120
  z85 := Try.sizeOf120
  v85 := Try.zeroValue120
  i85 := by kernel_rfl
  t86 := Try.underlying121
  a86 := Try.isAgg121
  z86 := Try.sizeOf121
  v86 := Try.zeroValue121
  i86 := by kernel_rfl
  t87 := Try.underlying122
  a87 := Try.isAgg122
  z87 := Try.sizeOf122
  v87 := Try.zeroValue122
  i87 := by kernel_rfl
  t89 := Try.underlying124
  a89 := Try.isAgg124
  z89 := Try.sizeOf124
  v89 := Try.zeroValue124
  i89 := by kernel_rfl }
def Try.slCloneNote_ren : Go.Shelf.Ren := ⟨fun | 41 => 64 | n => n, fun | 22 => 32 | 23 => 55 | 4 => 4 | n => n, fun | n => n⟩
theorem Try.slCloneNote : Go.Proofs.SlLaysE0.n41 Try.prog Try.slCloneNote_ren := {
  mixed := by kernel_rfl
  f41 := ⟨Try.f64.name, by decide, Try.func64.trans (congrArg some (by kernel_rfl))⟩
  t4 := Try.underlying4
  a4 := Try.isAgg4
  z4 := Try.sizeOf4
  v4 := Try.zeroValue4
  t22 := Try.underlying32
  a22 := Try.isAgg32
  z22 := Try.sizeOf32
  v22 := Try.zeroValue32 }
end Go.Proofs
