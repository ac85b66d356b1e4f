/-
  DERIVED: THE SHELF's CONTRACTS AT THIS DUMP, IN PLAIN WORDS (tools/lay-plain.mjs out of 'YthgemodkebahoaaAFLtmp.lean', which tools/lay-shelf.mjs wrote): THE SAME DECLARATIONS UNDER THE SAME NAMES: 'import', 'namespace', 'open', 'def', 'theorem' AND NOTHING ELSE: no command of the shelf's: FOR A HAND-IN. Each laying: the table of numbers ('.._ren') and one theorem, a field a fact of the dump's own or the kernel's comparison; each contract: ONE APPLICATION.
-/
import Derived.Shelf.SlGeneric
import Derived.Ground.SlgnProg
import Derived.Ground.GgtProg
import Derived.Shelf.SlSortFuncK.SWK
import Derived.Shelf.GgSortMore.Stable
import Derived.Shelf.SlicesE.Clone
import Derived.Test.YthgemodkebahoaaProg
namespace Go.Proofs
open Go.Shelf
def Try.slStable_ren : Go.Shelf.Ren := ⟨fun | 8 => 57 | 13 => 63 | 14 => 64 | 16 => 66 | 15 => 65 | 29 => 78 | 30 => 79 | 42 => 80 | 49 => 81 | n => n, fun | 20 => 20 | 26 => 72 | 36 => 77 | 0 => 0 | 38 => 79 | 42 => 83 | 3 => 3 | 4 => 4 | 47 => 84 | 17 => 17 | 33 => 74 | 34 => 75 | 89 => 104 | 12 => 12 | 56 => 96 | 82 => 97 | 5 => 5 | 83 => 98 | 84 => 99 | 85 => 100 | 86 => 101 | 87 => 102 | n => n, fun | n => n⟩
theorem Try.slStable : Go.Proofs.LaysGt.n8 Try.prog Try.slStable_ren := {
  mixed := by kernel_rfl
  f8 := Try.func57.trans (congrArg some (by kernel_rfl))
  f13 := Try.func63.trans (congrArg some (by kernel_rfl))
  f14 := Try.func64.trans (congrArg some (by kernel_rfl))
  f15 := Try.func65.trans (congrArg some (by kernel_rfl))
  f16 := Try.func66.trans (congrArg some (by kernel_rfl))
  f29 := Try.func78.trans (congrArg some (by kernel_rfl))
  f30 := Try.func79.trans (congrArg some (by kernel_rfl))
  f42 := Try.func80.trans (congrArg some (by kernel_rfl))
  f49 := Try.func81.trans (congrArg some (by kernel_rfl))
  t0 := Try.underlying0
  a0 := Try.isAgg0
  z0 := Try.sizeOf0
  v0 := Try.zeroValue0
  i0 := by kernel_rfl
  t3 := Try.underlying3
  a3 := Try.isAgg3
  z3 := Try.sizeOf3
  v3 := Try.zeroValue3
  i3 := by kernel_rfl
  t4 := Try.underlying4
  a4 := Try.isAgg4
  z4 := Try.sizeOf4
  v4 := Try.zeroValue4
  i4 := by kernel_rfl
  t5 := Try.underlying5
  a5 := Try.isAgg5
  z5 := Try.sizeOf5
  v5 := Try.zeroValue5
  i5 := by kernel_rfl
  t12 := Try.underlying12
  a12 := Try.isAgg12
  z12 := Try.sizeOf12
  v12 := Try.zeroValue12
  i12 := by kernel_rfl
  t17 := Try.underlying17
  a17 := Try.isAgg17
  z17 := Try.sizeOf17
  v17 := Try.zeroValue17
  i17 := by kernel_rfl
  t20 := Try.underlying20
  a20 := Try.isAgg20
  z20 := Try.sizeOf20
  v20 := Try.zeroValue20
  i20 := by kernel_rfl
  t26 := Try.underlying72
  a26 := Try.isAgg72
  z26 := Try.sizeOf72
  v26 := Try.zeroValue72
  i26 := by kernel_rfl
  t33 := Try.underlying74
  a33 := Try.isAgg74
  z33 := Try.sizeOf74
  v33 := Try.zeroValue74
  i33 := by kernel_rfl
  t34 := Try.underlying75
  a34 := Try.isAgg75
  z34 := Try.sizeOf75
  v34 := Try.zeroValue75
  i34 := by kernel_rfl
  t36 := Try.underlying77
  a36 := Try.isAgg77
  z36 := Try.sizeOf77
  v36 := Try.zeroValue77
  i36 := by kernel_rfl
  t38 := Try.underlying79
  a38 := Try.isAgg79
  z38 := Try.sizeOf79
  v38 := Try.zeroValue79
  i38 := by kernel_rfl
  t42 := Try.underlying83
  a42 := Try.isAgg83
  z42 := Try.sizeOf83
  v42 := Try.zeroValue83
  i42 := by kernel_rfl
  t47 := Try.underlying84
  a47 := Try.isAgg84
  z47 := Try.sizeOf84
  v47 := Try.zeroValue84
  i47 := by kernel_rfl
  t56 := Try.underlying96
  a56 := Try.isAgg96
  z56 := Try.sizeOf96
  v56 := Try.zeroValue96
  i56 := by kernel_rfl
  t82 := Try.underlying97
  a82 := Try.isAgg97
  z82 := Try.sizeOf97
  v82 := Try.zeroValue97
  i82 := by kernel_rfl
  t83 := Try.underlying98
  a83 := Try.isAgg98
  z83 := Try.sizeOf98
  v83 := Try.zeroValue98
  i83 := by kernel_rfl
  t84 := Try.underlying99
  a84 := Try.isAgg99
  z84 := Try.sizeOf99
  v84 := Try.zeroValue99
  i84 := by kernel_rfl
  t85 := Try.underlying100
  a85 := Try.isAgg100
  z85 := Try.sizeOf100
  v85 := Try.zeroValue100
  i85 := by kernel_rfl
  t86 := Try.underlying101
  a86 := Try.isAgg101
  z86 := Try.sizeOf101
  v86 := Try.zeroValue101
  i86 := by kernel_rfl
  t87 := Try.underlying102
  a87 := Try.isAgg102
  z87 := Try.sizeOf102
  v87 := Try.zeroValue102
  i87 := by kernel_rfl
  t89 := Try.underlying104
  a89 := Try.isAgg104
  z89 := Try.sizeOf104
  v89 := Try.zeroValue104
  i89 := by kernel_rfl }
def Try.slClonePin_ren : Go.Shelf.Ren := ⟨fun | 41 => 43 | n => n, fun | 22 => 24 | 23 => 39 | 4 => 4 | n => n, fun | n => n⟩
theorem Try.slClonePin : Go.Proofs.SlLaysE0.n41 Try.prog Try.slClonePin_ren := {
  mixed := by kernel_rfl
  f41 := ⟨Try.f43.name, by decide, Try.func43.trans (congrArg some (by kernel_rfl))⟩
  t4 := Try.underlying4
  a4 := Try.isAgg4
  z4 := Try.sizeOf4
  v4 := Try.zeroValue4
  t22 := Try.underlying24
  a22 := Try.isAgg24
  z22 := Try.sizeOf24
  v22 := Try.zeroValue24 }
end Go.Proofs
