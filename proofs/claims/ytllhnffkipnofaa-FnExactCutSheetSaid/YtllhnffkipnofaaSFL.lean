/-
  DERIVED: THE SHELF's CONTRACTS AT THIS DUMP, IN PLAIN WORDS (tools/lay-plain.mjs out of 'YtllhnffkipnofaaSFLtmp.lean', which tools/lay-shelf.mjs wrote): THE SAME DECLARATIONS UNDER THE SAME NAMES: 'import', 'namespace', 'open', 'def', 'theorem' AND NOTHING ELSE: no command of the shelf's: FOR A HAND-IN. Each laying: the table of numbers ('.._ren') and one theorem, a field a fact of the dump's own or the kernel's comparison; each contract: ONE APPLICATION.
-/
import Derived.Shelf.SlGeneric
import Derived.Ground.SlgnProg
import Derived.Ground.GgtProg
import Derived.Shelf.SlSortFuncK.SWK
import Derived.Shelf.GgSortMore.Stable
import Derived.Shelf.SlicesE.Clone
import Derived.Test.YtllhnffkipnofaaProg
namespace Go.Proofs
open Go.Shelf
def Try.slStable_ren : Go.Shelf.Ren := ⟨fun | 8 => 51 | 13 => 57 | 14 => 58 | 16 => 60 | 15 => 59 | 29 => 72 | 30 => 73 | 42 => 85 | 49 => 92 | n => n, fun | 20 => 20 | 26 => 58 | 36 => 64 | 0 => 0 | 38 => 66 | 42 => 70 | 3 => 3 | 4 => 4 | 47 => 74 | 17 => 17 | 33 => 61 | 34 => 62 | 89 => 114 | 12 => 12 | 56 => 89 | 82 => 107 | 5 => 5 | 83 => 108 | 84 => 109 | 85 => 110 | 86 => 111 | 87 => 112 | n => n, fun | n => n⟩
theorem Try.slStable : Go.Proofs.LaysGt.n8 Try.prog Try.slStable_ren := {
  mixed := by kernel_rfl
  f8 := Try.func51.trans (congrArg some (by kernel_rfl))
  f13 := Try.func57.trans (congrArg some (by kernel_rfl))
  f14 := Try.func58.trans (congrArg some (by kernel_rfl))
  f15 := Try.func59.trans (congrArg some (by kernel_rfl))
  f16 := Try.func60.trans (congrArg some (by kernel_rfl))
  f29 := Try.func72.trans (congrArg some (by kernel_rfl))
  f30 := Try.func73.trans (congrArg some (by kernel_rfl))
  f42 := Try.func85.trans (congrArg some (by kernel_rfl))
  f49 := Try.func92.trans (congrArg some (by kernel_rfl))
  t0 := Try.underlying0
  a0 := Try.isAgg0
  z0 := Try.sizeOf0
  v0 := Try.zeroValue0
  i0 := by kernel_rfl
  t3 := Try.underlying3
  a3 := Try.isAgg3
  z3 := Try.sizeOf3
  v3 := Try.zeroValue3
  i3 := by kernel_rfl
  t4 := Try.underlying4
  a4 := Try.isAgg4
  z4 := Try.sizeOf4
  v4 := Try.zeroValue4
  i4 := by kernel_rfl
  t5 := Try.underlying5
  a5 := Try.isAgg5
  z5 := Try.sizeOf5
  v5 := Try.zeroValue5
  i5 := by kernel_rfl
  t12 := Try.underlying12
  a12 := Try.isAgg12
  z12 := Try.sizeOf12
  v12 := Try.zeroValue12
  i12 := by kernel_rfl
  t17 := Try.underlying17
  a17 := Try.isAgg17
  z17 := Try.sizeOf17
  v17 := Try.zeroValue17
  i17 := by kernel_rfl
  t20 := Try.underlying20
  a20 := Try.isAgg20
  z20 := Try.sizeOf20
  v20 := Try.zeroValue20
  i20 := by kernel_rfl
  t26 := Try.underlying58
  a26 := Try.isAgg58
  z26 := Try.sizeOf58
  v26 := Try.zeroValue58
  i26 := by kernel_rfl
  t33 := Try.underlying61
  a33 := Try.isAgg61
  z33 := Try.sizeOf61
  v33 := Try.zeroValue61
  i33 := by kernel_rfl
  t34 := Try.underlying62
  a34 := Try.isAgg62
  z34 := Try.sizeOf62
  v34 := Try.zeroValue62
  i34 := by kernel_rfl
  t36 := Try.underlying64
  a36 := Try.isAgg64
  z36 := Try.sizeOf64
  v36 := Try.zeroValue64
  i36 := by kernel_rfl
  t38 := Try.underlying66
  a38 := Try.isAgg66
  z38 := Try.sizeOf66
  v38 := Try.zeroValue66
  i38 := by kernel_rfl
  t42 := Try.underlying70
  a42 := Try.isAgg70
  z42 := Try.sizeOf70
  v42 := Try.zeroValue70
  i42 := by kernel_rfl
  t47 := Try.underlying74
  a47 := Try.isAgg74
  z47 := Try.sizeOf74
  v47 := Try.zeroValue74
  i47 := by kernel_rfl
  t56 := Try.underlying89
  a56 := Try.isAgg89
  z56 := Try.sizeOf89
  v56 := Try.zeroValue89
  i56 := by kernel_rfl
  t82 := Try.underlying107
  a82 := Try.isAgg107
  z82 := Try.sizeOf107
  v82 := Try.zeroValue107
  i82 := by kernel_rfl
  t83 := Try.underlying108
  a83 := Try.isAgg108
  z83 := Try.sizeOf108
  v83 := Try.zeroValue108
  i83 := by kernel_rfl
  t84 := Try.underlying109
  a84 := Try.isAgg109
  z84 := Try.sizeOf109
  v84 := Try.zeroValue109
  i84 := by kernel_rfl
  t85 := Try.underlying110
  a85 := Try.isAgg110
  z85 := Try.sizeOf110
  v85 := Try.zeroValue110
  i85 := by kernel_rfl
  t86 := Try.underlying111
  a86 := Try.isAgg111
  z86 := Try.sizeOf111
  v86 := Try.zeroValue111
  i86 := by kernel_rfl
  t87 := Try.underlying112
  a87 := Try.isAgg112
  z87 := Try.sizeOf112
  v87 := Try.zeroValue112
  i87 := by kernel_rfl
  t89 := Try.underlying114
  a89 := Try.isAgg114
  z89 := Try.sizeOf114
  v89 := Try.zeroValue114
  i89 := by kernel_rfl }
def Try.slCloneHole_ren : Go.Shelf.Ren := ⟨fun | 41 => 39 | n => n, fun | 22 => 24 | 23 => 34 | 4 => 4 | n => n, fun | n => n⟩
theorem Try.slCloneHole : Go.Proofs.SlLaysE0.n41 Try.prog Try.slCloneHole_ren := {
  mixed := by kernel_rfl
  f41 := ⟨Try.f39.name, by decide, Try.func39.trans (congrArg some (by kernel_rfl))⟩
  t4 := Try.underlying4
  a4 := Try.isAgg4
  z4 := Try.sizeOf4
  v4 := Try.zeroValue4
  t22 := Try.underlying24
  a22 := Try.isAgg24
  z22 := Try.sizeOf24
  v22 := Try.zeroValue24 }
end Go.Proofs
