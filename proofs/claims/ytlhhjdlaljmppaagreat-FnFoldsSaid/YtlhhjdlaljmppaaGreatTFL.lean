/-
  DERIVED: THE SHELF's CONTRACTS AT THIS DUMP, IN PLAIN WORDS (tools/lay-plain.mjs out of 'YtlhhjdlaljmppaaGreatTFLtmp.lean', which tools/lay-shelf.mjs wrote): THE SAME DECLARATIONS UNDER THE SAME NAMES: 'import', 'namespace', 'open', 'def', 'theorem' AND NOTHING ELSE: no command of the shelf's: FOR A HAND-IN. Each laying: the table of numbers ('.._ren') and one theorem, a field a fact of the dump's own or the kernel's comparison; each contract: ONE APPLICATION.
-/
import Derived.Shelf.SlGeneric
import Derived.Ground.SlgnProg
import Derived.Ground.GgtProg
import Derived.Shelf.SlSortFuncK.SWK
import Derived.Shelf.GgSortMore.Stable
import Derived.Shelf.SlicesE.Clone
import Derived.Test.YtlhhjdlaljmppaaGreatProg
namespace Go.Proofs
open Go.Shelf
def Tryz.slStable_ren : Go.Shelf.Ren := ⟨fun | 8 => 68 | 13 => 72 | 14 => 73 | 16 => 75 | 15 => 74 | 29 => 88 | 30 => 89 | 42 => 101 | 49 => 108 | n => n, fun | 20 => 20 | 26 => 83 | 36 => 89 | 0 => 0 | 38 => 91 | 42 => 95 | 3 => 3 | 4 => 4 | 47 => 84 | 17 => 17 | 33 => 86 | 34 => 87 | 89 => 134 | 12 => 12 | 56 => 111 | 82 => 127 | 5 => 5 | 83 => 128 | 84 => 129 | 85 => 130 | 86 => 131 | 87 => 132 | n => n, fun | n => n⟩
theorem Tryz.slStable : Go.Proofs.LaysGt.n8 Tryz.prog Tryz.slStable_ren := {
  mixed := by kernel_rfl
  f8 := Tryz.func68.trans (congrArg some (by kernel_rfl))
  f13 := Tryz.func72.trans (congrArg some (by kernel_rfl))
  f14 := Tryz.func73.trans (congrArg some (by kernel_rfl))
  f15 := Tryz.func74.trans (congrArg some (by kernel_rfl))
  f16 := Tryz.func75.trans (congrArg some (by kernel_rfl))
  f29 := Tryz.func88.trans (congrArg some (by kernel_rfl))
  f30 := Tryz.func89.trans (congrArg some (by kernel_rfl))
  f42 := Tryz.func101.trans (congrArg some (by kernel_rfl))
  f49 := Tryz.func108.trans (congrArg some (by kernel_rfl))
  t0 := Tryz.underlying0
  a0 := Tryz.isAgg0
  z0 := Tryz.sizeOf0
  v0 := Tryz.zeroValue0
  i0 := by kernel_rfl
  t3 := Tryz.underlying3
  a3 := Tryz.isAgg3
  z3 := Tryz.sizeOf3
  v3 := Tryz.zeroValue3
  i3 := by kernel_rfl
  t4 := Tryz.underlying4
  a4 := Tryz.isAgg4
  z4 := Tryz.sizeOf4
  v4 := Tryz.zeroValue4
  i4 := by kernel_rfl
  t5 := Tryz.underlying5
  a5 := Tryz.isAgg5
  z5 := Tryz.sizeOf5
  v5 := Tryz.zeroValue5
  i5 := by kernel_rfl
  t12 := Tryz.underlying12
  a12 := Tryz.isAgg12
  z12 := Tryz.sizeOf12
  v12 := Tryz.zeroValue12
  i12 := by kernel_rfl
  t17 := Tryz.underlying17
  a17 := Tryz.isAgg17
  z17 := Tryz.sizeOf17
  v17 := Tryz.zeroValue17
  i17 := by kernel_rfl
  t20 := Tryz.underlying20
  a20 := Tryz.isAgg20
  z20 := Tryz.sizeOf20
  v20 := Tryz.zeroValue20
  i20 := by kernel_rfl
  t26 := Tryz.underlying83
  a26 := Tryz.isAgg83
  z26 := Tryz.sizeOf83
  v26 := Tryz.zeroValue83
  i26 := by kernel_rfl
  t33 := Tryz.underlying86
  a33 := Tryz.isAgg86
  z33 := Tryz.sizeOf86
  v33 := Tryz.zeroValue86
  i33 := by kernel_rfl
  t34 := Tryz.underlying87
  a34 := Tryz.isAgg87
  z34 := Tryz.sizeOf87
  v34 := Tryz.zeroValue87
  i34 := by kernel_rfl
  t36 := Tryz.underlying89
  a36 := Tryz.isAgg89
  z36 := Tryz.sizeOf89
  v36 := Tryz.zeroValue89
  i36 := by kernel_rfl
  t38 := Tryz.underlying91
  a38 := Tryz.isAgg91
  z38 := Tryz.sizeOf91
  v38 := Tryz.zeroValue91
  i38 := by kernel_rfl
  t42 := Tryz.underlying95
  a42 := Tryz.isAgg95
  z42 := Tryz.sizeOf95
  v42 := Tryz.zeroValue95
  i42 := by kernel_rfl
  t47 := Tryz.underlying84
  a47 := Tryz.isAgg84
  z47 := Tryz.sizeOf84
  v47 := Tryz.zeroValue84
  i47 := by kernel_rfl
  t56 := Tryz.underlying111
  a56 := Tryz.isAgg111
  z56 := Tryz.sizeOf111
  v56 := Tryz.zeroValue111
  i56 := by kernel_rfl
  t82 := Tryz.underlying127
  a82 := Tryz.isAgg127
  z82 := Tryz.sizeOf127
  v82 := Tryz.zeroValue127
  i82 := by kernel_rfl
  t83 := Tryz.underlying128
  a83 := Tryz.isAgg128
  z83 := Tryz.sizeOf128
  v83 := Tryz.zeroValue128
  i83 := by kernel_rfl
  t84 := Tryz.underlying129
  a84 := Tryz.isAgg129
  z84 := Tryz.sizeOf129
  v84 := Tryz.zeroValue129
  i84 := by kernel_rfl
  t85 := Tryz.underlying130
  a85 := Tryz.isAgg130
  z85 := Tryz.sizeOf130
  v85 := Tryz.zeroValue130
  i85 := by kernel_rfl
  t86 := Tryz.underlying131
  a86 := Tryz.isAgg131
  z86 := Tryz.sizeOf131
  v86 := Tryz.zeroValue131
  i86 := by kernel_rfl
  t87 := Tryz.underlying132
  a87 := Tryz.isAgg132
  z87 := Tryz.sizeOf132
  v87 := Tryz.zeroValue132
  i87 := by kernel_rfl
  t89 := Tryz.underlying134
  a89 := Tryz.isAgg134
  z89 := Tryz.sizeOf134
  v89 := Tryz.zeroValue134
  i89 := by kernel_rfl }
def Tryz.slCloneNote_ren : Go.Shelf.Ren := ⟨fun | 41 => 55 | n => n, fun | 22 => 33 | 23 => 47 | 4 => 4 | n => n, fun | n => n⟩
theorem Tryz.slCloneNote : Go.Proofs.SlLaysE0.n41 Tryz.prog Tryz.slCloneNote_ren := {
  mixed := by kernel_rfl
  f41 := ⟨Tryz.f55.name, by decide, Tryz.func55.trans (congrArg some (by kernel_rfl))⟩
  t4 := Tryz.underlying4
  a4 := Tryz.isAgg4
  z4 := Tryz.sizeOf4
  v4 := Tryz.zeroValue4
  t22 := Tryz.underlying33
  a22 := Tryz.isAgg33
  z22 := Tryz.sizeOf33
  v22 := Tryz.zeroValue33 }
end Go.Proofs
