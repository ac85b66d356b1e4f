/-
  DERIVED: THE SHELF's CONTRACTS AT THIS DUMP, IN PLAIN WORDS (tools/lay-plain.mjs out of 'YtgjpphcbdbfhlaaGreatLFLtmp.lean', which tools/lay-shelf.mjs wrote): THE SAME DECLARATIONS UNDER THE SAME NAMES: 'import', 'namespace', 'open', 'def', 'theorem' AND NOTHING ELSE: no command of the shelf's: FOR A HAND-IN. Each laying: the table of numbers ('.._ren') and one theorem, a field a fact of the dump's own or the kernel's comparison; each contract: ONE APPLICATION.
-/
import Derived.Shelf.SlGeneric
import Derived.Ground.SlgnProg
import Derived.Ground.GgtProg
import Derived.Shelf.SlSortFuncK.SWK
import Derived.Shelf.GgSortMore.Stable
import Derived.Shelf.SlicesE.Clone
import Derived.Test.YtgjpphcbdbfhlaaGreatProg
namespace Go.Proofs
open Go.Shelf
def Tryz.slStable_ren : Go.Shelf.Ren := ⟨fun | 8 => 108 | 13 => 117 | 14 => 118 | 16 => 120 | 15 => 119 | 29 => 131 | 30 => 132 | 42 => 135 | 49 => 147 | n => n, fun | 20 => 20 | 26 => 113 | 36 => 120 | 0 => 0 | 38 => 122 | 42 => 126 | 3 => 3 | 4 => 4 | 47 => 114 | 17 => 17 | 33 => 117 | 34 => 118 | 89 => 165 | 12 => 12 | 56 => 141 | 82 => 158 | 5 => 5 | 83 => 159 | 84 => 160 | 85 => 161 | 86 => 162 | 87 => 163 | n => n, fun | n => n⟩
theorem Tryz.slStable : Go.Proofs.LaysGt.n8 Tryz.prog Tryz.slStable_ren := {
  mixed := by kernel_rfl
  f8 := Tryz.func108.trans (congrArg some (by kernel_rfl))
  f13 := Tryz.func117.trans (congrArg some (by kernel_rfl))
  f14 := Tryz.func118.trans (congrArg some (by kernel_rfl))
  f15 := Tryz.func119.trans (congrArg some (by kernel_rfl))
  f16 := Tryz.func120.trans (congrArg some (by kernel_rfl))
  f29 := Tryz.func131.trans (congrArg some (by kernel_rfl))
  f30 := Tryz.func132.trans (congrArg some (by kernel_rfl))
  f42 := Tryz.func135.trans (congrArg some (by kernel_rfl))
  f49 := Tryz.func147.trans (congrArg some (by kernel_rfl))
  t0 := Tryz.underlying0
  a0 := Tryz.isAgg0
  z0 := Tryz.sizeOf0
  v0 := Tryz.zeroValue0
  i0 := by kernel_rfl
  t3 := Tryz.underlying3
  a3 := Tryz.isAgg3
  z3 := Tryz.sizeOf3
  v3 := Tryz.zeroValue3
  i3 := by kernel_rfl
  t4 := Tryz.underlying4
  a4 := Tryz.isAgg4
  z4 := Tryz.sizeOf4
  v4 := Tryz.zeroValue4
  i4 := by kernel_rfl
  t5 := Tryz.underlying5
  a5 := Tryz.isAgg5
  z5 := Tryz.sizeOf5
  v5 := Tryz.zeroValue5
  i5 := by kernel_rfl
  t12 := Tryz.underlying12
  a12 := Tryz.isAgg12
  z12 := Tryz.sizeOf12
  v12 := Tryz.zeroValue12
  i12 := by kernel_rfl
  t17 := Tryz.underlying17
  a17 := Tryz.isAgg17
  z17 := Tryz.sizeOf17
  v17 := Tryz.zeroValue17
  i17 := by kernel_rfl
  t20 := Tryz.underlying20
  a20 := Tryz.isAgg20
  z20 := Tryz.sizeOf20
  v20 := Tryz.zeroValue20
  i20 := by kernel_rfl
  t26 := Tryz.underlying113
  a26 := Tryz.isAgg113
  z26 := Tryz.sizeOf113
  v26 := Tryz.zeroValue113
  i26 := by kernel_rfl
  t33 := Tryz.underlying117
  a33 := Tryz.isAgg117
  z33 := Tryz.sizeOf117
  v33 := Tryz.zeroValue117
  i33 := by kernel_rfl
  t34 := Tryz.underlying118
  a34 := Tryz.isAgg118
  z34 := Tryz.sizeOf118
  v34 := Tryz.zeroValue118
  i34 := by kernel_rfl
  t36 := Tryz.underlying120
  a36 := Tryz.isAgg120
  z36 := Tryz.sizeOf120
  v36 := Tryz.zeroValue120
  i36 := by kernel_rfl
  t38 := Tryz.underlying122
  a38 := Tryz.isAgg122
  z38 := Tryz.sizeOf122
  v38 := Tryz.zeroValue122
  i38 := by kernel_rfl
  t42 := Tryz.underlying126
  a42 := Tryz.isAgg126
  z42 := Tryz.sizeOf126
  v42 := Tryz.zeroValue126
  i42 := by kernel_rfl
  t47 := Tryz.underlying114
  a47 := Tryz.isAgg114
  z47 := Tryz.sizeOf114
  v47 := Tryz.zeroValue114
  i47 := by kernel_rfl
  t56 := Tryz.underlying141
  a56 := Tryz.isAgg141
  z56 := Tryz.sizeOf141
  v56 := Tryz.zeroValue141
  i56 := by kernel_rfl
  t82 := Tryz.underlying158
  a82 := Tryz.isAgg158
  z82 := Tryz.sizeOf158
  v82 := Tryz.zeroValue158
  i82 := by kernel_rfl
  t83 := Tryz.underlying159
  a83 := Tryz.isAgg159
  z83 := Tryz.sizeOf159
  v83 := Tryz.zeroValue159
  i83 := by kernel_rfl
  t84 := Tryz.underlying160
  a84 := Tryz.isAgg160
  z84 := Tryz.sizeOf160
  v84 := Tryz.zeroValue160
  i84 := by kernel_rfl
  t85 := Tryz.underlying161
  a85 := Tryz.isAgg161
  z85 := Tryz.sizeOf161
  v85 := Tryz.zeroValue161
  i85 := by kernel_rfl
  t86 := Tryz.underlying162
  a86 := Tryz.isAgg162
  z86 := Tryz.sizeOf162
  v86 := Tryz.zeroValue162
  i86 := by kernel_rfl
  t87 := Tryz.underlying163
  a87 := Tryz.isAgg163
  z87 := Tryz.sizeOf163
  v87 := Tryz.zeroValue163
  i87 := by kernel_rfl
  t89 := Tryz.underlying165
  a89 := Tryz.isAgg165
  z89 := Tryz.sizeOf165
  v89 := Tryz.zeroValue165
  i89 := by kernel_rfl }
def Tryz.slCloneHole_ren : Go.Shelf.Ren := ⟨fun | 41 => 91 | n => n, fun | 22 => 29 | 23 => 40 | 4 => 4 | n => n, fun | n => n⟩
theorem Tryz.slCloneHole : Go.Proofs.SlLaysE0.n41 Tryz.prog Tryz.slCloneHole_ren := {
  mixed := by kernel_rfl
  f41 := ⟨Tryz.f91.name, by decide, Tryz.func91.trans (congrArg some (by kernel_rfl))⟩
  t4 := Tryz.underlying4
  a4 := Tryz.isAgg4
  z4 := Tryz.sizeOf4
  v4 := Tryz.zeroValue4
  t22 := Tryz.underlying29
  a22 := Tryz.isAgg29
  z22 := Tryz.sizeOf29
  v22 := Tryz.zeroValue29 }
def Tryz.slCloneNote_ren : Go.Shelf.Ren := ⟨fun | 41 => 112 | n => n, fun | 22 => 26 | 23 => 36 | 4 => 4 | n => n, fun | n => n⟩
theorem Tryz.slCloneNote : Go.Proofs.SlLaysE0.n41 Tryz.prog Tryz.slCloneNote_ren := {
  mixed := by kernel_rfl
  f41 := ⟨Tryz.f112.name, by decide, Tryz.func112.trans (congrArg some (by kernel_rfl))⟩
  t4 := Tryz.underlying4
  a4 := Tryz.isAgg4
  z4 := Tryz.sizeOf4
  v4 := Tryz.zeroValue4
  t22 := Tryz.underlying26
  a22 := Tryz.isAgg26
  z22 := Tryz.sizeOf26
  v22 := Tryz.zeroValue26 }
end Go.Proofs
