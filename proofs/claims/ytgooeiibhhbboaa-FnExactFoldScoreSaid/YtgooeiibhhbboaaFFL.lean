/-
  DERIVED: THE SHELF's CONTRACTS AT THIS DUMP, IN PLAIN WORDS (tools/lay-plain.mjs out of 'YtgooeiibhhbboaaFFLtmp.lean', which tools/lay-shelf.mjs wrote): THE SAME DECLARATIONS UNDER THE SAME NAMES: 'import', 'namespace', 'open', 'def', 'theorem' AND NOTHING ELSE: no command of the shelf's: FOR A HAND-IN. Each laying: the table of numbers ('.._ren') and one theorem, a field a fact of the dump's own or the kernel's comparison; each contract: ONE APPLICATION.
-/
import Derived.Shelf.SlGeneric
import Derived.Ground.SlgnProg
import Derived.Ground.GgtProg
import Derived.Shelf.SlSortFuncK.SWK
import Derived.Shelf.GgSortMore.Stable
import Derived.Shelf.SlicesE.Clone
import Derived.Test.YtgooeiibhhbboaaProg
namespace Go.Proofs
open Go.Shelf
def Try.slStable_ren : Go.Shelf.Ren := ⟨fun | 8 => 152 | 13 => 162 | 14 => 163 | 16 => 165 | 15 => 164 | 29 => 179 | 30 => 180 | 42 => 192 | 49 => 199 | n => n, fun | 20 => 20 | 26 => 134 | 36 => 140 | 0 => 0 | 38 => 142 | 42 => 146 | 3 => 3 | 4 => 4 | 47 => 149 | 17 => 17 | 33 => 137 | 34 => 138 | 89 => 186 | 12 => 12 | 56 => 163 | 82 => 179 | 5 => 5 | 83 => 180 | 84 => 181 | 85 => 182 | 86 => 183 | 87 => 184 | n => n, fun | n => n⟩
theorem Try.slStable : Go.Proofs.LaysGt.n8 Try.prog Try.slStable_ren := {
  mixed := by kernel_rfl
  f8 := Try.func152.trans (congrArg some (by kernel_rfl))
  f13 := Try.func162.trans (congrArg some (by kernel_rfl))
  f14 := Try.func163.trans (congrArg some (by kernel_rfl))
  f15 := Try.func164.trans (congrArg some (by kernel_rfl))
  f16 := Try.func165.trans (congrArg some (by kernel_rfl))
  f29 := Try.func179.trans (congrArg some (by kernel_rfl))
  f30 := Try.func180.trans (congrArg some (by kernel_rfl))
  f42 := Try.func192.trans (congrArg some (by kernel_rfl))
  f49 := Try.func199.trans (congrArg some (by kernel_rfl))
  t0 := Try.underlying0
  a0 := Try.isAgg0
  z0 := Try.sizeOf0
  v0 := Try.zeroValue0
  i0 := by kernel_rfl
  t3 := Try.underlying3
  a3 := Try.isAgg3
  z3 := Try.sizeOf3
  v3 := Try.zeroValue3
  i3 := by kernel_rfl
  t4 := Try.underlying4
  a4 := Try.isAgg4
  z4 := Try.sizeOf4
  v4 := Try.zeroValue4
  i4 := by kernel_rfl
  t5 := Try.underlying5
  a5 := Try.isAgg5
  z5 := Try.sizeOf5
  v5 := Try.zeroValue5
  i5 := by kernel_rfl
  t12 := Try.underlying12
  a12 := Try.isAgg12
  z12 := Try.sizeOf12
  v12 := Try.zeroValue12
  i12 := by kernel_rfl
  t17 := Try.underlying17
  a17 := Try.isAgg17
  z17 := Try.sizeOf17
  v17 := Try.zeroValue17
  i17 := by kernel_rfl
  t20 := Try.underlying20
  a20 := Try.isAgg20
  z20 := Try.sizeOf20
  v20 := Try.zeroValue20
  i20 := by kernel_rfl
  t26 := Try.underlying134
  a26 := Try.isAgg134
  z26 := Try.sizeOf134
  v26 := Try.zeroValue134
  i26 := by kernel_rfl
  t33 := Try.underlying137
  a33 := Try.isAgg137
  z33 := Try.sizeOf137
  v33 := Try.zeroValue137
  i33 := by kernel_rfl
  t34 := Try.underlying138
  a34 := Try.isAgg138
  z34 := Try.sizeOf138
  v34 := Try.zeroValue138
  i34 := by kernel_rfl
  t36 := Try.underlying140
  a36 := Try.isAgg140
  z36 := Try.sizeOf140
  v36 := Try.zeroValue140
  i36 := by kernel_rfl
  t38 := Try.underlying142
  a38 := Try.isAgg142
  z38 := Try.sizeOf142
  v38 := Try.zeroValue142
  i38 := by kernel_rfl
  t42 := Try.underlying146
  a42 := Try.isAgg146
  z42 := Try.sizeOf146
  v42 := Try.zeroValue146
  i42 := by kernel_rfl
  t47 := Try.underlying149
  a47 := Try.isAgg149
  z47 := Try.sizeOf149
  v47 := Try.zeroValue149
  i47 := by kernel_rfl
  t56 := Try.underlying163
  a56 := Try.isAgg163
  z56 := Try.sizeOf163
  v56 := Try.zeroValue163
  i56 := by kernel_rfl
  t82 := Try.underlying179
  a82 := Try.isAgg179
  z82 := Try.sizeOf179
  v82 := Try.zeroValue179
  i82 := by kernel_rfl
  t83 := Try.underlying180
  a83 := Try.isAgg180
  z83 := Try.sizeOf180
  v83 := Try.zeroValue180
  i83 := by kernel_rfl
  t84 := Try.underlying181
  a84 := Try.isAgg181
  z84 := Try.sizeOf181
  v84 := Try.zeroValue181
  i84 := by kernel_rfl
  t85 := Try.underlying182
  a85 := Try.isAgg182
  z85 := Try.sizeOf182
  v85 := Try.zeroValue182
  i85 := by kernel_rfl
  t86 := Try.underlying183
  a86 := Try.isAgg183
  z86 := Try.sizeOf183
  v86 := Try.zeroValue183
  i86 := by kernel_rfl
  t87 := Try.underlying184
  a87 := Try.isAgg184
  z87 := Try.sizeOf184
  v87 := Try.zeroValue184
  i87 := by kernel_rfl
  t89 := Try.underlying186
  a89 := Try.isAgg186
  z89 := Try.sizeOf186
  v89 := Try.zeroValue186
  i89 := by kernel_rfl }
def Try.slCloneNote_ren : Go.Shelf.Ren := ⟨fun | 41 => 99 | n => n, fun | 22 => 35 | 23 => 90 | 4 => 4 | n => n, fun | n => n⟩
theorem Try.slCloneNote : Go.Proofs.SlLaysE0.n41 Try.prog Try.slCloneNote_ren := {
  mixed := by kernel_rfl
  f41 := ⟨Try.f99.name, by decide, Try.func99.trans (congrArg some (by kernel_rfl))⟩
  t4 := Try.underlying4
  a4 := Try.isAgg4
  z4 := Try.sizeOf4
  v4 := Try.zeroValue4
  t22 := Try.underlying35
  a22 := Try.isAgg35
  z22 := Try.sizeOf35
  v22 := Try.zeroValue35 }
end Go.Proofs
