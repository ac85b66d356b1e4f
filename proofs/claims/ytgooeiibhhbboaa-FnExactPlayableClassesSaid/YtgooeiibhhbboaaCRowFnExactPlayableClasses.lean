/- The row of the law FnExactPlayableClasses, out of its pure statement and the told call. No condition. -/
import Derived.Test.YtgooeiibhhbboaaRows
import Derived.Test.YtgooeiibhhbboaaC6
import Derived.Test.YtgooeiibhhbboaaOpn
import Derived.Test.YtgooeiibhhbboaaCQFnExactPlayableClasses
import Derived.WalkKit
import Derived.ProofKit
import Derived.OpenShut
import Derived.ShutString
import Derived.ChangeOld
import Derived.Below
import Derived.Carry
import Derived.SizedLaws
set_option linter.unusedVariables false
namespace Go.Proofs.Ytgooeiibhhbboaa.fnExactPlayableClasses
open Go.ChangeShapes Go.WideShapes Go.ChangeAt Go.RowKit
open Go.ChangeMaps (open_string shut_string)
theorem own : ownKnob Try.prog.godebug = none := by kernel_rfl
theorem laidOut : laidOutB Try.prog = true := by kernel_rfl
set_option maxRecDepth 100000 in
theorem lifted (os : Os) (started : os.Started) (H : Type) (enc : TypeId × Value → H) :
    ReturnsInHanded {} Try.checked os 9 .any (Rows.fnExactPlayableClassesSpec.pre6 enc Try.prog Try.f9 Rows.fnExactPlayableClassesRow.domain false) (Rows.fnExactPlayableClassesSpec.post enc Try.prog Try.f9 false true false false) := by
  refine returnsInHanded_of_change_sized (C := Try.checked) own started (by kernel_rfl) Try.func9
    (ChangeSpec.witness6 (enc := enc) (C := Try.checked) false ⟨#[], #[.agg #[.slice none 0 0, .int .i64 0]], []⟩ 8 (by kernel_rfl) (by kernel_rfl) (by kernel_rfl) (by kernel_rfl)) ?_
  intro W base args ds gs before hval0 hW hcnd hsz0 _
  have hval : ∀ (j : Nat) t v, Try.f9.params[j]? = some t → args[j]? = some v → Value.okWide Try.prog W .any base t v := hval0
  have hW' := hW
  obtain ⟨p, q, hA0, hV, rfl, hfz, hnd⟩ := hW
  have hA : DataW.TrodAll enc Try.prog W 0 (fun _ => true) true Try.f9.params.toList args.toList ds p := hA0
  rw [Try.params9] at hA hval
  obtain ⟨v0, vs0, d0, ds0, p0, q0, hargs, rfl, rfl, h0, r0⟩ := trodAll_cons hA
  obtain ⟨rfl, rfl, rfl⟩ := trodAll_nil r0
  obtain rfl : args = #[v0] := by cases args; simp_all
  obtain ⟨rfl, rfl⟩ := trodVars_none hV
  have k0 := h0
  have lt0 : ∀ x ∈ p0, x.block < W.heap.size := by obtain ⟨m, hm⟩ := k0; exact DataW.trod_lt m _ _ _ hm
  obtain ⟨A0, len0, cap0, z0_1, l0, rfl, w0_1, rfl, hc0, hm0, hw0, hr0⟩ := Opn.val2 Try.underlying24 (by kernel_rfl) (by kernel_rfl) Try.underlying22 Try.underlying3 (by kernel_rfl) Try.underlying3 (hval 0 24 v0 rfl rfl) h0
  have hR0 : Go.Proofs.YtgooeiibhhbboaaW.PrintWords.Kd.C (Go.Proofs.YtgooeiibhhbboaaW.PrintWords.Kd.int .i64) W A0 l0.length l0 := by
    refine ⟨rfl, Nat.le_trans hc0 (by unfold maxLen at hm0; omega), fun hn => ?_⟩
    obtain ⟨ad, e1, hcell⟩ := hr0 hn
    exact ⟨ad, e1, fun j p hj => ⟨_, rfl, rfl, hcell j p hj⟩⟩
  clear hA0 hval0 hsz0
  obtain ⟨k, h⟩ := Go.Proofs.Ytgooeiibhhbboaa.C.laws_FnExactPlayableClasses_pure _ _ hR0.2.1 hw0 w0_1
  refine (Go.Proofs.Ytgooeiibhhbboaa.C.laws_FnExactPlayableClasses.calls k _ _ l0 z0_1 true W hR0 hc0 h).mono fun e W' ⟨he, bel0⟩ => ?_
  have bel : Below W.heap.size W W' := bel0
  subst he
  exact ⟨_, rfl, _, _, _, [], _, [], hW', trodAll_mk1 (shut_bool Try.underlying4 _), (trodAll_cons_mk (Below.trod laidOut (by kernel_rfl) (of_decide_eq_true (by kernel_rfl)) k0 bel lt0) trodAll_mk0), rfl, bel.frame _, fun h => by cases h⟩
theorem over : Rows.fnExactPlayableClassesRow.holds Try.pinned (OpenSpec.ofChange Rows.fnExactPlayableClassesSpec) :=
  OpenClaim.holds_of_wide 9 Try.f9 rfl rfl rfl rfl rfl rfl rfl ⟨rfl, rfl, rfl, rfl, rfl⟩ rfl rfl rfl rfl rfl (by kernel_rfl) Try.func9 (by kernel_rfl)
    (of_decide_eq_true (by kernel_rfl)) (by unfold Func.isWrapper; first | (rw [if_pos (by decide +kernel)]; kernel_rfl) | (rw [if_neg (by decide +kernel)]; exact ⟨rfl, rfl⟩))
    (fun os started H enc _ => lifted os started H enc)
theorem proved : Rows.FnExactPlayableClassesSaid := over
#print axioms proved
end Go.Proofs.Ytgooeiibhhbboaa.fnExactPlayableClasses
namespace Go.Proofs.Ytgooeiibhhbboaa
theorem fnExactPlayableClasses_holds : Rows.FnExactPlayableClassesSaid := fnExactPlayableClasses.proved
end Go.Proofs.Ytgooeiibhhbboaa
