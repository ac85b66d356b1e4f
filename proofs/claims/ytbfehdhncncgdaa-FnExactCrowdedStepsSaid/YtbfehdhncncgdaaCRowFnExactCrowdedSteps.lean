/- The row of the law FnExactCrowdedSteps, out of its pure statement and the told call. No condition. -/
import Derived.Test.YtbfehdhncncgdaaRows
import Derived.Test.YtbfehdhncncgdaaC4
import Derived.Test.YtbfehdhncncgdaaOpn
import Derived.Test.YtbfehdhncncgdaaCQFnExactCrowdedSteps
import Derived.WalkKit
import Derived.ProofKit
import Derived.OpenShut
import Derived.ShutString
import Derived.ChangeOld
import Derived.Below
import Derived.Carry
import Derived.SizedLaws
set_option linter.unusedVariables false
namespace Go.Proofs.Ytbfehdhncncgdaa.fnExactCrowdedSteps
open Go.ChangeShapes Go.WideShapes Go.ChangeAt Go.RowKit
open Go.ChangeMaps (open_string shut_string)
theorem own : ownKnob Try.prog.godebug = none := by kernel_rfl
theorem laidOut : laidOutB Try.prog = true := by kernel_rfl
set_option maxRecDepth 100000 in
theorem lifted (os : Os) (started : os.Started) (H : Type) (enc : TypeId × Value → H) :
    ReturnsInHanded {} Try.checked os 6 .any (Rows.fnExactCrowdedStepsSpec.pre6 enc Try.prog Try.f6 Rows.fnExactCrowdedStepsRow.domain false) (Rows.fnExactCrowdedStepsSpec.post enc Try.prog Try.f6 false true false false) := by
  refine returnsInHanded_of_change_sized (C := Try.checked) own started (by kernel_rfl) Try.func6
    (ChangeSpec.witness6 (enc := enc) (C := Try.checked) false ⟨#[], #[.slice none 0 0, .int .i64 0], []⟩ 8 (by kernel_rfl) (by kernel_rfl) (by kernel_rfl) (by kernel_rfl)) ?_
  intro W base args ds gs before hval0 hW hcnd hsz0 _
  have hval : ∀ (j : Nat) t v, Try.f6.params[j]? = some t → args[j]? = some v → Value.okWide Try.prog W .any base t v := hval0
  have hW' := hW
  obtain ⟨p, q, hA0, hV, rfl, hfz, hnd⟩ := hW
  have hA : DataW.TrodAll enc Try.prog W 0 (fun _ => true) true Try.f6.params.toList args.toList ds p := hA0
  rw [Try.params6] at hA hval
  obtain ⟨v0, vs0, d0, ds0, p0, q0, hargs, rfl, rfl, h0, r0⟩ := trodAll_cons hA
  obtain ⟨v1, vs1, d1, ds1, p1, q1, rfl, rfl, rfl, h1, r1⟩ := trodAll_cons r0
  obtain ⟨rfl, rfl, rfl⟩ := trodAll_nil r1
  obtain rfl : args = #[v0, v1] := by cases args; simp_all
  obtain ⟨rfl, rfl⟩ := trodVars_none hV
  obtain ⟨a0, len0, cap0, rfl⟩ := okWide_slice Try.underlying44 (hval 0 44 v0 rfl rfl)
  have k0 := h0
  have lt0 : ∀ x ∈ p0, x.block < W.heap.size := by obtain ⟨m, hm⟩ := k0; exact DataW.trod_lt m _ _ _ hm
  obtain ⟨fu0, hf0⟩ := h0
  obtain ⟨zs0, rfl, hc0, hm0, hw0, hr0⟩ := Opn.rows3 Try.underlying44 Try.underlying73 Try.underlying3 Try.underlying3 Try.underlying3 (by kernel_rfl) (by kernel_rfl) hf0
  obtain ⟨l0, el0⟩ : ∃ l : List Go.Proofs.Ytbfehdhncncgdaa.C.S73, l = zs0.map fun x => ⟨x.1, x.2.1, x.2.2⟩ := ⟨_, rfl⟩
  have ez0 : zs0.length = l0.length := by rw [el0]; simp
  have hR0 : Go.Proofs.YtbfehdhncncgdaaW.PrintWords.Kd.C Go.Proofs.Ytbfehdhncncgdaa.C.k73 W a0 l0.length l0 := by
    refine ⟨rfl, by rw [← ez0]; exact Nat.le_trans hc0 (by unfold maxLen at hm0; omega), fun hn => ?_⟩
    obtain ⟨ad, e1, hcell⟩ := hr0 (by omega)
    refine ⟨ad, e1, fun j p hj => ⟨_, rfl, Go.Proofs.Ytbfehdhncncgdaa.C.k73_mk W p, ?_⟩⟩
    rw [el0, List.getElem?_map, Option.map_eq_some_iff] at hj
    obtain ⟨z, hz, rfl⟩ := hj
    exact hcell j z hz
  rw [ez0] at hW' k0 hc0 ⊢
  obtain ⟨a1, rfl, rfl, rfl, w1⟩ := open_int Try.underlying3 (hval 1 3 v1 rfl rfl) h1
  clear hA0 hval0 hsz0
  obtain ⟨k, h⟩ := Go.Proofs.Ytbfehdhncncgdaa.C.laws_FnExactCrowdedSteps_pure _ _ hR0.2.1 w1
  refine (Go.Proofs.Ytbfehdhncncgdaa.C.laws_FnExactCrowdedSteps.calls k _ _ l0 a1 true W hR0 hc0 h).mono fun e W' ⟨he, bel0⟩ => ?_
  have bel : Below W.heap.size W W' := bel0
  subst he
  exact ⟨_, rfl, _, _, _, [], _, [], hW', trodAll_mk1 (shut_bool Try.underlying4 _), (trodAll_cons_mk (Below.trod laidOut (by kernel_rfl) (of_decide_eq_true (by kernel_rfl)) k0 bel lt0) (trodAll_cons_mk (shut_int Try.underlying3 w1) trodAll_mk0)), rfl, bel.frame _, fun h => by cases h⟩
theorem over : Rows.fnExactCrowdedStepsRow.holds Try.pinned (OpenSpec.ofChange Rows.fnExactCrowdedStepsSpec) :=
  OpenClaim.holds_of_wide 6 Try.f6 rfl rfl rfl rfl rfl rfl rfl ⟨rfl, rfl, rfl, rfl, rfl⟩ rfl rfl rfl rfl rfl (by kernel_rfl) Try.func6 (by kernel_rfl)
    (of_decide_eq_true (by kernel_rfl)) (by unfold Func.isWrapper; first | (rw [if_pos (by decide +kernel)]; kernel_rfl) | (rw [if_neg (by decide +kernel)]; exact ⟨rfl, rfl⟩))
    (fun os started H enc _ => lifted os started H enc)
theorem proved : Rows.FnExactCrowdedStepsSaid := over
#print axioms proved
end Go.Proofs.Ytbfehdhncncgdaa.fnExactCrowdedSteps
namespace Go.Proofs.Ytbfehdhncncgdaa
theorem fnExactCrowdedSteps_holds : Rows.FnExactCrowdedStepsSaid := fnExactCrowdedSteps.proved
end Go.Proofs.Ytbfehdhncncgdaa
