/- The row of the law FnExactTracksUsed, out of its pure statement and the told call. No condition. -/
import Derived.Test.YtjidioekeinppaaRows
import Derived.Test.YtjidioekeinppaaU8
import Derived.Test.YtjidioekeinppaaOpn
import Derived.Test.YtjidioekeinppaaUQFnExactTracksUsed
import Derived.WalkKit
import Derived.ProofKit
import Derived.OpenShut
import Derived.ShutString
import Derived.ChangeOld
import Derived.Below
import Derived.Carry
import Derived.SizedLaws
set_option linter.unusedVariables false
namespace Go.Proofs.Ytjidioekeinppaa.fnExactTracksUsed
open Go.ChangeShapes Go.WideShapes Go.ChangeAt Go.RowKit
open Go.ChangeMaps (open_string shut_string)
theorem own : ownKnob Try.prog.godebug = none := by kernel_rfl
theorem laidOut : laidOutB Try.prog = true := by kernel_rfl
set_option maxRecDepth 100000 in
theorem lifted (os : Os) (started : os.Started) (H : Type) (enc : TypeId × Value → H) :
    ReturnsInHanded {} Try.checked os 7 .any (Rows.fnExactTracksUsedSpec.pre6 enc Try.prog Try.f7 Rows.fnExactTracksUsedRow.domain false) (Rows.fnExactTracksUsedSpec.post enc Try.prog Try.f7 false true false false) := by
  refine returnsInHanded_of_change_sized (C := Try.checked) own started (by kernel_rfl) Try.func7
    (ChangeSpec.witness6 (enc := enc) (C := Try.checked) false ⟨#[], #[.slice none 0 0], []⟩ 8 (by kernel_rfl) (by kernel_rfl) (by kernel_rfl) (by kernel_rfl)) ?_
  intro W base args ds gs before hval0 hW hcnd hsz0 _
  have hval : ∀ (j : Nat) t v, Try.f7.params[j]? = some t → args[j]? = some v → Value.okWide Try.prog W .any base t v := hval0
  have hW' := hW
  obtain ⟨p, q, hA0, hV, rfl, hfz, hnd⟩ := hW
  have hA : DataW.TrodAll enc Try.prog W 0 (fun _ => true) true Try.f7.params.toList args.toList ds p := hA0
  rw [Try.params7] at hA hval
  obtain ⟨v0, vs0, d0, ds0, p0, q0, hargs, rfl, rfl, h0, r0⟩ := trodAll_cons hA
  obtain ⟨rfl, rfl, rfl⟩ := trodAll_nil r0
  obtain rfl : args = #[v0] := by cases args; simp_all
  obtain ⟨rfl, rfl⟩ := trodVars_none hV
  obtain ⟨a0, len0, cap0, rfl⟩ := okWide_slice Try.underlying22 (hval 0 22 v0 rfl rfl)
  have k0 := h0
  have lt0 : ∀ x ∈ p0, x.block < W.heap.size := by obtain ⟨m, hm⟩ := k0; exact DataW.trod_lt m _ _ _ hm
  obtain ⟨fu0, hf0⟩ := h0
  obtain ⟨zs0, rfl, hc0, hm0, hw0, hr0⟩ := Opn.rows3 Try.underlying22 Try.underlying34 Try.underlying3 Try.underlying3 Try.underlying3 (by kernel_rfl) (by kernel_rfl) hf0
  obtain ⟨l0, el0⟩ : ∃ l : List Go.Proofs.Ytjidioekeinppaa.U.S34, l = zs0.map fun x => ⟨x.1, x.2.1, x.2.2⟩ := ⟨_, rfl⟩
  have ez0 : zs0.length = l0.length := by rw [el0]; simp
  have hR0 : Go.Proofs.YtjidioekeinppaaW.PrintWords.Kd.C Go.Proofs.Ytjidioekeinppaa.U.k34 W a0 l0.length l0 := by
    refine ⟨rfl, by rw [← ez0]; exact Nat.le_trans hc0 (by unfold maxLen at hm0; omega), fun hn => ?_⟩
    obtain ⟨ad, e1, hcell⟩ := hr0 (by omega)
    refine ⟨ad, e1, fun j p hj => ⟨_, rfl, Go.Proofs.Ytjidioekeinppaa.U.k34_mk W p, ?_⟩⟩
    rw [el0, List.getElem?_map, Option.map_eq_some_iff] at hj
    obtain ⟨z, hz, rfl⟩ := hj
    exact hcell j z hz
  rw [ez0] at hW' k0 hc0 ⊢
  clear hA0 hval0 hsz0
  obtain ⟨k, h⟩ := Go.Proofs.Ytjidioekeinppaa.U.laws_FnExactTracksUsed_pure _ hR0.2.1
  refine (Go.Proofs.Ytjidioekeinppaa.U.laws_FnExactTracksUsed.calls k _ _ l0 true W hR0 hc0 h).mono fun e W' ⟨he, bel0⟩ => ?_
  have bel : Below W.heap.size W W' := bel0
  subst he
  exact ⟨_, rfl, _, _, _, [], _, [], hW', trodAll_mk1 (shut_bool Try.underlying4 _), (trodAll_cons_mk (Below.trod laidOut (by kernel_rfl) (of_decide_eq_true (by kernel_rfl)) k0 bel lt0) trodAll_mk0), rfl, bel.frame _, fun h => by cases h⟩
theorem over : Rows.fnExactTracksUsedRow.holds Try.pinned (OpenSpec.ofChange Rows.fnExactTracksUsedSpec) :=
  OpenClaim.holds_of_wide 7 Try.f7 rfl rfl rfl rfl rfl rfl rfl ⟨rfl, rfl, rfl, rfl, rfl⟩ rfl rfl rfl rfl rfl (by kernel_rfl) Try.func7 (by kernel_rfl)
    (of_decide_eq_true (by kernel_rfl)) (by unfold Func.isWrapper; first | (rw [if_pos (by decide +kernel)]; kernel_rfl) | (rw [if_neg (by decide +kernel)]; exact ⟨rfl, rfl⟩))
    (fun os started H enc _ => lifted os started H enc)
theorem proved : Rows.FnExactTracksUsedSaid := over
#print axioms proved
end Go.Proofs.Ytjidioekeinppaa.fnExactTracksUsed
namespace Go.Proofs.Ytjidioekeinppaa
theorem fnExactTracksUsed_holds : Rows.FnExactTracksUsedSaid := fnExactTracksUsed.proved
end Go.Proofs.Ytjidioekeinppaa
