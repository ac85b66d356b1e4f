/- The row of the law FnExactAlwaysKept, out of its pure statement and the told call. No condition. -/
import Derived.Test.YtipcjpgonncinaaRows
import Derived.Test.YtipcjpgonncinaaV10
import Derived.Test.YtipcjpgonncinaaOpn
import Derived.Test.YtipcjpgonncinaaVQFnExactAlwaysKept
import Derived.WalkKit
import Derived.ProofKit
import Derived.OpenShut
import Derived.ShutString
import Derived.ChangeOld
import Derived.Below
import Derived.Carry
import Derived.SizedLaws
set_option linter.unusedVariables false
namespace Go.Proofs.Ytipcjpgonncinaa.fnExactAlwaysKept
open Go.ChangeShapes Go.WideShapes Go.ChangeAt Go.RowKit
open Go.ChangeMaps (open_string shut_string)
theorem own : ownKnob Try.prog.godebug = none := by kernel_rfl
theorem laidOut : laidOutB Try.prog = true := by kernel_rfl
set_option maxRecDepth 100000 in
theorem lifted (os : Os) (started : os.Started) (H : Type) (enc : TypeId × Value → H) :
    ReturnsInHanded {} Try.checked os 6 .any (Rows.fnExactAlwaysKeptSpec.pre6 enc Try.prog Try.f6 Rows.fnExactAlwaysKeptRow.domain false) (Rows.fnExactAlwaysKeptSpec.post enc Try.prog Try.f6 false true false false) := by
  refine returnsInHanded_of_change_sized (C := Try.checked) own started (by kernel_rfl) Try.func6
    (ChangeSpec.witness6 (enc := enc) (C := Try.checked) false ⟨#[], #[.agg #[.slice none 0 0, .int .i64 0], .slice none 0 0, .int .i64 0], []⟩ 8 (by kernel_rfl) (by kernel_rfl) (by kernel_rfl) (by kernel_rfl)) ?_
  intro W base args ds gs before hval0 hW hcnd hsz0 _
  have hval : ∀ (j : Nat) t v, Try.f6.params[j]? = some t → args[j]? = some v → Value.okWide Try.prog W .any base t v := hval0
  have hW' := hW
  obtain ⟨p, q, hA0, hV, rfl, hfz, hnd⟩ := hW
  have hA : DataW.TrodAll enc Try.prog W 0 (fun _ => true) true Try.f6.params.toList args.toList ds p := hA0
  rw [Try.params6] at hA hval
  obtain ⟨v0, vs0, d0, ds0, p0, q0, hargs, rfl, rfl, h0, r0⟩ := trodAll_cons hA
  obtain ⟨v1, vs1, d1, ds1, p1, q1, rfl, rfl, rfl, h1, r1⟩ := trodAll_cons r0
  obtain ⟨v2, vs2, d2, ds2, p2, q2, rfl, rfl, rfl, h2, r2⟩ := trodAll_cons r1
  obtain ⟨rfl, rfl, rfl⟩ := trodAll_nil r2
  obtain rfl : args = #[v0, v1, v2] := by cases args; simp_all
  obtain ⟨rfl, rfl⟩ := trodVars_none hV
  have k0 := h0
  have lt0 : ∀ x ∈ p0, x.block < W.heap.size := by obtain ⟨m, hm⟩ := k0; exact DataW.trod_lt m _ _ _ hm
  obtain ⟨A0, len0, cap0, z0_1, l0, rfl, w0_1, rfl, hc0, hm0, hw0, hr0⟩ := Opn.val2 Try.underlying24 (by kernel_rfl) (by kernel_rfl) Try.underlying22 Try.underlying3 (by kernel_rfl) Try.underlying3 (hval 0 24 v0 rfl rfl) h0
  have hR0 : Go.Proofs.YtipcjpgonncinaaW.PrintWords.Kd.C (Go.Proofs.YtipcjpgonncinaaW.PrintWords.Kd.int .i64) W A0 l0.length l0 := by
    refine ⟨rfl, Nat.le_trans hc0 (by unfold maxLen at hm0; omega), fun hn => ?_⟩
    obtain ⟨ad, e1, hcell⟩ := hr0 hn
    exact ⟨ad, e1, fun j p hj => ⟨_, rfl, rfl, hcell j p hj⟩⟩
  obtain ⟨a1, len1, cap1, rfl⟩ := okWide_slice Try.underlying25 (hval 1 25 v1 rfl rfl)
  have k1 := h1
  have lt1 : ∀ x ∈ p1, x.block < W.heap.size := by obtain ⟨m, hm⟩ := k1; exact DataW.trod_lt m _ _ _ hm
  obtain ⟨fu1, hf1⟩ := h1
  obtain ⟨zs1, rfl, hc1, hm1, hw1, hr1⟩ := Opn.rows3 Try.underlying25 Try.underlying54 Try.underlying3 Try.underlying3 Try.underlying3 (by kernel_rfl) (by kernel_rfl) hf1
  obtain ⟨l1, el1⟩ : ∃ l : List Go.Proofs.Ytipcjpgonncinaa.V.S54, l = zs1.map fun x => ⟨x.1, x.2.1, x.2.2⟩ := ⟨_, rfl⟩
  have ez1 : zs1.length = l1.length := by rw [el1]; simp
  have hR1 : Go.Proofs.YtipcjpgonncinaaW.PrintWords.Kd.C Go.Proofs.Ytipcjpgonncinaa.V.k54 W a1 l1.length l1 := by
    refine ⟨rfl, by rw [← ez1]; exact Nat.le_trans hc1 (by unfold maxLen at hm1; omega), fun hn => ?_⟩
    obtain ⟨ad, e1, hcell⟩ := hr1 (by omega)
    refine ⟨ad, e1, fun j p hj => ⟨_, rfl, Go.Proofs.Ytipcjpgonncinaa.V.k54_mk W p, ?_⟩⟩
    rw [el1, List.getElem?_map, Option.map_eq_some_iff] at hj
    obtain ⟨z, hz, rfl⟩ := hj
    exact hcell j z hz
  rw [ez1] at hW' k1 hc1 ⊢
  obtain ⟨a2, rfl, rfl, rfl, w2⟩ := open_int Try.underlying3 (hval 2 3 v2 rfl rfl) h2
  clear hA0 hval0 hsz0
  obtain ⟨k, h⟩ := Go.Proofs.Ytipcjpgonncinaa.V.laws_FnExactAlwaysKept_pure _ _ _ _ hR0.2.1 hw0 w0_1 hR1.2.1 w2
  refine (Go.Proofs.Ytipcjpgonncinaa.V.laws_FnExactAlwaysKept.calls k _ _ l0 z0_1 _ _ l1 a2 true W hR0 hc0 hR1 hc1 h).mono fun e W' ⟨he, bel0⟩ => ?_
  have bel : Below W.heap.size W W' := bel0
  subst he
  exact ⟨_, rfl, _, _, _, [], _, [], hW', trodAll_mk1 (shut_bool Try.underlying4 _), (trodAll_cons_mk (Below.trod laidOut (by kernel_rfl) (of_decide_eq_true (by kernel_rfl)) k0 bel lt0) (trodAll_cons_mk (Below.trod laidOut (by kernel_rfl) (of_decide_eq_true (by kernel_rfl)) k1 bel lt1) (trodAll_cons_mk (shut_int Try.underlying3 w2) trodAll_mk0))), rfl, bel.frame _, fun h => by cases h⟩
theorem over : Rows.fnExactAlwaysKeptRow.holds Try.pinned (OpenSpec.ofChange Rows.fnExactAlwaysKeptSpec) :=
  OpenClaim.holds_of_wide 6 Try.f6 rfl rfl rfl rfl rfl rfl rfl ⟨rfl, rfl, rfl, rfl, rfl⟩ rfl rfl rfl rfl rfl (by kernel_rfl) Try.func6 (by kernel_rfl)
    (of_decide_eq_true (by kernel_rfl)) (by unfold Func.isWrapper; first | (rw [if_pos (by decide +kernel)]; kernel_rfl) | (rw [if_neg (by decide +kernel)]; exact ⟨rfl, rfl⟩))
    (fun os started H enc _ => lifted os started H enc)
theorem proved : Rows.FnExactAlwaysKeptSaid := over
#print axioms proved
end Go.Proofs.Ytipcjpgonncinaa.fnExactAlwaysKept
namespace Go.Proofs.Ytipcjpgonncinaa
theorem fnExactAlwaysKept_holds : Rows.FnExactAlwaysKeptSaid := fnExactAlwaysKept.proved
end Go.Proofs.Ytipcjpgonncinaa
