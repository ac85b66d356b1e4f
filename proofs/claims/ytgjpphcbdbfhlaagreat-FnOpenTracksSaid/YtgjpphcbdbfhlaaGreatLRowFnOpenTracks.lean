/- The row of the law FnOpenTracks, out of its pure statement and the told call. No condition. -/
import Derived.Test.YtgjpphcbdbfhlaaGreatRows
import Derived.Test.YtgjpphcbdbfhlaaGreatL29
import Derived.Test.YtgjpphcbdbfhlaaGreatOpn
import Derived.Test.YtgjpphcbdbfhlaaGreatLQA3
import Derived.WalkKit
import Derived.ProofKit
import Derived.OpenShut
import Derived.ShutString
import Derived.ChangeOld
import Derived.Below
import Derived.Carry
import Derived.SizedLaws
set_option linter.unusedVariables false
namespace Go.Proofs.YtgjpphcbdbfhlaaGreat.fnOpenTracks
open Go.ChangeShapes Go.WideShapes Go.ChangeAt Go.RowKit
open Go.ChangeMaps (open_string shut_string)
theorem own : ownKnob Tryz.prog.godebug = none := by kernel_rfl
theorem laidOut : laidOutB Tryz.prog = true := by kernel_rfl
set_option maxRecDepth 100000 in
theorem lifted (os : Os) (started : os.Started) (H : Type) (enc : TypeId × Value → H) :
    ReturnsInHanded {} Tryz.checked os 4 .any (Rows.fnOpenTracksSpec.pre6 enc Tryz.prog Tryz.f4 Rows.fnOpenTracksRow.domain false) (Rows.fnOpenTracksSpec.post enc Tryz.prog Tryz.f4 false true false false) := by
  refine returnsInHanded_of_change_sized (C := Tryz.checked) own started (by kernel_rfl) Tryz.func4
    (ChangeSpec.witness6 (enc := enc) (C := Tryz.checked) false ⟨#[], #[.slice none 0 0, .slice none 0 0], []⟩ 8 (by kernel_rfl) (by kernel_rfl) (by kernel_rfl) (by kernel_rfl)) ?_
  intro W base args ds gs before hval0 hW hcnd hsz0 _
  have hval : ∀ (j : Nat) t v, Tryz.f4.params[j]? = some t → args[j]? = some v → Value.okWide Tryz.prog W .any base t v := hval0
  have hW' := hW
  obtain ⟨p, q, hA0, hV, rfl, hfz, hnd⟩ := hW
  have hA : DataW.TrodAll enc Tryz.prog W 0 (fun _ => true) true Tryz.f4.params.toList args.toList ds p := hA0
  rw [Tryz.params4] at hA hval
  obtain ⟨v0, vs0, d0, ds0, p0, q0, hargs, rfl, rfl, h0, r0⟩ := trodAll_cons hA
  obtain ⟨v1, vs1, d1, ds1, p1, q1, rfl, rfl, rfl, h1, r1⟩ := trodAll_cons r0
  obtain ⟨rfl, rfl, rfl⟩ := trodAll_nil r1
  obtain rfl : args = #[v0, v1] := by cases args; simp_all
  obtain ⟨rfl, rfl⟩ := trodVars_none hV
  obtain ⟨a0, len0, cap0, rfl⟩ := okWide_slice Tryz.underlying22 (hval 0 22 v0 rfl rfl)
  have k0 := h0
  have lt0 : ∀ x ∈ p0, x.block < W.heap.size := by obtain ⟨m, hm⟩ := k0; exact DataW.trod_lt m _ _ _ hm
  obtain ⟨fu0, hf0⟩ := h0
  obtain ⟨l0, rfl, hc0, hm0, hw0, hr0⟩ := Opn.rows1 Tryz.underlying22 Tryz.underlying5 (by kernel_rfl) hf0
  have hR0 : Go.Proofs.YtgjpphcbdbfhlaaGreatW.PrintWords.Kd.C (Go.Proofs.YtgjpphcbdbfhlaaGreatW.PrintWords.Kd.int .u8) W a0 l0.length l0 := by
    refine ⟨rfl, Nat.le_trans hc0 (by unfold maxLen at hm0; omega), fun hn => ?_⟩
    obtain ⟨ad, e1, hcell⟩ := hr0 hn
    exact ⟨ad, e1, fun j p hj => ⟨_, rfl, rfl, hcell j p hj⟩⟩
  obtain ⟨a1, len1, cap1, rfl⟩ := okWide_slice Tryz.underlying22 (hval 1 22 v1 rfl rfl)
  have k1 := h1
  have lt1 : ∀ x ∈ p1, x.block < W.heap.size := by obtain ⟨m, hm⟩ := k1; exact DataW.trod_lt m _ _ _ hm
  obtain ⟨fu1, hf1⟩ := h1
  obtain ⟨l1, rfl, hc1, hm1, hw1, hr1⟩ := Opn.rows1 Tryz.underlying22 Tryz.underlying5 (by kernel_rfl) hf1
  have hR1 : Go.Proofs.YtgjpphcbdbfhlaaGreatW.PrintWords.Kd.C (Go.Proofs.YtgjpphcbdbfhlaaGreatW.PrintWords.Kd.int .u8) W a1 l1.length l1 := by
    refine ⟨rfl, Nat.le_trans hc1 (by unfold maxLen at hm1; omega), fun hn => ?_⟩
    obtain ⟨ad, e1, hcell⟩ := hr1 hn
    exact ⟨ad, e1, fun j p hj => ⟨_, rfl, rfl, hcell j p hj⟩⟩
  clear hA0 hval0 hsz0
  obtain ⟨k, h⟩ := Go.Proofs.YtgjpphcbdbfhlaaGreat.L.laws_FnOpenTracks_pure _ _ hR0.2.1 hw0 hR1.2.1 hw1
  refine (Go.Proofs.YtgjpphcbdbfhlaaGreat.L.laws_FnOpenTracks.calls k _ _ l0 _ _ l1 true W hR0 hc0 hR1 hc1 h).mono fun e W' ⟨he, bel0⟩ => ?_
  have bel : Below W.heap.size W W' := bel0
  subst he
  exact ⟨_, rfl, _, _, _, [], _, [], hW', trodAll_mk1 (shut_bool Tryz.underlying4 _), (trodAll_cons_mk (Below.trod laidOut (by kernel_rfl) (of_decide_eq_true (by kernel_rfl)) k0 bel lt0) (trodAll_cons_mk (Below.trod laidOut (by kernel_rfl) (of_decide_eq_true (by kernel_rfl)) k1 bel lt1) trodAll_mk0)), rfl, bel.frame _, fun h => by cases h⟩
theorem over : Rows.fnOpenTracksRow.holds Tryz.pinned (OpenSpec.ofChange Rows.fnOpenTracksSpec) :=
  OpenClaim.holds_of_wide 4 Tryz.f4 rfl rfl rfl rfl rfl rfl rfl ⟨rfl, rfl, rfl, rfl, rfl⟩ rfl rfl rfl rfl rfl (by kernel_rfl) Tryz.func4 (by kernel_rfl)
    (of_decide_eq_true (by kernel_rfl)) (by unfold Func.isWrapper; first | (rw [if_pos (by decide +kernel)]; kernel_rfl) | (rw [if_neg (by decide +kernel)]; exact ⟨rfl, rfl⟩))
    (fun os started H enc _ => lifted os started H enc)
theorem proved : Rows.FnOpenTracksSaid := over
#print axioms proved
end Go.Proofs.YtgjpphcbdbfhlaaGreat.fnOpenTracks
namespace Go.Proofs.YtgjpphcbdbfhlaaGreat
theorem fnOpenTracks_holds : Rows.FnOpenTracksSaid := fnOpenTracks.proved
end Go.Proofs.YtgjpphcbdbfhlaaGreat
