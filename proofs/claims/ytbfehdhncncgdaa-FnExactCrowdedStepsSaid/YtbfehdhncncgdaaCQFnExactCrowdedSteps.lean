/- The pure statement of the law FnExactCrowdedSteps. No condition. -/
import Derived.Test.YtbfehdhncncgdaaC0
import Derived.Test.YtbfehdhncncgdaaC4
import Derived.Test.YtbfehdhncncgdaaCQB
import Derived.Test.YtbfehdhncncgdaaCQBHole
import Derived.Test.YtbfehdhncncgdaaCQCS
set_option linter.unusedVariables false
set_option linter.unusedSimpArgs false
namespace Go.Proofs.Ytbfehdhncncgdaa.C
open Go.RowKit Go.Proofs.YtbfehdhncncgdaaW.PrintWords Go.Proofs.YtbfehdhncncgdaaW.PrintLast Go.Proofs.YtbfehdhncncgdaaW.PrintMore
set_option maxHeartbeats 1000000 in
theorem laws_FnExactCrowdedSteps_pure : ∀ (l0 : List S73) (a1 : Int), l0.length ≤ 9223372036854775807 → (Lit.int .i64 a1).wf = true → ∃ k, laws_FnExactCrowdedSteps.f k l0 a1 = some true := by
  intro l0 a1 hl0 w1
  refine Ev.rounds ?_
  unfold laws_FnExactCrowdedSteps.f
  rcases szHoleS_cases l0 1048576 (by omega) (by omega) hl0 with hz0 | ⟨n0, p0, q0, b0', hz0⟩
  · simp only [hz0, Option.bind_some, show ((-1 : Int) < 0) from by decide, ↓reduceIte]; exact Ev.now _
  simp only [hz0, Option.bind_some, show ¬ (n0 < 0) from by omega, ↓reduceIte]
  have b0 : l0.length ≤ 1048576 := by omega
  have ht0 := toHoleS_ev l0 b0
  have c0 : (l0.map cvHole).length = l0.length := by simp
  generalize hL0 : l0.map cvHole = L0 at *
  have c0' : L0.length ≤ 1048576 := by omega
  have he0 := eqHoleS_ev L0 (by omega)
  obtain ⟨r0, r1, hs, hi⟩ := crowdedLaw_ev L0 a1 c0'
  repeat (first
    | (with_reducible exact Ev.now _)
    | (with_reducible refine Ev.bind hs ?_)
    | (with_reducible refine Ev.bind hi ?_)
    | (with_reducible refine Ev.bind ht0 ?_)
    | (with_reducible refine Ev.bind he0 ?_)
    | (with_reducible refine Ev.fuel (g := fun k => laws_FnExactCrowdedSteps.j0 k _ _ _) ?_; simp only [laws_FnExactCrowdedSteps.j0, bne_self_eq_false, Bool.false_eq_true, ↓reduceIte, Option.bind_some, Bool.not_true, Bool.not_false])
    | simp only [bne_self_eq_false, Bool.false_eq_true, ↓reduceIte, Option.bind_some, Bool.not_true, Bool.not_false])
end Go.Proofs.Ytbfehdhncncgdaa.C
