/- The pure statement of the law FnExactPlayableClasses. No condition. -/
import Derived.Test.YtgooeiibhhbboaaC0
import Derived.Test.YtgooeiibhhbboaaC6
import Derived.Test.YtgooeiibhhbboaaCQB
import Derived.Test.YtgooeiibhhbboaaCQBIns
import Derived.Test.YtgooeiibhhbboaaCQBInt
import Derived.Test.YtgooeiibhhbboaaCQY
set_option linter.unusedVariables false
set_option linter.unusedSimpArgs false
namespace Go.Proofs.Ytgooeiibhhbboaa.C
open Go.RowKit Go.Proofs.YtgooeiibhhbboaaW.PrintWords Go.Proofs.YtgooeiibhhbboaaW.PrintLast Go.Proofs.YtgooeiibhhbboaaW.PrintMore
set_option maxHeartbeats 1000000 in
theorem laws_FnExactPlayableClasses_pure : ∀ (l0_0 : List Int) (a0_1 : Int), l0_0.length ≤ 9223372036854775807 → (∀ x ∈ l0_0, (Lit.int .i64 x).wf = true) → (Lit.int .i64 a0_1).wf = true → ∃ k, laws_FnExactPlayableClasses.f k l0_0 a0_1 = some true := by
  intro l0 a0 hl0 hw0 w0
  refine Ev.rounds ?_
  unfold laws_FnExactPlayableClasses.f
  rcases szInstrument_cases l0 a0 1048576 (by omega) (by omega) hl0 with hz0 | ⟨n0, p0, q0, b0', hz0⟩
  · simp only [hz0, Option.bind_some, show ((-1 : Int) < 0) from by decide, ↓reduceIte]; exact Ev.now _
  simp only [hz0, Option.bind_some, show ¬ (n0 < 0) from by omega, ↓reduceIte]
  have b0 : l0.length ≤ 1048576 := by omega
  have ht0 := toInstrument_ev l0 a0 b0
  have he0 := eqInstrument_ev l0 a0 (by omega)
  have hm0 := markInstrument_ev l0 a0 (1) (by omega) (by omega) (by omega)
  obtain ⟨r0, r1, d0, hs, hi⟩ := classesLaw_ev l0 a0 b0
  have re0 := eqIntS_ev r0 (by omega)
  have rm0 := markIntS_ev r0 1 (by omega) (by omega) (by omega)
  have rh0 := heldIntS_ev r0.length 1 (by omega) (by omega) (by omega)
  repeat (first
    | (with_reducible exact Ev.now _)
    | (with_reducible refine Ev.bind hs ?_)
    | (with_reducible refine Ev.bind hi ?_)
    | (with_reducible refine Ev.bind ht0 ?_)
    | (with_reducible refine Ev.bind he0 ?_)
    | (with_reducible refine Ev.bind hm0 ?_)
    | (with_reducible refine Ev.bind re0 ?_)
    | (with_reducible refine Ev.bind rm0 ?_)
    | (with_reducible refine Ev.bind rh0 ?_)
    | (with_reducible refine Ev.fuel (g := fun k => laws_FnExactPlayableClasses.j0 k _ _ _ _ _ _ _ _ _) ?_; simp only [laws_FnExactPlayableClasses.j0, bne_self_eq_false, Bool.false_eq_true, ↓reduceIte, Option.bind_some, Bool.not_true, Bool.not_false, show ¬ (1 + (l0.length : Int) < 0) from by omega, show ¬ (1 + (r0.length : Int) < 0) from by omega])
    | (with_reducible refine Ev.fuel (g := fun k => laws_FnExactPlayableClasses.j1 k _ _ _ _ _ _) ?_; simp only [laws_FnExactPlayableClasses.j1, bne_self_eq_false, Bool.false_eq_true, ↓reduceIte, Option.bind_some, Bool.not_true, Bool.not_false, show ¬ (1 + (l0.length : Int) < 0) from by omega, show ¬ (1 + (r0.length : Int) < 0) from by omega])
    | (with_reducible refine Ev.fuel (g := fun k => laws_FnExactPlayableClasses.j2 k _ _ _) ?_; simp only [laws_FnExactPlayableClasses.j2, bne_self_eq_false, Bool.false_eq_true, ↓reduceIte, Option.bind_some, Bool.not_true, Bool.not_false, show ¬ (1 + (l0.length : Int) < 0) from by omega, show ¬ (1 + (r0.length : Int) < 0) from by omega])
    | simp only [bne_self_eq_false, Bool.false_eq_true, ↓reduceIte, Option.bind_some, Bool.not_true, Bool.not_false, show ¬ (1 + (l0.length : Int) < 0) from by omega, show ¬ (1 + (r0.length : Int) < 0) from by omega])
end Go.Proofs.Ytgooeiibhhbboaa.C
