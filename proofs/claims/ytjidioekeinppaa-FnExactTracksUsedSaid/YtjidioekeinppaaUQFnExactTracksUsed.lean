/- The pure statement of the law FnExactTracksUsed. No condition. -/
import Derived.Test.YtjidioekeinppaaU0
import Derived.Test.YtjidioekeinppaaU8
import Derived.Test.YtjidioekeinppaaUQB
import Derived.Test.YtjidioekeinppaaUQBHole
import Derived.Test.YtjidioekeinppaaUQBInt
import Derived.Test.YtjidioekeinppaaUQL6
set_option linter.unusedVariables false
set_option linter.unusedSimpArgs false
namespace Go.Proofs.Ytjidioekeinppaa.U
open Go.RowKit Go.Proofs.YtjidioekeinppaaW.PrintWords Go.Proofs.YtjidioekeinppaaW.PrintLast Go.Proofs.YtjidioekeinppaaW.PrintMore
set_option maxHeartbeats 1000000 in
theorem laws_FnExactTracksUsed_pure : ∀ (l0 : List S34), l0.length ≤ 9223372036854775807 → ∃ k, laws_FnExactTracksUsed.f k l0 = some true := by
  intro l0 hl0
  refine Ev.rounds ?_
  unfold laws_FnExactTracksUsed.f
  rcases szHoleS_cases l0 1048576 (by omega) (by omega) hl0 with hz0 | ⟨n0, p0, q0, b0', hz0⟩
  · simp only [hz0, Option.bind_some, show ((-1 : Int) < 0) from by decide, ↓reduceIte]; exact Ev.now _
  simp only [hz0, Option.bind_some, show ¬ (n0 < 0) from by omega, ↓reduceIte]
  have b0 : l0.length ≤ 1048576 := by omega
  have ht0 := toHoleS_ev l0 b0
  have c0 : (l0.map cvHole).length = l0.length := by simp
  generalize hL0 : l0.map cvHole = L0 at *
  have c0' : L0.length ≤ 1048576 := by omega
  have he0 := eqHoleS_ev L0 (by omega)
  have hm0 := markHoleS_ev L0 (1) (by omega) (by omega) (by omega)
  obtain ⟨r0, r1, d0, hs, hi⟩ := tracksLaw_ev L0 c0'
  have re0 := eqIntS_ev r0 (by omega)
  have rm0 := markIntS_ev r0 1 (by omega) (by omega) (by omega)
  have rh0 := heldIntS_ev r0.length 1 (by omega) (by omega) (by omega)
  repeat (first
    | (with_reducible exact Ev.now _)
    | (with_reducible refine Ev.bind hs ?_)
    | (with_reducible refine Ev.bind hi ?_)
    | (with_reducible refine Ev.bind ht0 ?_)
    | (with_reducible refine Ev.bind he0 ?_)
    | (with_reducible refine Ev.bind hm0 ?_)
    | (with_reducible refine Ev.bind re0 ?_)
    | (with_reducible refine Ev.bind rm0 ?_)
    | (with_reducible refine Ev.bind rh0 ?_)
    | (with_reducible refine Ev.fuel (g := fun k => laws_FnExactTracksUsed.j0 k _ _ _ _ _ _ _) ?_; simp only [laws_FnExactTracksUsed.j0, bne_self_eq_false, Bool.false_eq_true, ↓reduceIte, Option.bind_some, Bool.not_true, Bool.not_false, show ¬ (1 + 3 * (L0.length : Int) < 0) from by omega, show ¬ (1 + (r0.length : Int) < 0) from by omega])
    | (with_reducible refine Ev.fuel (g := fun k => laws_FnExactTracksUsed.j1 k _ _ _ _ _) ?_; simp only [laws_FnExactTracksUsed.j1, bne_self_eq_false, Bool.false_eq_true, ↓reduceIte, Option.bind_some, Bool.not_true, Bool.not_false, show ¬ (1 + 3 * (L0.length : Int) < 0) from by omega, show ¬ (1 + (r0.length : Int) < 0) from by omega])
    | (with_reducible refine Ev.fuel (g := fun k => laws_FnExactTracksUsed.j2 k _ _ _) ?_; simp only [laws_FnExactTracksUsed.j2, bne_self_eq_false, Bool.false_eq_true, ↓reduceIte, Option.bind_some, Bool.not_true, Bool.not_false, show ¬ (1 + 3 * (L0.length : Int) < 0) from by omega, show ¬ (1 + (r0.length : Int) < 0) from by omega])
    | simp only [bne_self_eq_false, Bool.false_eq_true, ↓reduceIte, Option.bind_some, Bool.not_true, Bool.not_false, show ¬ (1 + 3 * (L0.length : Int) < 0) from by omega, show ¬ (1 + (r0.length : Int) < 0) from by omega])
end Go.Proofs.Ytjidioekeinppaa.U
