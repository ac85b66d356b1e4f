/- The pure statement of the law FnExactKeptScore. No condition. -/
import Derived.Test.YtmkgkkomikiljaaG0
import Derived.Test.YtmkgkkomikiljaaG12
import Derived.Test.YtmkgkkomikiljaaQB
import Derived.Test.YtmkgkkomikiljaaQBNote
import Derived.Test.YtmkgkkomikiljaaQBInt
import Derived.Test.YtmkgkkomikiljaaQH
set_option linter.unusedVariables false
set_option linter.unusedSimpArgs false
namespace Go.Proofs.Ytmkgkkomikiljaa.G
open Go.RowKit Go.Proofs.YtmkgkkomikiljaaW.PrintWords Go.Proofs.YtmkgkkomikiljaaW.PrintLast Go.Proofs.YtmkgkkomikiljaaW.PrintMore
set_option maxHeartbeats 1000000 in
theorem laws_FnExactKeptScore_pure : ∀ (l0 : List S69) (l1 : List Int), l0.length ≤ 9223372036854775807 → l1.length ≤ 9223372036854775807 → (∀ x ∈ l1, (Lit.int .i64 x).wf = true) → ∃ k, laws_FnExactKeptScore.f k l0 l1 = some true := by
  intro l0 l1 hl0 hl1 hw1
  refine Ev.rounds ?_
  unfold laws_FnExactKeptScore.f
  by_cases hz1 : (l1.length : Int) > 1048576
  · simp only [hz1, ↓reduceIte]; exact Ev.now _
  simp only [hz1, ↓reduceIte]
  have b1 : l1.length ≤ 1048576 := by omega
  rcases szNoteS_cases l0 1048576 (by omega) (by omega) hl0 with hz0 | ⟨n0, p0, q0, b0', hz0⟩
  · simp only [hz0, Option.bind_some, show ((-1 : Int) < 0) from by decide, ↓reduceIte]; exact Ev.now _
  simp only [hz0, Option.bind_some, show ¬ (n0 < 0) from by omega, ↓reduceIte]
  have b0 : l0.length ≤ 1048576 := by omega
  have ht0 := toNoteS_ev l0 b0
  have c0 : (l0.map cvNote).length = l0.length := by simp
  generalize hL0 : l0.map cvNote = L0 at *
  have c0' : L0.length ≤ 1048576 := by omega
  have he0 := eqNoteS_ev L0 (by omega)
  have ht1 := toIntS_ev l1 b1
  have he1 := eqIntS_ev l1 (by omega)
  have hm0 := markNoteS_ev L0 (1) (by omega) (by omega) (by omega)
  have hm1 := markIntS_ev l1 (1 + 3 * (L0.length : Int)) (by omega) (by omega) (by omega)
  obtain ⟨r0, r1, d0, hs, hi⟩ := keptLaw_ev L0 l1 c0' b1
  have re0 := eqNoteS_ev r0 (by omega)
  have rm0 := markNoteS_ev r0 1 (by omega) (by omega) (by omega)
  have rh0 := heldNoteS_ev r0.length 1 (by omega) (by omega) (by omega)
  repeat (first
    | (with_reducible exact Ev.now _)
    | (with_reducible refine Ev.bind hs ?_)
    | (with_reducible refine Ev.bind hi ?_)
    | (with_reducible refine Ev.bind ht0 ?_)
    | (with_reducible refine Ev.bind he0 ?_)
    | (with_reducible refine Ev.bind ht1 ?_)
    | (with_reducible refine Ev.bind he1 ?_)
    | (with_reducible refine Ev.bind hm0 ?_)
    | (with_reducible refine Ev.bind hm1 ?_)
    | (with_reducible refine Ev.bind re0 ?_)
    | (with_reducible refine Ev.bind rm0 ?_)
    | (with_reducible refine Ev.bind rh0 ?_)
    | (with_reducible refine Ev.fuel (g := fun k => laws_FnExactKeptScore.j0 k _ _ _ _ _ _ _ _ _) ?_; simp only [laws_FnExactKeptScore.j0, bne_self_eq_false, Bool.false_eq_true, ↓reduceIte, Option.bind_some, Bool.not_true, Bool.not_false, show ¬ (1 + 3 * (L0.length : Int) < 0) from by omega, show ¬ (1 + 3 * (L0.length : Int) + (l1.length : Int) < 0) from by omega, show ¬ (1 + 3 * (r0.length : Int) < 0) from by omega])
    | (with_reducible refine Ev.fuel (g := fun k => laws_FnExactKeptScore.j1 k _ _ _ _ _ _) ?_; simp only [laws_FnExactKeptScore.j1, bne_self_eq_false, Bool.false_eq_true, ↓reduceIte, Option.bind_some, Bool.not_true, Bool.not_false, show ¬ (1 + 3 * (L0.length : Int) < 0) from by omega, show ¬ (1 + 3 * (L0.length : Int) + (l1.length : Int) < 0) from by omega, show ¬ (1 + 3 * (r0.length : Int) < 0) from by omega])
    | (with_reducible refine Ev.fuel (g := fun k => laws_FnExactKeptScore.j2 k _ _ _) ?_; simp only [laws_FnExactKeptScore.j2, bne_self_eq_false, Bool.false_eq_true, ↓reduceIte, Option.bind_some, Bool.not_true, Bool.not_false, show ¬ (1 + 3 * (L0.length : Int) < 0) from by omega, show ¬ (1 + 3 * (L0.length : Int) + (l1.length : Int) < 0) from by omega, show ¬ (1 + 3 * (r0.length : Int) < 0) from by omega])
    | simp only [bne_self_eq_false, Bool.false_eq_true, ↓reduceIte, Option.bind_some, Bool.not_true, Bool.not_false, show ¬ (1 + 3 * (L0.length : Int) < 0) from by omega, show ¬ (1 + 3 * (L0.length : Int) + (l1.length : Int) < 0) from by omega, show ¬ (1 + 3 * (r0.length : Int) < 0) from by omega])
end Go.Proofs.Ytmkgkkomikiljaa.G
