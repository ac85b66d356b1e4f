/- The pure statement of the law FnExactNoteFor. No condition. -/
import Derived.Test.YtjidioekeinppaaN0
import Derived.Test.YtjidioekeinppaaN3
import Derived.Test.YtjidioekeinppaaN6
import Derived.Test.YtjidioekeinppaaN7
import Derived.Test.YtjidioekeinppaaNQB
import Derived.Test.YtjidioekeinppaaNQBIns
import Derived.Test.YtjidioekeinppaaNQO
set_option linter.unusedVariables false
set_option linter.unusedSimpArgs false
namespace Go.Proofs.Ytjidioekeinppaa.N
open Go.RowKit Go.Proofs.YtjidioekeinppaaW.PrintWords Go.Proofs.YtjidioekeinppaaW.PrintLast Go.Proofs.YtjidioekeinppaaW.PrintMore
set_option maxHeartbeats 1000000 in
theorem laws_FnExactNoteFor_pure : ∀ (l0_0 : List Int) (a0_1 : Int) (a1_0 a1_1 a1_2 : Int), l0_0.length ≤ 9223372036854775807 → (∀ x ∈ l0_0, (Lit.int .i64 x).wf = true) → (Lit.int .i64 a0_1).wf = true → (Lit.int .i64 a1_0).wf = true → (Lit.int .i64 a1_1).wf = true → (Lit.int .i64 a1_2).wf = true → ∃ k, laws_FnExactNoteFor.f k l0_0 a0_1 a1_0 a1_1 a1_2 = some true := by
  intro l0 a0 a1_0 a1_1 a1_2 hl0 hw0 w0 w1_0 w1_1 w1_2
  refine Ev.rounds ?_
  unfold laws_FnExactNoteFor.f
  rcases szInstrument_cases l0 a0 1048576 (by omega) (by omega) hl0 with hz0 | ⟨n0, p0, q0, b0', hz0⟩
  · simp only [hz0, Option.bind_some, show ((-1 : Int) < 0) from by decide, ↓reduceIte]; exact Ev.now _
  simp only [hz0, Option.bind_some, show ¬ (n0 < 0) from by omega, ↓reduceIte]
  have b0 : l0.length ≤ 1048576 := by omega
  have ht0 := toInstrument_ev l0 a0 b0
  have he0 := eqInstrument_ev l0 a0 (by omega)
  obtain ⟨r0, hs, hi⟩ := noteForLaw_ev l0 a0 a1_0 a1_1 a1_2 b0
  repeat (first
    | (with_reducible exact Ev.now _)
    | (with_reducible refine Ev.bind hs ?_)
    | (with_reducible refine Ev.bind hi ?_)
    | (with_reducible refine Ev.bind ht0 ?_)
    | (with_reducible refine Ev.bind he0 ?_)
    | (with_reducible refine Ev.fuel (g := fun k => laws_FnExactNoteFor.j0 k _ _ _ _ _) ?_; simp only [laws_FnExactNoteFor.j0, bne_self_eq_false, Bool.false_eq_true, ↓reduceIte, Option.bind_some, Bool.not_true, Bool.not_false, laws_toHole.f, laws_eqNote.f])
    | simp only [bne_self_eq_false, Bool.false_eq_true, ↓reduceIte, Option.bind_some, Bool.not_true, Bool.not_false, laws_toHole.f, laws_eqNote.f])
end Go.Proofs.Ytjidioekeinppaa.N
