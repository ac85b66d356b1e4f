/- The pure statement of the law FnExactAlwaysKept. No condition. -/
import Derived.Test.YtipcjpgonncinaaV0
import Derived.Test.YtipcjpgonncinaaV10
import Derived.Test.YtipcjpgonncinaaVQB
import Derived.Test.YtipcjpgonncinaaVQBIns
import Derived.Test.YtipcjpgonncinaaVQBNote
import Derived.Test.YtipcjpgonncinaaVQBInt
import Derived.Test.YtipcjpgonncinaaVQLV
set_option linter.unusedVariables false
set_option linter.unusedSimpArgs false
namespace Go.Proofs.Ytipcjpgonncinaa.V
open Go.RowKit Go.Proofs.YtipcjpgonncinaaW.PrintWords Go.Proofs.YtipcjpgonncinaaW.PrintLast Go.Proofs.YtipcjpgonncinaaW.PrintMore
set_option maxHeartbeats 1000000 in
theorem laws_FnExactAlwaysKept_pure : ∀ (l0_0 : List Int) (a0_1 : Int) (l1 : List S54) (a2 : Int), l0_0.length ≤ 9223372036854775807 → (∀ x ∈ l0_0, (Lit.int .i64 x).wf = true) → (Lit.int .i64 a0_1).wf = true → l1.length ≤ 9223372036854775807 → (Lit.int .i64 a2).wf = true → ∃ k, laws_FnExactAlwaysKept.f k l0_0 a0_1 l1 a2 = some true := by
  intro l0 a0 l1 a2 hl0 hw0 w0 hl1 w2
  refine Ev.rounds ?_
  unfold laws_FnExactAlwaysKept.f
  rcases szInstrument_cases l0 a0 1048576 (by omega) (by omega) hl0 with hz0 | ⟨n0, p0, q0, b0', hz0⟩
  · simp only [hz0, Option.bind_some, show ((-1 : Int) < 0) from by decide, ↓reduceIte]; exact Ev.now _
  simp only [hz0, Option.bind_some, show ¬ (n0 < 0) from by omega, ↓reduceIte]
  have b0 : l0.length ≤ 1048576 := by omega
  rcases szNoteS_cases l1 n0 (by omega) (by omega) hl1 with hz1 | ⟨n1, p1, q1, b1', hz1⟩
  · simp only [hz1, Option.bind_some, show ((-1 : Int) < 0) from by decide, ↓reduceIte]; exact Ev.now _
  simp only [hz1, Option.bind_some, show ¬ (n1 < 0) from by omega, ↓reduceIte]
  have b1 : l1.length ≤ 1048576 := by omega
  have ht0 := toInstrument_ev l0 a0 b0
  have he0 := eqInstrument_ev l0 a0 (by omega)
  have ht1 := toNoteS_ev l1 b1
  have c1 : (l1.map cvNote).length = l1.length := by simp
  generalize hL1 : l1.map cvNote = L1 at *
  have c1' : L1.length ≤ 1048576 := by omega
  have he1 := eqNoteS_ev L1 (by omega)
  have hm0 := markInstrument_ev l0 a0 (1) (by omega) (by omega) (by omega)
  have hm1 := markNoteS_ev L1 (1 + (l0.length : Int)) (by omega) (by omega) (by omega)
  obtain ⟨r0, r1, d0, hs, hi⟩ := alwaysLaw_ev l0 a0 L1 a2 b0 c1'
  have re0 := eqIntS_ev r0 (by omega)
  have rm0 := markIntS_ev r0 1 (by omega) (by omega) (by omega)
  have rh0 := heldIntS_ev r0.length 1 (by omega) (by omega) (by omega)
  repeat (first
    | (with_reducible exact Ev.now _)
    | (with_reducible refine Ev.bind hs ?_)
    | (with_reducible refine Ev.bind hi ?_)
    | (with_reducible refine Ev.bind ht0 ?_)
    | (with_reducible refine Ev.bind he0 ?_)
    | (with_reducible refine Ev.bind ht1 ?_)
    | (with_reducible refine Ev.bind he1 ?_)
    | (with_reducible refine Ev.bind hm0 ?_)
    | (with_reducible refine Ev.bind hm1 ?_)
    | (with_reducible refine Ev.bind re0 ?_)
    | (with_reducible refine Ev.bind rm0 ?_)
    | (with_reducible refine Ev.bind rh0 ?_)
    | (with_reducible refine Ev.fuel (g := fun k => laws_FnExactAlwaysKept.j0 k _ _ _ _ _ _ _ _ _ _ _ _) ?_; simp only [laws_FnExactAlwaysKept.j0, bne_self_eq_false, Bool.false_eq_true, ↓reduceIte, Option.bind_some, Bool.not_true, Bool.not_false, show ¬ (1 + (l0.length : Int) < 0) from by omega, show ¬ (1 + (l0.length : Int) + 3 * (L1.length : Int) < 0) from by omega, show ¬ (1 + (r0.length : Int) < 0) from by omega])
    | (with_reducible refine Ev.fuel (g := fun k => laws_FnExactAlwaysKept.j1 k _ _ _ _ _ _ _ _) ?_; simp only [laws_FnExactAlwaysKept.j1, bne_self_eq_false, Bool.false_eq_true, ↓reduceIte, Option.bind_some, Bool.not_true, Bool.not_false, show ¬ (1 + (l0.length : Int) < 0) from by omega, show ¬ (1 + (l0.length : Int) + 3 * (L1.length : Int) < 0) from by omega, show ¬ (1 + (r0.length : Int) < 0) from by omega])
    | (with_reducible refine Ev.fuel (g := fun k => laws_FnExactAlwaysKept.j2 k _ _ _) ?_; simp only [laws_FnExactAlwaysKept.j2, bne_self_eq_false, Bool.false_eq_true, ↓reduceIte, Option.bind_some, Bool.not_true, Bool.not_false, show ¬ (1 + (l0.length : Int) < 0) from by omega, show ¬ (1 + (l0.length : Int) + 3 * (L1.length : Int) < 0) from by omega, show ¬ (1 + (r0.length : Int) < 0) from by omega])
    | simp only [bne_self_eq_false, Bool.false_eq_true, ↓reduceIte, Option.bind_some, Bool.not_true, Bool.not_false, show ¬ (1 + (l0.length : Int) < 0) from by omega, show ¬ (1 + (l0.length : Int) + 3 * (L1.length : Int) < 0) from by omega, show ¬ (1 + (r0.length : Int) < 0) from by omega])
end Go.Proofs.Ytipcjpgonncinaa.V
