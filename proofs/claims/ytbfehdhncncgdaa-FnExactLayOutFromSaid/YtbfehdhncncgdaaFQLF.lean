/- The plain law of layouts from a step on. No condition. -/
import Derived.Test.YtbfehdhncncgdaaF0
import Derived.Test.YtbfehdhncncgdaaF10
import Derived.Test.YtbfehdhncncgdaaFQLO
import Derived.Test.YtbfehdhncncgdaaFQL3
set_option linter.unusedVariables false
set_option linter.unusedSimpArgs false
namespace Go.Proofs.Ytbfehdhncncgdaa.F
open Go.RowKit Go.Proofs.YtbfehdhncncgdaaW.PrintWords Go.Proofs.YtbfehdhncncgdaaW.PrintLast Go.Proofs.YtbfehdhncncgdaaW.PrintMore

def fromRes (l : List Int) (r b : Int) (s : List S57) : List S64 × Bool := if (layRes l r s).2 = true then sheetRes ((layRes l r s).1.map (shiftH b)) else ([], false)
theorem fromRes_len (l : List Int) (r b : Int) (s : List S57) : (fromRes l r b s).1.length ≤ 1048576 := by
  unfold fromRes
  split
  · exact sheetRes_len _
  · simp
theorem implFrom_bad (l : List Int) (r b : Int) (s : List S57) : Ev (fun k => impl_LayOutFrom.j0 k s b true l r) ([], false) := by
  refine Ev.fuel ?_
  simp only [impl_LayOutFrom.j0, ↓reduceIte]
  exact Ev.now _
theorem layFromLaw_ev (l : List Int) (r : Int) (s : List S57) (b : Int) (hl : l.length ≤ 1048576) (hs : s.length ≤ 1048576) : ∃ r0 r1, r0.length ≤ 1048576 ∧ Ev (fun k => spec_LayOutFrom.f k l r s b) (r0, r1) ∧ Ev (fun k => impl_LayOutFrom.f k l r s b) (r0, r1) := by
  unfold spec_LayOutFrom.f impl_LayOutFrom.f
  by_cases hg : goodIns l r = true
  · by_cases hx : goodScore s = true
    · have hn := goodScore_all hx
      have h30 := goodScore_len hx
      by_cases hb : 0 ≤ b ∧ b ≤ 2000
      · have h1 : ¬ b < 0 := by omega
        have h2 : decide (b > 2000) = false := by simp; omega
        refine ⟨(fromRes l r b s).1, (fromRes l r b s).2, fromRes_len l r b s, ?_, ?_⟩
        · refine Ev.bind (inAsked_ev l r s hl hs) ?_
          simp only [hg, hx, Bool.and_self, ↓reduceIte, l1In_h, hb, and_self, decide_true, Option.bind_some]
          have := laHoles_ev l r b s hl (by omega) hn
          rw [layRes_from l r b s (by omega)] at this
          exact Ev.bind this (Ev.now _)
        · refine Ev.bind (IsInstrument_ev l r hl) ?_
          simp only [hg, ↓reduceIte]
          refine Ev.bind (IsScore_ev s hs) ?_
          simp only [hx, ↓reduceIte, h1, h2]
          refine Ev.fuel ?_
          simp only [impl_LayOutFrom.j0, Bool.false_eq_true, ↓reduceIte]
          refine Ev.bind (layOut_ev l r s hl (by omega) hn) ?_
          unfold fromRes
          by_cases h3 : (layRes l r s).2 = true
          · simp only [h3, ↓reduceIte]
            exact Ev.bind (moveSheet_ev _ b (layRes_len l r s)) (Ev.now _)
          · simp only [h3, Bool.false_eq_true, ↓reduceIte]
            exact Ev.now _
      · refine ⟨[], false, by simp, ?_, ?_⟩
        · refine Ev.bind (inAsked_ev l r s hl hs) ?_
          simp only [hg, hx, Bool.and_self, ↓reduceIte, l1In_h, hb, decide_false, Bool.false_eq_true, Option.bind_some]
          exact Ev.now _
        · refine Ev.bind (IsInstrument_ev l r hl) ?_
          simp only [hg, ↓reduceIte]
          refine Ev.bind (IsScore_ev s hs) ?_
          simp only [hx, ↓reduceIte]
          by_cases h1 : b < 0
          · simp only [h1, ↓reduceIte]; exact implFrom_bad l r b s
          · have h2 : decide (b > 2000) = true := by simp; omega
            simp only [h1, h2, ↓reduceIte]; exact implFrom_bad l r b s
    · refine ⟨[], false, by simp, ?_, ?_⟩
      · refine Ev.bind (inAsked_ev l r s hl hs) ?_
        simp only [hg, hx, Bool.and_false, Bool.false_eq_true, ↓reduceIte]; exact Ev.now _
      · refine Ev.bind (IsInstrument_ev l r hl) ?_
        simp only [hg, ↓reduceIte]
        refine Ev.bind (IsScore_ev s hs) ?_
        simp only [hx, Bool.false_eq_true, ↓reduceIte]; exact implFrom_bad l r b s
  · refine ⟨[], false, by simp, ?_, ?_⟩
    · refine Ev.bind (inAsked_ev l r s hl hs) ?_
      simp only [hg, Bool.false_and, Bool.false_eq_true, ↓reduceIte]; exact Ev.now _
    · refine Ev.bind (IsInstrument_ev l r hl) ?_
      simp only [hg, Bool.false_eq_true, ↓reduceIte]; exact implFrom_bad l r b s
end Go.Proofs.Ytbfehdhncncgdaa.F
