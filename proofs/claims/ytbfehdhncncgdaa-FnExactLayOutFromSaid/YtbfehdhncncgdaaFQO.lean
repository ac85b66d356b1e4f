/- Plain facts on notes laid out as holes. No condition. -/
import Derived.Test.YtbfehdhncncgdaaF0
import Derived.Test.YtbfehdhncncgdaaF4
import Derived.Test.YtbfehdhncncgdaaF6
import Derived.Test.YtbfehdhncncgdaaFQL
import Derived.Test.YtbfehdhncncgdaaFQS
set_option linter.unusedVariables false
set_option linter.unusedSimpArgs false
namespace Go.Proofs.Ytbfehdhncncgdaa.F
open Go.RowKit Go.Proofs.YtbfehdhncncgdaaW.PrintWords Go.Proofs.YtbfehdhncncgdaaW.PrintLast Go.Proofs.YtbfehdhncncgdaaW.PrintMore

/-- The hole of a note: track, From, To, and whether there is one. -/
def holeOf (l : List Int) (x : S57) : Int × Int × Int × Bool :=
  if holeB ⟨idxFrom x.f0 l 0, 2 * x.f1, 2 * (x.f1 + x.f2) - 1⟩ = true then (idxFrom x.f0 l 0, 2 * x.f1, 2 * (x.f1 + x.f2) - 1, true) else (0, 0, 0, false)
theorem laHole_ev (l : List Int) (r : Int) (x : S57) (hl : l.length ≤ 1048576) (hx : noteB x = true) : Ev (fun k => spec_laHole.f k l r x.f0 x.f1 x.f2) (holeOf l x) := by
  have h := (noteB_iff x).1 hx
  unfold spec_laHole.f holeOf
  refine Ev.bind (inTrack_ev l r x.f0 hl) ?_
  simp only [w_id (x := x.f1 + x.f2) (by omega) (by omega), w_id (x := 2 * x.f1) (by omega) (by omega), w_id (x := 2 * (x.f1 + x.f2)) (by omega) (by omega), w_id (x := 2 * (x.f1 + x.f2) - 1) (by omega) (by omega), shHole_eq, Option.bind_some]
  split <;> exact Ev.now _
theorem holeFor_ev (l : List Int) (r : Int) (x : S57) (hl : l.length ≤ 1048576) (hx : noteB x = true) : Ev (fun k => impl_holeFor.f k l r x.f0 x.f1 x.f2) (holeOf l x) := by
  have h := (noteB_iff x).1 hx
  unfold impl_holeFor.f holeOf
  refine Ev.bind (Index_ev l x.f0 hl) ?_
  simp only [noteEnd_eq hx, Option.bind_some, w_id (x := 2 * x.f1) (by omega) (by omega), w_id (x := 2 * (x.f1 + x.f2)) (by omega) (by omega), w_id (x := 2 * (x.f1 + x.f2) - 1) (by omega) (by omega), IsHole_eq]
  by_cases hi : idxFrom x.f0 l 0 < 0
  · have : holeB ⟨idxFrom x.f0 l 0, 2 * x.f1, 2 * (x.f1 + x.f2) - 1⟩ = false := by
      cases hq : holeB ⟨idxFrom x.f0 l 0, 2 * x.f1, 2 * (x.f1 + x.f2) - 1⟩ with
      | false => rfl
      | true => have := (holeB_iff _).1 hq; simp only at this; omega
    simp only [hi, ↓reduceIte, this, Bool.false_eq_true]; exact Ev.now _
  · simp only [hi, ↓reduceIte]
    split <;> exact Ev.now _
end Go.Proofs.Ytbfehdhncncgdaa.F
