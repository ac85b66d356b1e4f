/- Plain facts on notes laid out as holes. No condition. -/
import Derived.Test.YtjidioekeinppaaH0
import Derived.Test.YtjidioekeinppaaH3
import Derived.Test.YtjidioekeinppaaH4
import Derived.Test.YtjidioekeinppaaH6
import Derived.Test.YtjidioekeinppaaH7
import Derived.Test.YtjidioekeinppaaHQL
import Derived.Test.YtjidioekeinppaaHQS
set_option linter.unusedVariables false
set_option linter.unusedSimpArgs false
namespace Go.Proofs.Ytjidioekeinppaa.H
open Go.RowKit Go.Proofs.YtjidioekeinppaaW.PrintWords Go.Proofs.YtjidioekeinppaaW.PrintLast Go.Proofs.YtjidioekeinppaaW.PrintMore

/-- The hole of a note: track, From, To, and whether there is one. -/
def holeOf (l : List Int) (x : SNt) : Int × Int × Int × Bool :=
  if holeB ⟨idxFrom x.f0 l 0, 2 * x.f1, 2 * (x.f1 + x.f2) - 1⟩ = true then (idxFrom x.f0 l 0, 2 * x.f1, 2 * (x.f1 + x.f2) - 1, true) else (0, 0, 0, false)
theorem laHole_ev (l : List Int) (r : Int) (x : SNt) (hl : l.length ≤ 1048576) (hx : noteB x = true) : Ev (fun k => spec_laHole.f k l r x.f0 x.f1 x.f2) (holeOf l x) := by
  have h := (noteB_iff x).1 hx
  unfold spec_laHole.f holeOf
  refine Ev.bind (inTrack_ev l r x.f0 hl) ?_
  simp only [w_id (x := x.f1 + x.f2) (by omega) (by omega), w_id (x := 2 * x.f1) (by omega) (by omega), w_id (x := 2 * (x.f1 + x.f2)) (by omega) (by omega), w_id (x := 2 * (x.f1 + x.f2) - 1) (by omega) (by omega), shHole_eq, Option.bind_some]
  split <;> exact Ev.now _
theorem holeFor_ev (l : List Int) (r : Int) (x : SNt) (hl : l.length ≤ 1048576) (hx : noteB x = true) : Ev (fun k => impl_holeFor.f k l r x.f0 x.f1 x.f2) (holeOf l x) := by
  have h := (noteB_iff x).1 hx
  unfold impl_holeFor.f holeOf
  refine Ev.bind (Index_ev l x.f0 hl) ?_
  simp only [noteEnd_eq hx, Option.bind_some, w_id (x := 2 * x.f1) (by omega) (by omega), w_id (x := 2 * (x.f1 + x.f2)) (by omega) (by omega), w_id (x := 2 * (x.f1 + x.f2) - 1) (by omega) (by omega), IsHole_eq]
  by_cases hi : idxFrom x.f0 l 0 < 0
  · have : holeB ⟨idxFrom x.f0 l 0, 2 * x.f1, 2 * (x.f1 + x.f2) - 1⟩ = false := by
      cases hq : holeB ⟨idxFrom x.f0 l 0, 2 * x.f1, 2 * (x.f1 + x.f2) - 1⟩ with
      | false => rfl
      | true => have := (holeB_iff _).1 hq; simp only at this; omega
    simp only [hi, ↓reduceIte, this, Bool.false_eq_true]; exact Ev.now _
  · simp only [hi, ↓reduceIte]
    split <;> exact Ev.now _
theorem holeForLaw_ev (l : List Int) (r a b c : Int) (hl : l.length ≤ 1048576) : ∃ r0, Ev (fun k => spec_HoleFor.f k l r a b c) r0 ∧ Ev (fun k => impl_HoleFor.f k l r a b c) r0 := by
  unfold spec_HoleFor.f impl_HoleFor.f
  have eN := ntNote_eq ⟨a, b, c⟩
  have eI := IsNote_eq ⟨a, b, c⟩
  simp only at eN eI
  by_cases hg : goodIns l r = true
  · by_cases hx : noteB ⟨a, b, c⟩ = true
    · refine ⟨holeOf l ⟨a, b, c⟩, ?_, ?_⟩
      · refine Ev.bind (inGood_ev l r hl) ?_
        simp only [hg, ↓reduceIte, eN, hx, Option.bind_some]
        exact Ev.bind (laHole_ev l r ⟨a, b, c⟩ hl hx) (Ev.now _)
      · refine Ev.bind (IsInstrument_ev l r hl) ?_
        simp only [hg, ↓reduceIte, eI, hx, Option.bind_some]
        exact Ev.bind (holeFor_ev l r ⟨a, b, c⟩ hl hx) (Ev.now _)
    · refine ⟨(0, 0, 0, false), ?_, ?_⟩
      · refine Ev.bind (inGood_ev l r hl) ?_
        simp only [hg, ↓reduceIte, eN, hx, Option.bind_some, Bool.false_eq_true]; exact Ev.now _
      · refine Ev.bind (IsInstrument_ev l r hl) ?_
        simp only [hg, ↓reduceIte, eI, hx, Option.bind_some, Bool.false_eq_true]; exact Ev.now _
  · refine ⟨(0, 0, 0, false), ?_, ?_⟩
    · refine Ev.bind (inGood_ev l r hl) ?_
      simp only [hg, ↓reduceIte, Bool.false_eq_true]; exact Ev.now _
    · refine Ev.bind (IsInstrument_ev l r hl) ?_
      simp only [hg, ↓reduceIte, Bool.false_eq_true]; exact Ev.now _
end Go.Proofs.Ytjidioekeinppaa.H
