/- Plain facts on notes laid out as holes. No condition. -/
import Derived.Test.YtjidioekeinppaaB0
import Derived.Test.YtjidioekeinppaaB5
import Derived.Test.YtjidioekeinppaaB14
import Derived.Test.YtjidioekeinppaaBQL
import Derived.Test.YtjidioekeinppaaBQS
set_option linter.unusedVariables false
set_option linter.unusedSimpArgs false
namespace Go.Proofs.Ytjidioekeinppaa.B
open Go.RowKit Go.Proofs.YtjidioekeinppaaW.PrintWords Go.Proofs.YtjidioekeinppaaW.PrintLast Go.Proofs.YtjidioekeinppaaW.PrintMore

/-- The hole of a note: track, From, To, and whether there is one. -/
def holeOf (l : List Int) (x : S37) : Int × Int × Int × Bool :=
  if holeB ⟨idxFrom x.f0 l 0, 2 * x.f1, 2 * (x.f1 + x.f2) - 1⟩ = true then (idxFrom x.f0 l 0, 2 * x.f1, 2 * (x.f1 + x.f2) - 1, true) else (0, 0, 0, false)
theorem laNote_same (k : Nat) (l : List Int) (r a b c : Int) : impl_noteFor.f k l r a b c = spec_laNote.f k l r a b c := by
  have j : ∀ k g (l : List Int) r a b c, impl_noteFor.j0 k g l r a b c = spec_laNote.j0 k g l r a b c := by
    intro k g l r a b c
    cases k with
    | zero => rfl
    | succ k =>
      have eN := fun x y z => ntNote_eq ⟨x, y, z⟩
      have eI := fun x y z => IsNote_eq ⟨x, y, z⟩
      simp only at eN eI
      simp only [impl_noteFor.j0, spec_laNote.j0, eN, eI]
  unfold impl_noteFor.f spec_laNote.f
  simp only [j]
theorem laNote_ev (l : List Int) (r : Int) (a b c : Int) (ha : 0 ≤ a) : ∃ r0, Ev (fun k => spec_laNote.f k l r a b c) r0 := by
  have jT : ∀ g : Bool, ∃ r0, Ev (fun k => spec_laNote.j0 k g l r a b c) r0 ∨ ¬ a < (l.length : Int) := fun g => by
    by_cases hlt : a < (l.length : Int)
    · by_cases hg : g = true
      · exact ⟨(0, 0, 0, false), Or.inl (by refine Ev.fuel ?_; simp only [spec_laNote.j0, hg, ↓reduceIte]; exact Ev.now _)⟩
      · have eN := fun x y z => ntNote_eq ⟨x, y, z⟩
        simp only at eN
        by_cases hn : noteB ⟨rd l a, wrap64 (Int.tdiv b 2), wrap64 (wrap64 (Int.tdiv (wrap64 (c + 1)) 2) - wrap64 (Int.tdiv b 2))⟩ = true
        · exact ⟨(rd l a, wrap64 (Int.tdiv b 2), wrap64 (wrap64 (Int.tdiv (wrap64 (c + 1)) 2) - wrap64 (Int.tdiv b 2)), true), Or.inl (by refine Ev.fuel ?_; simp only [spec_laNote.j0, hg, ha, hlt, eN, hn, Option.bind_some, ↓reduceIte, Bool.false_eq_true]; exact Ev.now _)⟩
        · exact ⟨(0, 0, 0, false), Or.inl (by refine Ev.fuel ?_; simp only [spec_laNote.j0, hg, ha, hlt, eN, hn, Option.bind_some, ↓reduceIte, Bool.false_eq_true]; exact Ev.now _)⟩
    · exact ⟨(0, 0, 0, false), Or.inr hlt⟩
  have jF : Ev (fun k => spec_laNote.j0 k true l r a b c) (0, 0, 0, false) := by refine Ev.fuel ?_; simp only [spec_laNote.j0, ↓reduceIte]; exact Ev.now _
  unfold spec_laNote.f
  by_cases h1 : a ≥ (l.length : Int)
  · exact ⟨(0, 0, 0, false), by simp only [h1, ↓reduceIte]; exact jF⟩
  · by_cases h2 : Int.tmod b 2 = 0
    · obtain ⟨r0, h | h⟩ := jT (Int.tmod c 2 != 1)
      · exact ⟨r0, by simp only [h1, h2, ↓reduceIte]; exact h⟩
      · omega
    · exact ⟨(0, 0, 0, false), by simp only [h1, h2, ↓reduceIte]; exact jF⟩
end Go.Proofs.Ytjidioekeinppaa.B
