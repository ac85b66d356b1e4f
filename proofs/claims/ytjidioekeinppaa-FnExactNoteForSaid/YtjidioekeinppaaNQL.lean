/- Plain facts on sheets: which holes are a sheet, and how long a track is open. No condition. -/
import Derived.Test.YtjidioekeinppaaN0
import Derived.Test.YtjidioekeinppaaN1
import Derived.Test.YtjidioekeinppaaN3
import Derived.Test.YtjidioekeinppaaN4
import Derived.Test.YtjidioekeinppaaNQB
set_option linter.unusedVariables false
set_option linter.unusedSimpArgs false
namespace Go.Proofs.Ytjidioekeinppaa.N
open Go.RowKit Go.Proofs.YtjidioekeinppaaW.PrintWords Go.Proofs.YtjidioekeinppaaW.PrintLast Go.Proofs.YtjidioekeinppaaW.PrintMore

structure SHl where
  f0 : Int
  f1 : Int
  f2 : Int
def holeB (x : SHl) : Bool := decide (0 ≤ x.f0 ∧ x.f0 ≤ 19 ∧ 0 ≤ x.f1 ∧ x.f1 < x.f2 ∧ x.f2 ≤ 2000)
def holeLt (a b : SHl) : Bool := decide (a.f1 < b.f1 ∨ a.f1 = b.f1 ∧ a.f0 < b.f0)
def touchB (x y : SHl) : Bool := decide (x.f0 = y.f0 ∧ y.f2 ≥ x.f1)
theorem holeB_iff (x : SHl) : holeB x = true ↔ (0 ≤ x.f0 ∧ x.f0 ≤ 19 ∧ 0 ≤ x.f1 ∧ x.f1 < x.f2 ∧ x.f2 ≤ 2000) := by simp [holeB]
theorem holeLt_iff (a b : SHl) : holeLt a b = true ↔ (a.f1 < b.f1 ∨ a.f1 = b.f1 ∧ a.f0 < b.f0) := by simp [holeLt]
theorem l1In_h (a b c : Int) : spec_l1In.f a b c = some (decide (b ≤ a ∧ a ≤ c)) := by
  unfold spec_l1In.f
  by_cases h : a ≥ b
  · rw [if_pos h]; exact dec_eq (by omega)
  · rw [if_neg h]; exact dec_f (by omega)
theorem shHole_eq (t a b : Int) : spec_shHole.f t a b = some (holeB ⟨t, a, b⟩) := by
  unfold spec_shHole.f holeB
  simp only [l1In_h, Option.bind_some, decide_eq_true_eq]
  by_cases h1 : 0 ≤ t ∧ t ≤ 19
  · by_cases h2 : 0 ≤ a ∧ a ≤ 1999
    · simp only [h1.1, h1.2, h2.1, h2.2, and_self, ↓reduceIte, w_id (x := a + 1) (by omega) (by omega), true_and]
      exact dec_eq (by omega)
    · simp only [h1, h2, and_self, ↓reduceIte]; exact dec_f (by omega)
  · simp only [h1, ↓reduceIte]; exact dec_f (by omega)
theorem isTrackH_eq (a : Int) : impl_isTrack.f a = some (decide (0 ≤ a ∧ a ≤ 19)) := by
  unfold impl_isTrack.f
  split <;> (first | exact dec_eq (by omega) | exact dec_f (by omega))
theorem IsHole_eq (t a b : Int) : impl_IsHole.f t a b = some (holeB ⟨t, a, b⟩) := by
  unfold impl_IsHole.f holeB
  simp only [isTrackH_eq, Option.bind_some, decide_eq_true_eq]
  (repeat' split) <;> (first | exact dec_eq (by omega) | exact dec_f (by omega))
/-- Behind these holes, are the next ones a sheet? -/
def sheetFrom : List SHl → List SHl → Bool
  | _, [] => true
  | pre, x :: xs => holeB x && ((match pre.getLast? with | none => true | some y => holeLt y x) && (!(pre.any (touchB x)) && sheetFrom (pre ++ [x]) xs))
def goodSheet (l : List SHl) : Bool := sheetFrom [] l && decide (l.length ≤ 60)
theorem sheetFrom_all : ∀ (l pre : List SHl), sheetFrom pre l = true → ∀ x ∈ l, holeB x = true := by
  intro l
  induction l with
  | nil => intro pre _ x hx; simp at hx
  | cons y l ih =>
    intro pre h x hx
    simp only [sheetFrom, Bool.and_eq_true] at h
    rcases List.mem_cons.1 hx with rfl | hx
    · exact h.1
    · exact ih _ h.2.2.2 x hx
theorem goodSheet_all {l : List SHl} (h : goodSheet l = true) : ∀ x ∈ l, holeB x = true := by
  simp only [goodSheet, Bool.and_eq_true] at h
  exact sheetFrom_all l _ h.1
theorem goodSheet_len {l : List SHl} (h : goodSheet l = true) : l.length ≤ 60 := by
  simp only [goodSheet, Bool.and_eq_true, decide_eq_true_eq] at h
  exact h.2
end Go.Proofs.Ytjidioekeinppaa.N
