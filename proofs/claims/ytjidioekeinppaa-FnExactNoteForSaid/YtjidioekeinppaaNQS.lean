/- Plain facts on scores: which notes are a score, for the reference and for the program. No condition. -/
import Derived.Test.YtjidioekeinppaaN0
import Derived.Test.YtjidioekeinppaaN1
import Derived.Test.YtjidioekeinppaaN4
import Derived.Test.YtjidioekeinppaaNQI
set_option linter.unusedVariables false
set_option linter.unusedSimpArgs false
namespace Go.Proofs.Ytjidioekeinppaa.N
open Go.RowKit Go.Proofs.YtjidioekeinppaaW.PrintWords Go.Proofs.YtjidioekeinppaaW.PrintLast Go.Proofs.YtjidioekeinppaaW.PrintMore

structure SNt where
  f0 : Int
  f1 : Int
  f2 : Int
def noteB (x : SNt) : Bool := decide (24 ≤ x.f0 ∧ x.f0 ≤ 96 ∧ 0 ≤ x.f1 ∧ x.f1 ≤ 999 ∧ 1 ≤ x.f2 ∧ x.f2 ≤ 99)
def noteLt (a b : SNt) : Bool := decide (a.f1 < b.f1 ∨ a.f1 = b.f1 ∧ a.f0 < b.f0)
def meetB (a b : SNt) : Bool := decide (a.f0 = b.f0 ∧ a.f1 < b.f1 + b.f2 ∧ b.f1 < a.f1 + a.f2)
def meetI (x y : SNt) : Bool := decide (y.f0 = x.f0 ∧ y.f1 + y.f2 > x.f1)
theorem noteB_iff (x : SNt) : noteB x = true ↔ (24 ≤ x.f0 ∧ x.f0 ≤ 96 ∧ 0 ≤ x.f1 ∧ x.f1 ≤ 999 ∧ 1 ≤ x.f2 ∧ x.f2 ≤ 99) := by simp [noteB]
theorem noteLt_iff (a b : SNt) : noteLt a b = true ↔ (a.f1 < b.f1 ∨ a.f1 = b.f1 ∧ a.f0 < b.f0) := by simp [noteLt]
theorem ntNote_eq (x : SNt) : spec_ntNote.f x.f0 x.f1 x.f2 = some (noteB x) := by
  unfold spec_ntNote.f noteB
  simp only [ntPitch_eq, l1In_eq, Option.bind_some, decide_eq_true_eq]
  (repeat' split) <;> (first | exact dec_eq (by omega) | exact dec_f (by omega))
theorem IsNote_eq (x : SNt) : impl_IsNote.f x.f0 x.f1 x.f2 = some (noteB x) := by
  unfold impl_IsNote.f noteB
  (repeat' split) <;> (first | exact dec_eq (by omega) | exact dec_f (by omega))
/-- Behind these notes, are the next ones a score? -/
def scoreFrom (m : SNt → SNt → Bool) : List SNt → List SNt → Bool
  | _, [] => true
  | pre, x :: xs => noteB x && ((match pre.getLast? with | none => true | some y => noteLt y x) && (!(pre.any (m x)) && scoreFrom m (pre ++ [x]) xs))
def goodScore (l : List SNt) : Bool := scoreFrom meetB [] l && decide (l.length ≤ 30)

/-- Notes, each no later than the last one. -/
def InOrder (pre : List SNt) : Prop := (∀ y ∈ pre, noteB y = true) ∧ ∀ z, pre.getLast? = some z → ∀ y ∈ pre, y.f1 ≤ z.f1
theorem InOrder.nil : InOrder [] := ⟨by simp, by simp⟩
theorem InOrder.snoc {pre : List SNt} (h : InOrder pre) {x : SNt} (hx : noteB x = true) (hl : ∀ z, pre.getLast? = some z → noteLt z x = true) : InOrder (pre ++ [x]) := by
  refine ⟨fun y hy => ?_, fun z hz y hy => ?_⟩
  · rcases List.mem_append.1 hy with hy | hy
    · exact h.1 y hy
    · rw [List.mem_singleton.1 hy]; exact hx
  · have : z = x := by simpa using hz.symm
    subst this
    rcases List.mem_append.1 hy with hy | hy
    · rcases nil_or_snoc pre with rfl | ⟨p, q, rfl⟩
      · simp at hy
      · have h1 := h.2 q (by simp) y hy
        have h2 := (noteLt_iff q z).1 (hl q (by simp))
        omega
    · rw [List.mem_singleton.1 hy]; exact Int.le_refl _
theorem meet_same {pre : List SNt} (h : InOrder pre) {x : SNt} (hx : noteB x = true) (hl : ∀ z, pre.getLast? = some z → noteLt z x = true) : pre.any (meetI x) = pre.any (meetB x) := by
  rw [Bool.eq_iff_iff, List.any_eq_true, List.any_eq_true]
  refine ⟨fun ⟨y, hy, hm⟩ => ⟨y, hy, ?_⟩, fun ⟨y, hy, hm⟩ => ⟨y, hy, ?_⟩⟩
  · have h1 := (noteB_iff x).1 hx
    have h3 := (h.snoc hx hl).2 x (by simp) y (by simp [hy])
    simp only [meetI, meetB, decide_eq_true_eq] at hm ⊢
    omega
  · simp only [meetI, meetB, decide_eq_true_eq] at hm ⊢
    omega
theorem scoreFrom_same : ∀ (suf pre : List SNt), InOrder pre → scoreFrom meetI pre suf = scoreFrom meetB pre suf := by
  intro suf
  induction suf with
  | nil => intro pre _; rfl
  | cons x xs ih =>
    intro pre h
    simp only [scoreFrom]
    by_cases hx : noteB x = true
    · by_cases hl : ∀ z, pre.getLast? = some z → noteLt z x = true
      · rw [meet_same h hx hl, ih _ (h.snoc hx hl)]
      · have : (match pre.getLast? with | none => true | some y => noteLt y x) = false := by
          cases hp : pre.getLast? with
          | none => exact absurd (fun z hz => by rw [hp] at hz; cases hz) hl
          | some z =>
            cases hq : noteLt z x with
            | false => exact hq
            | true => exact absurd (fun w hw => by rw [hp] at hw; cases hw; exact hq) hl
        rw [this]; simp
    · simp [Bool.eq_false_iff.mpr hx]

theorem scoreFrom_all (m : SNt → SNt → Bool) : ∀ (l pre : List SNt), scoreFrom m pre l = true → ∀ x ∈ l, noteB x = true := by
  intro l
  induction l with
  | nil => intro pre _ x hx; simp at hx
  | cons y l ih =>
    intro pre h x hx
    simp only [scoreFrom, Bool.and_eq_true] at h
    rcases List.mem_cons.1 hx with rfl | hx
    · exact h.1
    · exact ih _ h.2.2.2 x hx
theorem goodScore_all {l : List SNt} (h : goodScore l = true) : ∀ x ∈ l, noteB x = true := by
  simp only [goodScore, Bool.and_eq_true] at h
  exact scoreFrom_all _ l _ h.1
theorem goodScore_len {l : List SNt} (h : goodScore l = true) : l.length ≤ 30 := by
  simp only [goodScore, Bool.and_eq_true, decide_eq_true_eq] at h
  exact h.2
end Go.Proofs.Ytjidioekeinppaa.N
