/- Plain facts on sets of numbers in order, notes that sound at a step, and the most voices. No condition. -/
import Derived.Test.YtipcjpgonncinaaJ0
import Derived.Test.YtipcjpgonncinaaJ2
import Derived.Test.YtipcjpgonncinaaJ3
import Derived.Test.YtipcjpgonncinaaJQS
set_option linter.unusedVariables false
set_option linter.unusedSimpArgs false
namespace Go.Proofs.Ytipcjpgonncinaa.J
open Go.RowKit Go.Proofs.YtipcjpgonncinaaW.PrintWords Go.Proofs.YtipcjpgonncinaaW.PrintLast Go.Proofs.YtipcjpgonncinaaW.PrintMore

/-! a number put into an increasing list -/
def put (n : Int) : List Int → List Int
  | [] => [n]
  | x :: xs => if x < n then x :: put n xs else if x = n then x :: xs else n :: x :: xs
theorem put_len (n : Int) : ∀ l : List Int, (put n l).length ≤ l.length + 1 := by
  intro l
  induction l with
  | nil => simp [put]
  | cons x xs ih => simp only [put]; (repeat' split) <;> simp <;> omega
theorem put_mem (n y : Int) : ∀ l : List Int, y ∈ put n l ↔ y = n ∨ y ∈ l := by
  intro l
  induction l with
  | nil => simp [put]
  | cons x xs ih =>
    simp only [put]
    split
    · simp only [List.mem_cons, ih]; exact ⟨fun h => by rcases h with h | h | h; exact Or.inr (Or.inl h); exact Or.inl h; exact Or.inr (Or.inr h), fun h => by rcases h with h | h | h; exact Or.inr (Or.inl h); exact Or.inl h; exact Or.inr (Or.inr h)⟩
    · split
      · rename_i h; subst h; simp
      · simp
def Rises (l : List Int) : Prop := l.Pairwise (· < ·)
theorem put_rises (n : Int) : ∀ l : List Int, Rises l → Rises (put n l) := by
  intro l
  induction l with
  | nil => intro _; simp [put, Rises]
  | cons x xs ih =>
    intro h
    have h' := List.pairwise_cons.1 h
    simp only [put]
    split
    · rename_i hx
      refine List.pairwise_cons.2 ⟨fun y hy => ?_, ih h'.2⟩
      rcases (put_mem n y xs).1 hy with rfl | hy
      · exact hx
      · exact h'.1 y hy
    · split
      · exact h
      · refine List.pairwise_cons.2 ⟨fun y hy => ?_, h⟩
        rcases List.mem_cons.1 hy with rfl | hy
        · omega
        · have := h'.1 y hy; omega
theorem put_len_new (n : Int) : ∀ l : List Int, Rises l → n ∉ l → (put n l).length = l.length + 1 := by
  intro l
  induction l with
  | nil => intro _ _; simp [put]
  | cons x xs ih =>
    intro h hn
    have h' := List.pairwise_cons.1 h
    simp only [List.mem_cons, not_or] at hn
    simp only [put]
    split
    · simp only [List.length_cons, ih h'.2 hn.2]
    · rw [if_neg (fun e => hn.1 e.symm)]; simp

/-! notes that sound -/
def soundB (t : Int) (y : S51) : Bool := decide (y.f1 ≤ t ∧ t < y.f1 + y.f2)
def atSet (t : Int) : List S51 → List Int → List Int
  | [], acc => acc
  | y :: ys, acc => atSet t ys (if soundB t y = true then put y.f0 acc else acc)
def countAt (t : Int) (s : List S51) : Nat := (s.filter (soundB t)).length
/-- No two notes of one pitch sound in one step. -/
def Apart (s : List S51) : Prop := s.Pairwise fun y x => meetI x y = false
theorem atSet_len (t : Int) : ∀ (s : List S51) (acc : List Int), Rises acc → Apart s → (∀ y ∈ s, soundB t y = true → y.f0 ∉ acc) →
    (atSet t s acc).length = acc.length + countAt t s ∧ Rises (atSet t s acc) := by
  intro s
  induction s with
  | nil => intro acc h _ _; simp [atSet, countAt, h]
  | cons y ys ih =>
    intro acc h ha hn
    have ha' := List.pairwise_cons.1 ha
    simp only [atSet, countAt, List.filter_cons]
    by_cases hy : soundB t y = true
    · simp only [hy, ↓reduceIte, List.length_cons]
      have h1 := put_len_new y.f0 acc h (hn y (by simp) hy)
      obtain ⟨e1, e2⟩ := ih (put y.f0 acc) (put_rises _ _ h) ha'.2 (fun z hz hsz hm => by
        rcases (put_mem _ _ _).1 hm with he | hm
        · have hq := ha'.1 z hz
          simp only [soundB, decide_eq_true_eq] at hy hsz
          simp only [meetI, decide_eq_false_iff_not] at hq
          exact hq ⟨he.symm, by omega⟩
        · exact hn z (by simp [hz]) hsz hm)
      refine ⟨?_, e2⟩
      rw [e1, h1]
      unfold countAt
      omega
    · simp only [hy, Bool.false_eq_true, ↓reduceIte]
      exact ih acc h ha'.2 (fun z hz => hn z (by simp [hz]))
def mostOf (s : List S51) : List S51 → Int → Int
  | [], m => m
  | x :: xs, m => mostOf s xs (if m > (countAt x.f1 s : Int) then m else (countAt x.f1 s : Int))
theorem countAt_le (t : Int) (s : List S51) : countAt t s ≤ s.length := List.length_filter_le _ _
/-! a score's notes are apart -/
theorem scoreFrom_apart : ∀ (l pre : List S51), scoreFrom meetI pre l = true → Apart pre → Apart (pre ++ l) := by
  intro l
  induction l with
  | nil => intro pre _ h; simpa using h
  | cons y l ih =>
    intro pre h ha
    simp only [scoreFrom, Bool.and_eq_true] at h
    have e := ih (pre ++ [y]) h.2.2.2 (by
      refine List.pairwise_append.2 ⟨ha, by simp, fun a haa b hb => ?_⟩
      rw [List.mem_singleton.1 hb]
      have := h.2.2.1
      simp only [Bool.not_eq_true', List.any_eq_false] at this
      simpa using this a haa)
    simpa using e
theorem goodScore_apart {l : List S51} (h : goodScore l = true) : Apart l := by
  simp only [goodScore, Bool.and_eq_true] at h
  have := scoreFrom_apart l [] (by rw [scoreFrom_same l [] InOrder.nil]; exact h.1) (by simp [Apart])
  simpa using this
def goodThin (s : List S51) : Bool := goodScore s && decide (s.length ≤ 12)
theorem thGood_ev (s : List S51) (hs : s.length ≤ 1048576) : Ev (fun k => spec_thGood.f k s) (goodThin s) := by
  unfold spec_thGood.f goodThin
  refine Ev.bind (ntGood_ev s hs) ?_
  by_cases h : goodScore s = true
  · simp only [h, ↓reduceIte, Bool.true_and]; exact Ev.const (dec_eq (by omega))
  · simp only [Bool.eq_false_iff.mpr h, Bool.false_eq_true, ↓reduceIte, Bool.false_and]; exact Ev.now _
theorem isThin_ev (s : List S51) (hs : s.length ≤ 1048576) : Ev (fun k => impl_isThin.f k s) (goodThin s) := by
  unfold impl_isThin.f goodThin
  by_cases h : (s.length : Int) ≤ 12
  · simp only [h, ↓reduceIte, show s.length ≤ 12 from by omega, decide_true, Bool.and_true]
    exact Ev.bind (IsScore_ev s hs) (Ev.now _)
  · simp only [h, ↓reduceIte, show ¬ s.length ≤ 12 from by omega, decide_false, Bool.and_false]; exact Ev.now _
theorem goodThin_iff (s : List S51) : goodThin s = true ↔ goodScore s = true ∧ s.length ≤ 12 := by simp only [goodThin, Bool.and_eq_true, decide_eq_true_eq]
end Go.Proofs.Ytipcjpgonncinaa.J
