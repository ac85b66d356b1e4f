/- Plain facts on sets of numbers in order, notes that sound at a step, and the most voices. No condition. -/
import Derived.Test.YtbfehdhncncgdaaF0
import Derived.Test.YtbfehdhncncgdaaF3
import Derived.Test.YtbfehdhncncgdaaFQS
set_option linter.unusedVariables false
set_option linter.unusedSimpArgs false
namespace Go.Proofs.Ytbfehdhncncgdaa.F
open Go.RowKit Go.Proofs.YtbfehdhncncgdaaW.PrintWords Go.Proofs.YtbfehdhncncgdaaW.PrintLast Go.Proofs.YtbfehdhncncgdaaW.PrintMore

/-! a number put into an increasing list -/
def put (n : Int) : List Int → List Int
  | [] => [n]
  | x :: xs => if x < n then x :: put n xs else if x = n then x :: xs else n :: x :: xs
theorem put_len (n : Int) : ∀ l : List Int, (put n l).length ≤ l.length + 1 := by
  intro l
  induction l with
  | nil => simp [put]
  | cons x xs ih => simp only [put]; (repeat' split) <;> simp <;> omega
theorem put_mem (n y : Int) : ∀ l : List Int, y ∈ put n l ↔ y = n ∨ y ∈ l := by
  intro l
  induction l with
  | nil => simp [put]
  | cons x xs ih =>
    simp only [put]
    split
    · simp only [List.mem_cons, ih]; exact ⟨fun h => by rcases h with h | h | h; exact Or.inr (Or.inl h); exact Or.inl h; exact Or.inr (Or.inr h), fun h => by rcases h with h | h | h; exact Or.inr (Or.inl h); exact Or.inl h; exact Or.inr (Or.inr h)⟩
    · split
      · rename_i h; subst h; simp
      · simp
def Rises (l : List Int) : Prop := l.Pairwise (· < ·)
theorem put_rises (n : Int) : ∀ l : List Int, Rises l → Rises (put n l) := by
  intro l
  induction l with
  | nil => intro _; simp [put, Rises]
  | cons x xs ih =>
    intro h
    have h' := List.pairwise_cons.1 h
    simp only [put]
    split
    · rename_i hx
      refine List.pairwise_cons.2 ⟨fun y hy => ?_, ih h'.2⟩
      rcases (put_mem n y xs).1 hy with rfl | hy
      · exact hx
      · exact h'.1 y hy
    · split
      · exact h
      · refine List.pairwise_cons.2 ⟨fun y hy => ?_, h⟩
        rcases List.mem_cons.1 hy with rfl | hy
        · omega
        · have := h'.1 y hy; omega
theorem put_len_new (n : Int) : ∀ l : List Int, Rises l → n ∉ l → (put n l).length = l.length + 1 := by
  intro l
  induction l with
  | nil => intro _ _; simp [put]
  | cons x xs ih =>
    intro h hn
    have h' := List.pairwise_cons.1 h
    simp only [List.mem_cons, not_or] at hn
    simp only [put]
    split
    · simp only [List.length_cons, ih h'.2 hn.2]
    · rw [if_neg (fun e => hn.1 e.symm)]; simp
theorem l1Put_l0 (l : List Int) (n : Int) (hl : l.length ≤ 1048576) : ∀ (suf pre : List Int), pre ++ suf = l → Ev (fun k => spec_l1Put.l0 k l n pre.length) (pre ++ put n suf) := by
  intro suf
  induction suf with
  | nil =>
    intro pre h
    have hp : pre = l := by simpa using h
    have hn : ¬ ((pre.length : Int) < (l.length : Int)) := by rw [hp]; omega
    have h2 : (0 : Int) ≤ (pre.length : Int) := by omega
    have h3 : (pre.length : Int) ≤ (l.length : Int) := by rw [hp]; omega
    have tk : l.take ((pre.length : Int)).toNat = pre := by rw [← hp]; simp
    have dr : l.drop ((pre.length : Int)).toNat = [] := by rw [← hp]; simp
    have hpl : pre.length ≤ 1048576 := by rw [hp]; exact hl
    have q1 : 0 + pre.length < 17592186044416 := by omega
    have q2 : pre.length < 17592186044416 := by omega
    have q3 : pre.length + 1 + 0 < 17592186044416 := by omega
    refine Ev.fuel ?_
    simp only [spec_l1Put.l0, hn, h2, h3, tk, dr, ↓reduceIte, Option.bind_some, List.length_nil, List.nil_append, List.length_append, List.length_singleton, q1, q2, q3]
    refine Ev.const ?_
    simp [put]
    omega
  | cons x suf ih =>
    intro pre h
    have hlen : l.length = pre.length + (suf.length + 1) := by rw [← h]; simp
    have h1 : (pre.length : Int) < (l.length : Int) := by omega
    have h2 : (0 : Int) ≤ (pre.length : Int) := by omega
    have h4 : rd l (pre.length : Int) = x := by rw [← h]; exact getD_mid _ _ _ _
    have h3 : (pre.length : Int) ≤ (l.length : Int) := by omega
    have tk : l.take ((pre.length : Int)).toNat = pre := by rw [← h]; simp
    have dr : l.drop ((pre.length : Int)).toNat = x :: suf := by rw [← h]; simp
    have q1 : 0 + pre.length < 17592186044416 := by omega
    have q2 : pre.length < 17592186044416 := by omega
    have q3 : pre.length + 1 + (suf.length + 1) < 17592186044416 := by omega
    refine Ev.fuel ?_
    by_cases hx : x < n
    · simp only [spec_l1Put.l0, h1, h2, h4, hx, ↓reduceIte, wn pre.length (by omega), put]
      simpa using ih (pre ++ [x]) (by rw [← h]; simp)
    · by_cases he : x = n
      · subst he
        simp only [spec_l1Put.l0, h1, h2, h4, hx, ↓reduceIte, put]
        exact Ev.const (by rw [h])
      · simp only [spec_l1Put.l0, h1, h2, h3, h4, hx, he, tk, dr, ↓reduceIte, Option.bind_some, List.length_nil, List.nil_append, List.length_append, List.length_singleton, List.length_cons, q1, q2, q3, put]
        exact Ev.const (by simp; omega)
theorem l1Put_ev (l : List Int) (n : Int) (hl : l.length ≤ 1048576) : Ev (fun k => spec_l1Put.f k l n) (put n l) := by
  unfold spec_l1Put.f
  exact l1Put_l0 l n hl l [] rfl

/-! notes that sound -/
def soundB (t : Int) (y : S57) : Bool := decide (y.f1 ≤ t ∧ t < y.f1 + y.f2)
def atSet (t : Int) : List S57 → List Int → List Int
  | [], acc => acc
  | y :: ys, acc => atSet t ys (if soundB t y = true then put y.f0 acc else acc)
def countAt (t : Int) (s : List S57) : Nat := (s.filter (soundB t)).length
/-- No two notes of one pitch sound in one step. -/
def Apart (s : List S57) : Prop := s.Pairwise fun y x => meetI x y = false
theorem atSet_len (t : Int) : ∀ (s : List S57) (acc : List Int), Rises acc → Apart s → (∀ y ∈ s, soundB t y = true → y.f0 ∉ acc) →
    (atSet t s acc).length = acc.length + countAt t s ∧ Rises (atSet t s acc) := by
  intro s
  induction s with
  | nil => intro acc h _ _; simp [atSet, countAt, h]
  | cons y ys ih =>
    intro acc h ha hn
    have ha' := List.pairwise_cons.1 ha
    simp only [atSet, countAt, List.filter_cons]
    by_cases hy : soundB t y = true
    · simp only [hy, ↓reduceIte, List.length_cons]
      have h1 := put_len_new y.f0 acc h (hn y (by simp) hy)
      obtain ⟨e1, e2⟩ := ih (put y.f0 acc) (put_rises _ _ h) ha'.2 (fun z hz hsz hm => by
        rcases (put_mem _ _ _).1 hm with he | hm
        · have hq := ha'.1 z hz
          simp only [soundB, decide_eq_true_eq] at hy hsz
          simp only [meetI, decide_eq_false_iff_not] at hq
          exact hq ⟨he.symm, by omega⟩
        · exact hn z (by simp [hz]) hsz hm)
      refine ⟨?_, e2⟩
      rw [e1, h1]
      unfold countAt
      omega
    · simp only [hy, Bool.false_eq_true, ↓reduceIte]
      exact ih acc h ha'.2 (fun z hz => hn z (by simp [hz]))
def mostOf (s : List S57) : List S57 → Int → Int
  | [], m => m
  | x :: xs, m => mostOf s xs (if m > (countAt x.f1 s : Int) then m else (countAt x.f1 s : Int))
theorem countAt_le (t : Int) (s : List S57) : countAt t s ≤ s.length := List.length_filter_le _ _
/-! a score's notes are apart -/
theorem scoreFrom_apart : ∀ (l pre : List S57), scoreFrom meetI pre l = true → Apart pre → Apart (pre ++ l) := by
  intro l
  induction l with
  | nil => intro pre _ h; simpa using h
  | cons y l ih =>
    intro pre h ha
    simp only [scoreFrom, Bool.and_eq_true] at h
    have e := ih (pre ++ [y]) h.2.2.2 (by
      refine List.pairwise_append.2 ⟨ha, by simp, fun a haa b hb => ?_⟩
      rw [List.mem_singleton.1 hb]
      have := h.2.2.1
      simp only [Bool.not_eq_true', List.any_eq_false] at this
      simpa using this a haa)
    simpa using e
theorem goodScore_apart {l : List S57} (h : goodScore l = true) : Apart l := by
  simp only [goodScore, Bool.and_eq_true] at h
  have := scoreFrom_apart l [] (by rw [scoreFrom_same l [] InOrder.nil]; exact h.1) (by simp [Apart])
  simpa using this
end Go.Proofs.Ytbfehdhncncgdaa.F
