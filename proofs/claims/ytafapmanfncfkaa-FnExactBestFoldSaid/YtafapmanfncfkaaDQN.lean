/- Plain facts on the nearest pitch and the folded one. No condition. -/
import Derived.Test.YtafapmanfncfkaaD0
import Derived.Test.YtafapmanfncfkaaD3
import Derived.Test.YtafapmanfncfkaaD4
import Derived.Test.YtafapmanfncfkaaDQI
set_option linter.unusedVariables false
set_option linter.unusedSimpArgs false
namespace Go.Proofs.Ytafapmanfncfkaa.D
open Go.RowKit Go.Proofs.YtafapmanfncfkaaW.PrintWords Go.Proofs.YtafapmanfncfkaaW.PrintLast Go.Proofs.YtafapmanfncfkaaW.PrintMore

def ab (n : Int) : Int := if n > -n then n else -n
theorem ab_cases (n : Int) : 0 ≤ n ∧ ab n = n ∨ n < 0 ∧ ab n = -n := by unfold ab; split <;> omega
theorem l1Abs_eq {n : Int} (h0 : -1000000 ≤ n) (h1 : n ≤ 1000000) : spec_l1Abs.f n = some (ab n) := by
  unfold spec_l1Abs.f spec_l1Most.f ab
  rw [w_id (by omega) (by omega)]
  split <;> rfl
theorem distance_eq {a b : Int} (ha : 0 ≤ a ∧ a ≤ 1000) (hb : 0 ≤ b ∧ b ≤ 1000) : impl_distance.f a b = some (ab (a - b)) := by
  unfold impl_distance.f ab mx
  rw [w_id (x := a - b) (by omega) (by omega), w_id (x := b - a) (by omega) (by omega)]
  congr 1
  (repeat' split) <;> omega
def near (m p : Int) : List Int → Int → Int
  | [], b => b
  | x :: xs, b => near m p xs (if Int.tmod (x - p) m = 0 then (if b < 0 then x else if ab (x - p) < ab (b - p) then x else b) else b)
theorem trNearest_l0 (l : List Int) (m p : Int) (hl : l.length ≤ 1048576) (ha : ∀ x ∈ l, 24 ≤ x ∧ x ≤ 96) (hm : m ≠ 0) (hp : 24 ≤ p ∧ p ≤ 96) : ∀ (suf pre : List Int) (b : Int), pre ++ suf = l → (b = -1 ∨ 24 ≤ b ∧ b ≤ 96) →
    Ev (fun k => spec_trNearest.l0 k p m b l l.length pre.length) (near m p suf b) := by
  intro suf
  induction suf with
  | nil =>
    intro pre b h hb
    have hn : ¬ ((pre.length : Int) < (l.length : Int)) := by rw [← h]; simp
    refine Ev.fuel ?_
    simp only [spec_trNearest.l0, hn, ↓reduceIte, near]
    exact Ev.now _
  | cons x suf ih =>
    intro pre b h hb
    have hlen : l.length = pre.length + (suf.length + 1) := by rw [← h]; simp
    have c1 : (pre.length : Int) < (l.length : Int) := by omega
    have c2 : (0 : Int) ≤ (pre.length : Int) := by omega
    have c3 : rd l (pre.length : Int) = x := by rw [← h]; exact getD_mid _ _ _ _
    have hx := ha x (by rw [← h]; simp)
    have w1 : wrap64 (x - p) = x - p := w_id (by omega) (by omega)
    have w2 : wrap64 (b - p) = b - p := w_id (by omega) (by omega)
    have e : ∀ b, (b = -1 ∨ 24 ≤ b ∧ b ≤ 96) → Ev (fun k => spec_trNearest.l0 k p m b l l.length ((pre.length + 1 : Nat) : Int)) (near m p suf b) := fun b hb => by simpa using ih (pre ++ [x]) b (by rw [← h]; simp) hb
    refine Ev.fuel ?_
    simp only [spec_trNearest.l0, c1, c2, c3, hm, ↓reduceIte, wn pre.length (by omega), w1, w2, near]
    by_cases ht : Int.tmod (x - p) m = 0
    · simp only [ht, ↓reduceIte]
      by_cases hn : b < 0
      · simp only [hn, ↓reduceIte]; exact e _ (Or.inr hx)
      · simp only [hn, ↓reduceIte, l1Abs_eq (n := x - p) (by omega) (by omega), l1Abs_eq (n := b - p) (by omega) (by omega), Option.bind_some]
        by_cases hd : ab (x - p) < ab (b - p)
        · simp only [hd, ↓reduceIte]; exact e _ (Or.inr hx)
        · simp only [hd, ↓reduceIte]; exact e _ hb
    · simp only [ht, ↓reduceIte]; exact e _ hb
theorem trNearest_ev (l : List Int) (r m p : Int) (hl : l.length ≤ 1048576) (ha : ∀ x ∈ l, 24 ≤ x ∧ x ≤ 96) (hm : m ≠ 0) (hp : 24 ≤ p ∧ p ≤ 96) : Ev (fun k => spec_trNearest.f k l r p m) (near m p l (-1)) := by
  unfold spec_trNearest.f
  exact trNearest_l0 l m p hl ha hm hp l [] (-1) rfl (Or.inl rfl)
theorem near_range (m p : Int) : ∀ (l : List Int) (b : Int), (∀ x ∈ l, 24 ≤ x ∧ x ≤ 96) → (b = -1 ∨ 24 ≤ b ∧ b ≤ 96) → near m p l b = -1 ∨ 24 ≤ near m p l b ∧ near m p l b ≤ 96 := by
  intro l
  induction l with
  | nil => intro b _ hb; exact hb
  | cons x xs ih =>
    intro b ha hb
    have hx := ha x (by simp)
    refine ih _ (fun y hy => ha y (by simp [hy])) ?_
    (repeat' split) <;> omega
def foldF (p : Int) : List Int → Int → Int
  | [], b => b
  | x :: xs, b => foldF p xs (if Int.tmod (x - p) 12 = 0 then (if b = 0 then x else if ab (x - p) < ab (b - p) then x else b) else b)
theorem foldPitch_l0 (l : List Int) (p : Int) (hl : l.length ≤ 1048576) (ha : ∀ x ∈ l, 24 ≤ x ∧ x ≤ 96) (hp : 24 ≤ p ∧ p ≤ 96) : ∀ (suf pre : List Int) (b : Int), pre ++ suf = l → (b = 0 ∨ 24 ≤ b ∧ b ≤ 96) →
    Ev (fun k => impl_foldPitch.l0 k p b l l.length pre.length) (foldF p suf b) := by
  intro suf
  induction suf with
  | nil =>
    intro pre b h hb
    have hn : ¬ ((pre.length : Int) < (l.length : Int)) := by rw [← h]; simp
    refine Ev.fuel ?_
    simp only [impl_foldPitch.l0, hn, ↓reduceIte, foldF]
    exact Ev.now _
  | cons x suf ih =>
    intro pre b h hb
    have hlen : l.length = pre.length + (suf.length + 1) := by rw [← h]; simp
    have c1 : (pre.length : Int) < (l.length : Int) := by omega
    have c2 : (0 : Int) ≤ (pre.length : Int) := by omega
    have c3 : rd l (pre.length : Int) = x := by rw [← h]; exact getD_mid _ _ _ _
    have hx := ha x (by rw [← h]; simp)
    have w1 : wrap64 (x - p) = x - p := w_id (by omega) (by omega)
    have e : ∀ b, (b = 0 ∨ 24 ≤ b ∧ b ≤ 96) → Ev (fun k => impl_foldPitch.l0 k p b l l.length ((pre.length + 1 : Nat) : Int)) (foldF p suf b) := fun b hb => by simpa using ih (pre ++ [x]) b (by rw [← h]; simp) hb
    refine Ev.fuel ?_
    simp only [impl_foldPitch.l0, c1, c2, c3, ↓reduceIte, wn pre.length (by omega), w1, foldF]
    by_cases ht : Int.tmod (x - p) 12 = 0
    · simp only [ht, ↓reduceIte]
      by_cases hn : b = 0
      · simp only [hn, ↓reduceIte]; exact e _ (Or.inr hx)
      · simp only [hn, ↓reduceIte, distance_eq (a := x) (b := p) ⟨by omega, by omega⟩ ⟨by omega, by omega⟩, distance_eq (a := b) (b := p) ⟨by omega, by omega⟩ ⟨by omega, by omega⟩, Option.bind_some]
        by_cases hd : ab (x - p) < ab (b - p)
        · simp only [hd, ↓reduceIte]; exact e _ (Or.inr hx)
        · simp only [hd, ↓reduceIte]; exact e _ hb
    · simp only [ht, ↓reduceIte]; exact e _ hb
theorem foldPitch_ev (l : List Int) (r p : Int) (hl : l.length ≤ 1048576) (ha : ∀ x ∈ l, 24 ≤ x ∧ x ≤ 96) (hp : 24 ≤ p ∧ p ≤ 96) : Ev (fun k => impl_foldPitch.f k l r p) (foldF p l 0) := by
  unfold impl_foldPitch.f
  exact foldPitch_l0 l p hl ha hp l [] 0 rfl (Or.inl rfl)
theorem fold_same (p : Int) : ∀ (l : List Int) (b c : Int), (∀ x ∈ l, 24 ≤ x ∧ x ≤ 96) → (b = -1 ∧ c = 0 ∨ 24 ≤ b ∧ b ≤ 96 ∧ c = b) →
    (near 12 p l b = -1 ∧ foldF p l c = 0 ∨ 24 ≤ near 12 p l b ∧ near 12 p l b ≤ 96 ∧ foldF p l c = near 12 p l b) := by
  intro l
  induction l with
  | nil => intro b c _ h; exact h
  | cons x xs ih =>
    intro b c ha h
    have hx := ha x (by simp)
    refine ih _ _ (fun y hy => ha y (by simp [hy])) ?_
    rcases h with ⟨rfl, rfl⟩ | ⟨h1, h2, rfl⟩
    · by_cases ht : Int.tmod (x - p) 12 = 0
      · rw [if_pos ht, if_pos ht, if_pos (show (-1 : Int) < 0 by decide), if_pos rfl]; exact Or.inr ⟨hx.1, hx.2, rfl⟩
      · rw [if_neg ht, if_neg ht]; exact Or.inl ⟨rfl, rfl⟩
    · by_cases ht : Int.tmod (x - p) 12 = 0
      · rw [if_pos ht, if_pos ht, if_neg (show ¬ c < 0 by omega), if_neg (show ¬ c = 0 by omega)]
        by_cases hd : ab (x - p) < ab (c - p)
        · rw [if_pos hd]; exact Or.inr ⟨hx.1, hx.2, rfl⟩
        · rw [if_neg hd]; exact Or.inr ⟨h1, h2, rfl⟩
      · rw [if_neg ht, if_neg ht]; exact Or.inr ⟨h1, h2, rfl⟩
end Go.Proofs.Ytafapmanfncfkaa.D
