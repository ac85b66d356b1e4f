/- Plain facts on transpositions: losses, tables, the nearest and the folded pitch. No condition. -/
import Derived.Test.YtafapmanfncfkaaB0
import Derived.Test.YtafapmanfncfkaaB2
import Derived.Test.YtafapmanfncfkaaB3
import Derived.Test.YtafapmanfncfkaaBQI
import Derived.Test.YtafapmanfncfkaaBQS
set_option linter.unusedVariables false
set_option linter.unusedSimpArgs false
namespace Go.Proofs.Ytafapmanfncfkaa.B
open Go.RowKit Go.Proofs.YtafapmanfncfkaaW.PrintWords Go.Proofs.YtafapmanfncfkaaW.PrintLast Go.Proofs.YtafapmanfncfkaaW.PrintMore

def lossOf (l : List Int) (s : List S55) (b : Int) : Int := ((s.filter fun x => decide (x.f0 + b ∉ l)).length : Int)
theorem lossOf_cons (l : List Int) (x : S55) (s : List S55) (b : Int) : lossOf l (x :: s) b = (if x.f0 + b ∈ l then 0 else 1) + lossOf l s b := by
  unfold lossOf
  rw [List.filter_cons]
  by_cases h : x.f0 + b ∈ l
  · simp [h]
  · simp [h]; omega
theorem lossOf_range (l : List Int) (s : List S55) (b : Int) : 0 ≤ lossOf l s b ∧ lossOf l s b ≤ s.length := by
  unfold lossOf
  have := List.length_filter_le (fun x : S55 => decide (x.f0 + b ∉ l)) s
  omega
theorem trLoss_l0 (l : List Int) (r : Int) (s : List S55) (b : Int) (hl : l.length ≤ 1048576) (hs : s.length ≤ 30) (hn : ∀ x ∈ s, noteB x = true) (hb : -24 ≤ b ∧ b ≤ 24) : ∀ (suf pre : List S55) (n : Int), pre ++ suf = s → 0 ≤ n → n ≤ pre.length →
    Ev (fun k => spec_trLoss.l0 k b n s s.length pre.length l r) (n + lossOf l suf b) := by
  intro suf
  induction suf with
  | nil =>
    intro pre n h h0 h1
    have hn : ¬ ((pre.length : Int) < (s.length : Int)) := by rw [← h]; simp
    refine Ev.fuel ?_
    simp only [spec_trLoss.l0, hn, ↓reduceIte]
    exact Ev.const (by simp [lossOf])
  | cons x suf ih =>
    intro pre n h h0 h1
    have hlen : s.length = pre.length + (suf.length + 1) := by rw [← h]; simp
    have c1 : (pre.length : Int) < (s.length : Int) := by omega
    have c2 : (0 : Int) ≤ (pre.length : Int) := by omega
    have c3 : rd_T55 s (pre.length : Int) = x := by rw [← h]; exact getD_mid _ _ _ _
    have hx := (noteB_iff x).1 (hn x (by rw [← h]; simp))
    have w1 : wrap64 (x.f0 + b) = x.f0 + b := w_id (by omega) (by omega)
    have w2 : wrap64 (n + 1) = n + 1 := w_id (by omega) (by omega)
    have iff := idxFrom_neg (x.f0 + b) l 0 (by omega)
    rw [lossOf_cons]
    refine Ev.fuel ?_
    simp only [spec_trLoss.l0, c1, c2, c3, ↓reduceIte, wn pre.length (by omega), w1, w2]
    refine Ev.bind (inTrack_ev l r (x.f0 + b) hl) ?_
    by_cases hm : x.f0 + b ∈ l
    · have : ¬ idxFrom (x.f0 + b) l 0 < 0 := fun q => iff.1 q hm
      simp only [this, hm, ↓reduceIte]
      have e := ih (pre ++ [x]) n (by rw [← h]; simp) h0 (by simp; omega)
      rw [Int.zero_add]
      simpa using e
    · have : idxFrom (x.f0 + b) l 0 < 0 := iff.2 hm
      simp only [this, hm, ↓reduceIte]
      have e := ih (pre ++ [x]) (n + 1) (by rw [← h]; simp) (by omega) (by simp; omega)
      rw [← Int.add_assoc]
      simpa using e
theorem trLoss_ev (l : List Int) (r : Int) (s : List S55) (b : Int) (hl : l.length ≤ 1048576) (hs : s.length ≤ 30) (hn : ∀ x ∈ s, noteB x = true) (hb : -24 ≤ b ∧ b ≤ 24) : Ev (fun k => spec_trLoss.f k l r s b) (lossOf l s b) := by
  unfold spec_trLoss.f
  have e := trLoss_l0 l r s b hl hs hn hb s [] 0 rfl (by omega) (by simp)
  rw [Int.zero_add] at e
  exact e
theorem transposeLoss_l0 (l : List Int) (r : Int) (s : List S55) (b : Int) (hl : l.length ≤ 1048576) (hs : s.length ≤ 30) (hn : ∀ x ∈ s, noteB x = true) (hb : -24 ≤ b ∧ b ≤ 24) : ∀ (suf pre : List S55) (n : Int), pre ++ suf = s → 0 ≤ n → n ≤ pre.length →
    Ev (fun k => impl_transposeLoss.l0 k b n s s.length pre.length l r) (n + lossOf l suf b) := by
  intro suf
  induction suf with
  | nil =>
    intro pre n h h0 h1
    have hn : ¬ ((pre.length : Int) < (s.length : Int)) := by rw [← h]; simp
    refine Ev.fuel ?_
    simp only [impl_transposeLoss.l0, hn, ↓reduceIte]
    exact Ev.const (by simp [lossOf])
  | cons x suf ih =>
    intro pre n h h0 h1
    have hlen : s.length = pre.length + (suf.length + 1) := by rw [← h]; simp
    have c1 : (pre.length : Int) < (s.length : Int) := by omega
    have c2 : (0 : Int) ≤ (pre.length : Int) := by omega
    have c3 : rd_T55 s (pre.length : Int) = x := by rw [← h]; exact getD_mid _ _ _ _
    have hx := (noteB_iff x).1 (hn x (by rw [← h]; simp))
    have w1 : wrap64 (x.f0 + b) = x.f0 + b := w_id (by omega) (by omega)
    have w2 : wrap64 (n + 1) = n + 1 := w_id (by omega) (by omega)
    rw [lossOf_cons]
    refine Ev.fuel ?_
    simp only [impl_transposeLoss.l0, c1, c2, c3, ↓reduceIte, wn pre.length (by omega), w1, w2]
    refine Ev.bind (Contains_ev l (x.f0 + b) hl) ?_
    by_cases hm : x.f0 + b ∈ l
    · simp only [hm, decide_true, ↓reduceIte]
      have e := ih (pre ++ [x]) n (by rw [← h]; simp) h0 (by simp; omega)
      rw [Int.zero_add]
      simpa using e
    · simp only [hm, decide_false, Bool.false_eq_true, ↓reduceIte]
      have e := ih (pre ++ [x]) (n + 1) (by rw [← h]; simp) (by omega) (by simp; omega)
      rw [← Int.add_assoc]
      simpa using e
theorem transposeLoss_ev (l : List Int) (r : Int) (s : List S55) (b : Int) (hl : l.length ≤ 1048576) (hs : s.length ≤ 30) (hn : ∀ x ∈ s, noteB x = true) (hb : -24 ≤ b ∧ b ≤ 24) : Ev (fun k => impl_transposeLoss.f k l r s b) (lossOf l s b) := by
  unfold impl_transposeLoss.f
  have e := transposeLoss_l0 l r s b hl hs hn hb s [] 0 rfl (by omega) (by simp)
  rw [Int.zero_add] at e
  exact e
end Go.Proofs.Ytafapmanfncfkaa.B
