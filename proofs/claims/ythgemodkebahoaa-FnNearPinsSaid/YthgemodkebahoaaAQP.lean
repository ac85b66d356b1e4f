/- Plain facts on pins: what the reference and the program compute on lists of pins. No condition. -/
import Derived.Test.YthgemodkebahoaaA0
import Derived.Test.YthgemodkebahoaaA2
import Derived.Test.YthgemodkebahoaaA3
import Derived.Test.YthgemodkebahoaaA5
import Derived.Test.YthgemodkebahoaaAQB
set_option linter.unusedVariables false
set_option linter.unusedSimpArgs false
namespace Go.Proofs.Ythgemodkebahoaa.A
open Go.RowKit Go.Proofs.YthgemodkebahoaaW.PrintWords Go.Proofs.YthgemodkebahoaaW.PrintLast Go.Proofs.YthgemodkebahoaaW.PrintMore

def pinB (x : S39) : Bool := decide (0 ≤ x.f0 ∧ x.f0 ≤ 19 ∧ 0 ≤ x.f1 ∧ x.f1 ≤ 359 ∧ 0 ≤ x.f2 ∧ x.f2 ≤ 3)
def pinLt (a b : S39) : Bool := if a.f2 = b.f2 then (if a.f1 = b.f1 then decide (a.f0 < b.f0) else decide (a.f1 < b.f1)) else decide (a.f2 < b.f2)
def pinsFrom : Option S39 → List S39 → Bool
  | _, [] => true
  | none, x :: xs => pinB x && pinsFrom (some x) xs
  | some y, x :: xs => pinB x && (pinLt y x && pinsFrom (some x) xs)
def goodPins (l : List S39) : Bool := pinsFrom none l && decide (l.length ≤ 60)

theorem l1In_eq (a b c : Int) : spec_l1In.f a b c = some (decide (b ≤ a ∧ a ≤ c)) := by
  unfold spec_l1In.f
  by_cases h : a ≥ b
  · rw [if_pos h]; exact dec_eq (by omega)
  · rw [if_neg h]; exact dec_f (by omega)
theorem cyShift_eq (a : Int) : spec_cyShift.f a = some (decide (0 ≤ a ∧ a ≤ 3)) := by unfold spec_cyShift.f; rw [l1In_eq]; rfl
theorem cyPin_eq (x : S39) : spec_cyPin.f x.f0 x.f1 x.f2 = some (pinB x) := by
  unfold spec_cyPin.f pinB
  simp only [l1In_eq, cyShift_eq, Option.bind_some, decide_eq_true_eq]
  (repeat' split) <;> (first | exact dec_eq (by omega) | exact dec_f (by omega) | exact dec_t (by omega))
theorem isShift_eq (a : Int) : impl_isShift.f a = some (decide (0 ≤ a ∧ a ≤ 3)) := by
  unfold impl_isShift.f
  split <;> (first | exact dec_eq (by omega) | exact dec_f (by omega) | exact dec_t (by omega))
theorem isTrack_eq (a : Int) : impl_isTrack.f a = some (decide (0 ≤ a ∧ a ≤ 19)) := by
  unfold impl_isTrack.f
  split <;> (first | exact dec_eq (by omega) | exact dec_f (by omega) | exact dec_t (by omega))
theorem isPin_eq (x : S39) : impl_isPin.f x.f0 x.f1 x.f2 = some (pinB x) := by
  unfold impl_isPin.f pinB
  simp only [isTrack_eq, isShift_eq, Option.bind_some, decide_eq_true_eq]
  (repeat' split) <;> (first | exact dec_eq (by omega) | exact dec_f (by omega) | exact dec_t (by omega))
theorem cyBefore_eq (a b : S39) : spec_cyBefore.f a.f0 a.f1 a.f2 b.f0 b.f1 b.f2 = some (pinLt a b) := by
  unfold spec_cyBefore.f pinLt
  (repeat' split) <;> rfl
theorem pinLess_eq (a b : S39) : impl_pinLess.f a.f0 a.f1 a.f2 b.f0 b.f1 b.f2 = some (pinLt a b) := by
  unfold impl_pinLess.f pinLt
  (repeat' split) <;> rfl

theorem cyGood_l0 (l : List S39) (hl : l.length ≤ 1048576) : ∀ (suf pre : List S39), pre ++ suf = l →
    Ev (fun k => spec_cyGood.l0 k l l l.length pre.length) (pinsFrom pre.getLast? suf && decide (l.length ≤ 60)) := by
  intro suf
  induction suf with
  | nil =>
    intro pre h
    have hn : ¬ ((pre.length : Int) < (l.length : Int)) := by rw [← h]; simp
    refine Ev.fuel ?_
    simp only [spec_cyGood.l0, hn, ↓reduceIte]
    refine Ev.const ?_
    cases pre.getLast? <;> (simp only [pinsFrom, Bool.true_and]; exact dec_eq (by omega))
  | cons x suf ih =>
    intro pre h
    have hlen : l.length = pre.length + (suf.length + 1) := by rw [← h]; simp
    have h1 : (pre.length : Int) < (l.length : Int) := by omega
    have h2 : (0 : Int) ≤ (pre.length : Int) := by omega
    have h3 : rd_T39 l (pre.length : Int) = x := by rw [← h]; exact getD_mid _ _ _ _
    have e := ih (pre ++ [x]) (by rw [← h]; simp)
    have e' : Ev (fun k => spec_cyGood.l0 k l l l.length ((pre.length + 1 : Nat) : Int)) (pinsFrom (some x) suf && decide (l.length ≤ 60)) := by simpa using e
    refine Ev.fuel ?_
    simp only [spec_cyGood.l0, h1, h2, h3, ↓reduceIte, cyPin_eq, Option.bind_some, wn pre.length (by omega)]
    by_cases hx : pinB x = true
    · simp only [hx, ↓reduceIte]
      rcases nil_or_snoc pre with rfl | ⟨pre', y, rfl⟩
      · simp only [List.length_nil, Int.natCast_zero, Int.lt_irrefl, gt_iff_lt, ↓reduceIte, List.getLast?_nil, pinsFrom, hx, Bool.true_and]
        exact e'
      · have hc : (pre' ++ [y]).length = pre'.length + 1 := by simp
        have g1 : ((pre' ++ [y]).length : Int) > 0 := by omega
        have g2 : wrap64 (((pre' ++ [y]).length : Int) - 1) = (pre'.length : Int) := by rw [w_id (by omega) (by omega)]; omega
        have g3 : (0 : Int) ≤ (pre'.length : Int) := by omega
        have g4 : (pre'.length : Int) < (l.length : Int) := by omega
        have g5 : rd_T39 l (pre'.length : Int) = y := by rw [← h, List.append_assoc]; exact getD_mid _ _ _ _
        simp only [g1, g2, g3, g4, g5, ↓reduceIte, cyBefore_eq, Option.bind_some]
        have gl : (pre' ++ [y]).getLast? = some y := by simp
        rw [gl]
        simp only [pinsFrom, hx, Bool.true_and]
        by_cases hy : pinLt y x = true
        · simp only [hy, ↓reduceIte, Bool.true_and]; exact e'
        · simp only [Bool.eq_false_iff.mpr hy, Bool.false_eq_true, ↓reduceIte, Bool.false_and]; exact Ev.now _
    · simp only [hx, Bool.false_eq_true, ↓reduceIte]
      have hx' : pinB x = false := by simpa using hx
      refine Ev.const ?_
      cases pre.getLast? <;> simp [pinsFrom, hx']
theorem cyGood_ev (l : List S39) (hl : l.length ≤ 1048576) : Ev (fun k => spec_cyGood.f k l) (goodPins l) := by
  unfold spec_cyGood.f
  exact cyGood_l0 l hl l [] rfl
theorem ArePins_l0 : ∀ (k : Nat) (a b : List S39) (c d : Int), impl_ArePins.l0 k a b c d = spec_cyGood.l0 k a b c d := by
  intro k
  induction k with
  | zero => intros; rfl
  | succ k ih => intros; simp only [impl_ArePins.l0, spec_cyGood.l0, ih, isPin_eq, cyPin_eq, pinLess_eq, cyBefore_eq]
theorem ArePins_eq (k : Nat) (l : List S39) : impl_ArePins.f k l = spec_cyGood.f k l := by unfold impl_ArePins.f spec_cyGood.f; exact ArePins_l0 ..
theorem ArePins_ev (l : List S39) (hl : l.length ≤ 1048576) : Ev (fun k => impl_ArePins.f k l) (goodPins l) := by
  simp only [ArePins_eq]; exact cyGood_ev l hl

theorem pinsFrom_all : ∀ (l : List S39) (p : Option S39), pinsFrom p l = true → ∀ x ∈ l, pinB x = true := by
  intro l
  induction l with
  | nil => intro p _ x hx; simp at hx
  | cons y l ih =>
    intro p h x hx
    have h' : pinB y = true ∧ pinsFrom (some y) l = true := by
      cases p <;> simp only [pinsFrom, Bool.and_eq_true] at h
      · exact h
      · exact ⟨h.1, h.2.2⟩
    rcases List.mem_cons.1 hx with rfl | hx
    · exact h'.1
    · exact ih _ h'.2 x hx
theorem goodPins_all {l : List S39} (h : goodPins l = true) : ∀ x ∈ l, pinB x = true := by
  simp only [goodPins, Bool.and_eq_true] at h
  exact pinsFrom_all l _ h.1
theorem goodPins_len {l : List S39} (h : goodPins l = true) : l.length ≤ 60 := by
  simp only [goodPins, Bool.and_eq_true, decide_eq_true_eq] at h
  exact h.2
theorem pinB_iff (x : S39) : pinB x = true ↔ (0 ≤ x.f0 ∧ x.f0 ≤ 19 ∧ 0 ≤ x.f1 ∧ x.f1 ≤ 359 ∧ 0 ≤ x.f2 ∧ x.f2 ≤ 3) := by simp [pinB]

/-! the pins of a tune -/
def tune (l : List S39) (s : Int) (b : Bool) : List S39 := l.filter fun p => (p.f2 == s) == b
theorem cyPart_l0 (l : List S39) (s : Int) (b : Bool) (hl : l.length ≤ 1048576) : ∀ (suf pre acc : List S39), pre ++ suf = l → acc.length ≤ pre.length →
    Ev (fun k => spec_cyPart.l0 k s b acc l l.length pre.length) (acc ++ tune suf s b) := by
  intro suf
  induction suf with
  | nil =>
    intro pre acc h ha
    have hn : ¬ ((pre.length : Int) < (l.length : Int)) := by rw [← h]; simp
    refine Ev.fuel ?_
    simp only [spec_cyPart.l0, hn, ↓reduceIte]
    refine Ev.const ?_
    simp [tune]
  | cons x suf ih =>
    intro pre acc h ha
    have hlen : l.length = pre.length + (suf.length + 1) := by rw [← h]; simp
    have h1 : (pre.length : Int) < (l.length : Int) := by omega
    have h2 : (0 : Int) ≤ (pre.length : Int) := by omega
    have h3 : rd_T39 l (pre.length : Int) = x := by rw [← h]; exact getD_mid _ _ _ _
    have h4 : acc.length < 5864062014805 := by omega
    refine Ev.fuel ?_
    simp only [spec_cyPart.l0, h1, h2, h3, h4, ↓reduceIte, wn pre.length (by omega)]
    by_cases hx : ((x.f2 == s) == b) = true
    · simp only [hx, ↓reduceIte]
      have e := ih (pre ++ [x]) (acc ++ [x]) (by rw [← h]; simp) (by simp; omega)
      rw [show tune (x :: suf) s b = x :: tune suf s b by simp only [tune, List.filter_cons, hx, ↓reduceIte]]
      simpa using e
    · simp only [hx, ↓reduceIte, Bool.false_eq_true]
      have e := ih (pre ++ [x]) acc (by rw [← h]; simp) (by simp; omega)
      rw [show tune (x :: suf) s b = tune suf s b by simp only [tune, List.filter_cons, hx, ↓reduceIte, Bool.false_eq_true]]
      simpa using e
theorem cyPart_ev (l : List S39) (s : Int) (b : Bool) (hl : l.length ≤ 1048576) : Ev (fun k => spec_cyPart.f k l s b) (tune l s b) := by
  unfold spec_cyPart.f
  exact cyPart_l0 l s b hl l [] [] rfl (Nat.le_refl _)
theorem tunePins_l0 : ∀ (k : Nat) (a : Int) (b : Bool) (c d : List S39) (e f : Int), impl_tunePins.l0 k a b c d e f = spec_cyPart.l0 k a b c d e f := by
  intro k
  induction k with
  | zero => intros; rfl
  | succ k ih => intros; simp only [impl_tunePins.l0, spec_cyPart.l0, ih]
theorem tunePins_ev (l : List S39) (s : Int) (b : Bool) (hl : l.length ≤ 1048576) : Ev (fun k => impl_tunePins.f k l s b) (tune l s b) := by
  have e := cyPart_ev l s b hl
  unfold spec_cyPart.f at e
  unfold impl_tunePins.f
  simpa only [tunePins_l0] using e
theorem tune_len (l : List S39) (s : Int) (b : Bool) : (tune l s b).length ≤ l.length := List.length_filter_le _ _

/-! TuneOf, WithoutTune -/
theorem tuneLaw_ev (l : List S39) (a : Int) (hl : l.length ≤ 1048576) : ∃ r1 r2, r1.length ≤ 1048576 ∧ Ev (fun k => spec_TuneOf.f k l a) (r1, r2) ∧ Ev (fun k => impl_TuneOf.f k l a) (r1, r2) := by
  unfold spec_TuneOf.f impl_TuneOf.f
  by_cases hg : goodPins l = true
  · by_cases ha : 0 ≤ a ∧ a ≤ 3
    · refine ⟨tune l a true, true, Nat.le_trans (tune_len ..) hl, ?_, ?_⟩
      · refine Ev.bind (cyGood_ev l hl) ?_
        simp only [hg, ↓reduceIte, cyShift_eq, Option.bind_some, ha, and_self, decide_true]
        exact Ev.bind (cyPart_ev l a true hl) (Ev.now _)
      · refine Ev.bind (ArePins_ev l hl) ?_
        simp only [hg, ↓reduceIte, isShift_eq, Option.bind_some, ha, and_self, decide_true]
        exact Ev.bind (tunePins_ev l a true hl) (Ev.now _)
    · refine ⟨[], false, by simp, ?_, ?_⟩
      · refine Ev.bind (cyGood_ev l hl) ?_
        simp only [hg, ↓reduceIte, cyShift_eq, Option.bind_some, ha, decide_false, Bool.false_eq_true]
        exact Ev.now _
      · refine Ev.bind (ArePins_ev l hl) ?_
        simp only [hg, ↓reduceIte, isShift_eq, Option.bind_some, ha, decide_false, Bool.false_eq_true]
        exact Ev.now _
  · refine ⟨[], false, by simp, ?_, ?_⟩
    · refine Ev.bind (cyGood_ev l hl) ?_
      simp only [hg, Bool.false_eq_true, ↓reduceIte]
      exact Ev.now _
    · refine Ev.bind (ArePins_ev l hl) ?_
      simp only [hg, Bool.false_eq_true, ↓reduceIte]
      exact Ev.now _
end Go.Proofs.Ythgemodkebahoaa.A
