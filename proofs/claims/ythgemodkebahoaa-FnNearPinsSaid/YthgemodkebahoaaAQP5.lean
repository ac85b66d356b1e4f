/- Plain facts on pins: near pins as the program finds them, and the best turn. No condition. -/
import Derived.Test.YthgemodkebahoaaA0
import Derived.Test.YthgemodkebahoaaA4
import Derived.Test.YthgemodkebahoaaA5
import Derived.Test.YthgemodkebahoaaA11
import Derived.Test.YthgemodkebahoaaAQP4
import Derived.Test.YthgemodkebahoaaAQP3
set_option linter.unusedVariables false
set_option linter.unusedSimpArgs false
namespace Go.Proofs.Ythgemodkebahoaa.A
open Go.RowKit Go.Proofs.YthgemodkebahoaaW.PrintWords Go.Proofs.YthgemodkebahoaaW.PrintLast Go.Proofs.YthgemodkebahoaaW.PrintMore

theorem nearPins_l1 (l : List S39) (gap : Int) (hl : l.length ≤ 60) (hp : ∀ x ∈ l, pinB x = true) (a : S39) (ha : pinB a = true) (i : Nat) (hi : i < l.length) (hai : rd_T39 l (i : Int) = a) (r : List (List Int)) :
    ∀ (suf pre : List S39) (acc : List (List Int)), pre ++ suf = l → acc.length + suf.length ≤ 1000000 →
    Ev (fun k => impl_nearPins.l0 k l gap (acc ++ pairs1 gap a i suf pre.length) l.length (wrap64 ((i : Int) + 1))) r →
    Ev (fun k => impl_nearPins.l1 k l gap acc (i : Int) pre.length l.length (i : Int)) r := by
  intro suf
  induction suf with
  | nil =>
    intro pre acc h hacc hr
    have hn : ¬ ((pre.length : Int) < (l.length : Int)) := by rw [← h]; simp
    refine Ev.fuel ?_
    simp only [impl_nearPins.l1, hn, ↓reduceIte]
    simpa [pairs1] using hr
  | cons x suf ih =>
    intro pre acc h hacc hr
    have hlen : l.length = pre.length + (suf.length + 1) := by rw [← h]; simp
    simp only [List.length_cons] at hacc
    have h1 : (pre.length : Int) < (l.length : Int) := by omega
    have h2 : (0 : Int) ≤ (pre.length : Int) := by omega
    have h3 : rd_T39 l (pre.length : Int) = x := by rw [← h]; exact getD_mid _ _ _ _
    have h4 : acc.length < 5864062014805 := by omega
    have h5 : (0 : Int) ≤ (i : Int) := by omega
    have h6 : (i : Int) < (l.length : Int) := by omega
    have hx : pinB x = true := hp x (by rw [← h]; simp)
    have ec : ((pre ++ [x]).length : Int) = ((pre.length + 1 : Nat) : Int) := by simp
    refine Ev.fuel ?_
    simp only [impl_nearPins.l1, h1, h2, h3, h4, h5, h6, hai, ↓reduceIte, wn pre.length (by omega), pinDistance_eq ha hx, Option.bind_some]
    simp only [pairs1] at hr
    by_cases hd : pdist a x < gap
    · simp only [hd, ↓reduceIte] at hr ⊢
      rw [← ec]
      refine ih (pre ++ [x]) (acc ++ [[(i : Int), (pre.length : Int)]]) (by rw [← h]; simp) (by simp; omega) ?_
      rw [ec]
      simpa using hr
    · simp only [hd, ↓reduceIte] at hr ⊢
      rw [← ec]
      refine ih (pre ++ [x]) acc (by rw [← h]; simp) (by omega) ?_
      rw [ec]
      simpa using hr
theorem nearPins_l0 (l : List S39) (gap : Int) (hl : l.length ≤ 60) (hp : ∀ x ∈ l, pinB x = true) : ∀ (suf pre : List S39) (acc : List (List Int)), pre ++ suf = l → acc.length + suf.length * 60 ≤ 100000 →
    Ev (fun k => impl_nearPins.l0 k l gap acc l.length pre.length) (acc ++ pairsOf gap suf pre.length) := by
  intro suf
  induction suf with
  | nil =>
    intro pre acc h hacc
    have hn : ¬ ((pre.length : Int) < (l.length : Int)) := by rw [← h]; simp
    refine Ev.fuel ?_
    simp only [impl_nearPins.l0, hn, ↓reduceIte]
    refine Ev.const ?_
    simp [pairsOf]
  | cons x suf ih =>
    intro pre acc h hacc
    have hlen : l.length = pre.length + (suf.length + 1) := by rw [← h]; simp
    simp only [List.length_cons] at hacc
    have h1 : (pre.length : Int) < (l.length : Int) := by omega
    have h3 : rd_T39 l (pre.length : Int) = x := by rw [← h]; exact getD_mid _ _ _ _
    have hx : pinB x = true := hp x (by rw [← h]; simp)
    have ec : ((pre ++ [x]).length : Int) = ((pre.length + 1 : Nat) : Int) := by simp
    refine Ev.fuel ?_
    simp only [impl_nearPins.l0, h1, ↓reduceIte, wn pre.length (by omega)]
    rw [← ec]
    refine nearPins_l1 l gap hl hp x hx pre.length (by omega) h3 _ suf (pre ++ [x]) acc (by rw [← h]; simp) (by omega) ?_
    have pl := pairs1_len gap x pre.length suf ((pre ++ [x]).length : Int)
    rw [wn pre.length (by omega), ← ec]
    have e := ih (pre ++ [x]) (acc ++ pairs1 gap x pre.length suf ((pre ++ [x]).length : Int)) (by rw [← h]; simp) (by simp only [List.length_append] at pl ⊢; omega)
    rw [show pairsOf gap (x :: suf) pre.length = pairs1 gap x pre.length suf (pre.length + 1) ++ pairsOf gap suf (pre.length + 1) from rfl, ← List.append_assoc]
    rw [show ((pre.length : Int) + 1) = ((pre ++ [x]).length : Int) by simp]
    exact e
theorem nearPins_ev (l : List S39) (gap : Int) (hl : l.length ≤ 60) (hp : ∀ x ∈ l, pinB x = true) : Ev (fun k => impl_nearPins.f k l gap) (pairsOf gap l 0) := by
  unfold impl_nearPins.f
  have := nearPins_l0 l gap hl hp l [] [] rfl (by simp; omega)
  simpa using this
def bestTurn (l : List S39) (s gap : Int) : Nat → Nat → Int × Bool
  | 0, _ => (0, false)
  | d + 1, b => if ((pairsOf gap (sortRes (l.map (turn1 s (b : Int)))).1 0).length : Int) = 0 then ((b : Int), true) else bestTurn l s gap d (b + 1)
theorem specBest_l0 (l : List S39) (s gap : Int) (hl : l.length ≤ 1048576) (hg : gap ≤ 360) : ∀ (d b : Nat), b + d = 360 → Ev (fun k => spec_BestTurn.l0 k l s gap (b : Int)) (bestTurn l s gap d b) := by
  intro d
  induction d with
  | zero =>
    intro b hb
    refine Ev.fuel ?_
    simp only [spec_BestTurn.l0, show ¬ ((b : Int) < 360) from by omega, ↓reduceIte]
    exact Ev.now _
  | succ d ih =>
    intro b hb
    have e := ih (b + 1) (by omega)
    have hgd := sortRes_good (l.map (turn1 s (b : Int)))
    refine Ev.fuel ?_
    simp only [spec_BestTurn.l0, show (b : Int) < 360 from by omega, ↓reduceIte, wn b (by omega)]
    refine Ev.bind (cyTurn_ev l s b hl) ?_
    refine Ev.bind (cyPairs_ev _ gap (goodPins_len hgd) hg (goodPins_all hgd)) ?_
    unfold bestTurn
    by_cases hz : ((pairsOf gap (sortRes (l.map (turn1 s (b : Int)))).1 0).length : Int) = 0
    · simp only [hz, ↓reduceIte]; exact Ev.now _
    · simp only [hz, ↓reduceIte]; exact e
theorem implBest_l0 (l : List S39) (s gap : Int) (hl : l.length ≤ 1048576) (hg : gap ≤ 360) : ∀ (d b : Nat), b + d = 360 → Ev (fun k => impl_BestTurn.l0 k l s gap (b : Int)) (bestTurn l s gap d b) := by
  intro d
  induction d with
  | zero =>
    intro b hb
    refine Ev.fuel ?_
    simp only [impl_BestTurn.l0, show ¬ ((b : Int) < 360) from by omega, ↓reduceIte]
    exact Ev.now _
  | succ d ih =>
    intro b hb
    have e := ih (b + 1) (by omega)
    have hgd := sortRes_good (l.map (turn1 s (b : Int)))
    refine Ev.fuel ?_
    simp only [impl_BestTurn.l0, show (b : Int) < 360 from by omega, ↓reduceIte, wn b (by omega)]
    refine Ev.bind (turnTune_ev l s b hl) ?_
    refine Ev.bind (nearPins_ev _ gap (goodPins_len hgd) (goodPins_all hgd)) ?_
    unfold bestTurn
    by_cases hz : ((pairsOf gap (sortRes (l.map (turn1 s (b : Int)))).1 0).length : Int) = 0
    · simp only [hz, ↓reduceIte]; exact Ev.now _
    · simp only [hz, ↓reduceIte]; exact e
theorem bestTurnLaw_ev (l : List S39) (s gap : Int) (hl : l.length ≤ 1048576) : ∃ r0 r1, Ev (fun k => spec_BestTurn.f k l s gap) (r0, r1) ∧ Ev (fun k => impl_BestTurn.f k l s gap) (r0, r1) := by
  have hgap : ∀ g, spec_cyGap.f g = some (decide (1 ≤ g ∧ g ≤ 180)) := fun g => by unfold spec_cyGap.f; rw [l1In_eq]; rfl
  have hgap' : ∀ g, impl_isGap.f g = some (decide (1 ≤ g ∧ g ≤ 180)) := fun g => by
    unfold impl_isGap.f
    split <;> (first | exact dec_eq (by omega) | exact dec_f (by omega) | exact dec_t (by omega))
  unfold spec_BestTurn.f impl_BestTurn.f
  by_cases hok : goodPins l = true ∧ (0 ≤ s ∧ s ≤ 3) ∧ (1 ≤ gap ∧ gap ≤ 180)
  · obtain ⟨hg, hs, hb⟩ := hok
    refine ⟨(bestTurn l s gap 360 0).1, (bestTurn l s gap 360 0).2, ?_, ?_⟩
    · refine Ev.bind (cyGood_ev l hl) ?_
      simp only [hg, ↓reduceIte, cyShift_eq, hgap, Option.bind_some, hs, hb, and_self, decide_true, Bool.not_true]
      refine Ev.fuel ?_
      simp only [spec_BestTurn.j0, Bool.false_eq_true, ↓reduceIte]
      exact specBest_l0 l s gap hl (by omega) 360 0 rfl
    · refine Ev.bind (ArePins_ev l hl) ?_
      simp only [hg, ↓reduceIte, isShift_eq, hgap', Option.bind_some, hs, hb, and_self, decide_true, Bool.not_true]
      refine Ev.fuel ?_
      simp only [impl_BestTurn.j0, Bool.false_eq_true, ↓reduceIte]
      exact implBest_l0 l s gap hl (by omega) 360 0 rfl
  · refine ⟨0, false, ?_, ?_⟩
    · refine Ev.bind (cyGood_ev l hl) ?_
      by_cases hg : goodPins l = true
      · simp only [hg, ↓reduceIte, cyShift_eq, hgap, Option.bind_some]
        by_cases hs : 0 ≤ s ∧ s ≤ 3
        · have hb : ¬ (1 ≤ gap ∧ gap ≤ 180) := fun hb => hok ⟨hg, hs, hb⟩
          simp only [hs, hb, and_self, decide_true, decide_false, ↓reduceIte, Bool.not_false]
          refine Ev.fuel ?_
          simp only [spec_BestTurn.j0, ↓reduceIte]
          exact Ev.now _
        · simp only [hs, decide_false, Bool.false_eq_true, ↓reduceIte]
          refine Ev.fuel ?_
          simp only [spec_BestTurn.j0, ↓reduceIte]
          exact Ev.now _
      · simp only [hg, Bool.false_eq_true, ↓reduceIte]
        refine Ev.fuel ?_
        simp only [spec_BestTurn.j0, ↓reduceIte]
        exact Ev.now _
    · refine Ev.bind (ArePins_ev l hl) ?_
      by_cases hg : goodPins l = true
      · simp only [hg, ↓reduceIte, isShift_eq, hgap', Option.bind_some]
        by_cases hs : 0 ≤ s ∧ s ≤ 3
        · have hb : ¬ (1 ≤ gap ∧ gap ≤ 180) := fun hb => hok ⟨hg, hs, hb⟩
          simp only [hs, hb, and_self, decide_true, decide_false, ↓reduceIte, Bool.not_false]
          refine Ev.fuel ?_
          simp only [impl_BestTurn.j0, ↓reduceIte]
          exact Ev.now _
        · simp only [hs, decide_false, Bool.false_eq_true, ↓reduceIte]
          refine Ev.fuel ?_
          simp only [impl_BestTurn.j0, ↓reduceIte]
          exact Ev.now _
      · simp only [hg, Bool.false_eq_true, ↓reduceIte]
        refine Ev.fuel ?_
        simp only [impl_BestTurn.j0, ↓reduceIte]
        exact Ev.now _
end Go.Proofs.Ythgemodkebahoaa.A
