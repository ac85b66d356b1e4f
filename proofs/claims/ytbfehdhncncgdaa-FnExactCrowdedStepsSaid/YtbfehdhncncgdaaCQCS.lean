/- Plain facts on crowded steps: the program's count over an array is the reference's count over a row. No condition. -/
import Derived.Test.YtbfehdhncncgdaaC0
import Derived.Test.YtbfehdhncncgdaaC1
import Derived.Test.YtbfehdhncncgdaaC3
import Derived.Test.YtbfehdhncncgdaaCQL
set_option linter.unusedVariables false
set_option linter.unusedSimpArgs false
namespace Go.Proofs.Ytbfehdhncncgdaa.C
open Go.RowKit Go.Proofs.YtbfehdhncncgdaaW.PrintWords Go.Proofs.YtbfehdhncncgdaaW.PrintLast Go.Proofs.YtbfehdhncncgdaaW.PrintMore

theorem crowd_eq (a : Int) : ∀ k, (∀ (x6 : List Int) (b : List S64) (c d : Int), x6.length = 2000 → impl_CrowdedSteps.l0 k a x6 b c d = spec_CrowdedSteps.l0 k a x6 b c d) ∧
    (∀ (x6 : List Int) (n : Int) (b : List S64) (c d y0 y1 y2 : Int), x6.length = 2000 → impl_CrowdedSteps.l1 k a x6 n b c d y0 y1 y2 = spec_CrowdedSteps.l1 k a x6 n b c d y0 y1 y2) ∧
    (∀ (n : Int) (x6 : List Int) (i : Int), x6.length = 2000 → impl_CrowdedSteps.l2 k a n x6 i = spec_CrowdedSteps.l2 k a n x6 2000 i) := by
  intro k
  induction k with
  | zero => exact ⟨fun _ _ _ _ _ => rfl, fun _ _ _ _ _ _ _ _ _ => rfl, fun _ _ _ _ => rfl⟩
  | succ k ih =>
    obtain ⟨i0, i1, i2⟩ := ih
    refine ⟨fun x6 b c d h => ?_, fun x6 n b c d y0 y1 y2 h => ?_, fun n x6 i h => ?_⟩
    · simp only [impl_CrowdedSteps.l0, spec_CrowdedSteps.l0, i1 _ _ _ _ _ _ _ _ h, i2 _ _ _ h, h, ↓reduceIte]
      rfl
    · simp only [impl_CrowdedSteps.l1, spec_CrowdedSteps.l1, i0 _ _ _ _ h, i1 (x6.set n.toNat (wrap64 (rd x6 n + 1))) _ _ _ _ _ _ _ (by rw [List.length_set]; exact h), h]
      rfl
    · simp only [impl_CrowdedSteps.l2, spec_CrowdedSteps.l2, i2 _ _ _ h, h, ↓reduceIte]
      by_cases h1 : i < 2000
      · have h2 : i < ((2000 : Nat) : Int) := h1
        simp only [h1, h2, ↓reduceIte]
      · simp only [h1, ↓reduceIte]
theorem crowd_l2 (a : Int) (x6 : List Int) (h : x6.length = 2000) : ∀ (m : Nat) (n i : Int), 0 ≤ i → (i : Int) + m = 2000 → ∃ r, Ev (fun k => spec_CrowdedSteps.l2 k a n x6 2000 i) (r, true) := by
  intro m
  induction m with
  | zero =>
    intro n i h0 h1
    refine ⟨n, Ev.fuel ?_⟩
    simp only [spec_CrowdedSteps.l2, show ¬ i < 2000 from by omega, ↓reduceIte]
    exact Ev.now _
  | succ m ih =>
    intro n i h0 h1
    have hw : wrap64 (i + 1) = i + 1 := w_id (by omega) (by omega)
    by_cases hr : rd x6 i > a
    · obtain ⟨r, hr'⟩ := ih (wrap64 (n + 1)) (i + 1) (by omega) (by omega)
      refine ⟨r, Ev.fuel ?_⟩
      simp only [spec_CrowdedSteps.l2, show i < 2000 from by omega, show i < (x6.length : Int) from by omega, h0, hr, hw, ↓reduceIte]
      exact hr'
    · obtain ⟨r, hr'⟩ := ih n (i + 1) (by omega) (by omega)
      refine ⟨r, Ev.fuel ?_⟩
      simp only [spec_CrowdedSteps.l2, show i < 2000 from by omega, show i < (x6.length : Int) from by omega, h0, hr, hw, ↓reduceIte]
      exact hr'
theorem crowd_l1 (a : Int) (b : List S64) (c d y0 y1 y2 : Int) (hy : y2 ≤ 2000) (hk : ∀ x6 : List Int, x6.length = 2000 → ∃ r, Ev (fun k => spec_CrowdedSteps.l0 k a x6 b c (wrap64 (d + 1))) (r, true)) :
    ∀ (m : Nat) (n : Int) (x6 : List Int), 0 ≤ n → (n : Int) + m = y2 → x6.length = 2000 → ∃ r, Ev (fun k => spec_CrowdedSteps.l1 k a x6 n b c d y0 y1 y2) (r, true) := by
  intro m
  induction m with
  | zero =>
    intro n x6 h0 h1 h
    obtain ⟨r, hr⟩ := hk x6 h
    refine ⟨r, Ev.fuel ?_⟩
    simp only [spec_CrowdedSteps.l1, show ¬ n < y2 from by omega, ↓reduceIte]
    exact hr
  | succ m ih =>
    intro n x6 h0 h1 h
    have hw : wrap64 (n + 1) = n + 1 := w_id (by omega) (by omega)
    obtain ⟨r, hr⟩ := ih (n + 1) (x6.set n.toNat (wrap64 (rd x6 n + 1))) (by omega) (by omega) (by rw [List.length_set]; exact h)
    refine ⟨r, Ev.fuel ?_⟩
    simp only [spec_CrowdedSteps.l1, show n < y2 from by omega, show n < (x6.length : Int) from by omega, h0, hw, ↓reduceIte]
    exact hr
theorem crowd_l0 (a : Int) (l : List S64) (hl : l.length ≤ 60) (hn : ∀ x ∈ l, holeB x = true) : ∀ (suf pre : List S64) (x6 : List Int), pre ++ suf = l → x6.length = 2000 →
    ∃ r, Ev (fun k => spec_CrowdedSteps.l0 k a x6 l l.length pre.length) (r, true) := by
  intro suf
  induction suf with
  | nil =>
    intro pre x6 h h2
    have hn : ¬ ((pre.length : Int) < (l.length : Int)) := by rw [← h]; simp
    obtain ⟨r, hr⟩ := crowd_l2 a x6 h2 2000 0 0 (by omega) (by omega)
    refine ⟨r, Ev.fuel ?_⟩
    simp only [spec_CrowdedSteps.l0, hn, ↓reduceIte, h2]
    exact hr
  | cons x suf ih =>
    intro pre x6 h h2
    have hlen : l.length = pre.length + (suf.length + 1) := by rw [← h]; simp
    have c1 : (pre.length : Int) < (l.length : Int) := by omega
    have c2 : (0 : Int) ≤ (pre.length : Int) := by omega
    have c3 : rd_T64 l (pre.length : Int) = x := by rw [← h]; exact getD_mid _ _ _ _
    have hx := (holeB_iff x).1 (hn x (by rw [← h]; simp))
    have hk : ∀ x6 : List Int, x6.length = 2000 → ∃ r, Ev (fun k => spec_CrowdedSteps.l0 k a x6 l l.length (wrap64 ((pre.length : Int) + 1))) (r, true) := by
      intro x6 h2
      rw [wn pre.length (by omega)]
      have e := ih (pre ++ [x]) x6 (by rw [← h]; simp) h2
      simpa using e
    obtain ⟨r, hr⟩ := crowd_l1 a l l.length pre.length x.f0 x.f1 x.f2 (by omega) hk (x.f2 - x.f1).toNat x.f1 x6 (by omega) (by omega) h2
    refine ⟨r, Ev.fuel ?_⟩
    simp only [spec_CrowdedSteps.l0, c1, c2, c3, ↓reduceIte]
    exact hr
theorem crowdedLaw_ev (l : List S64) (a : Int) (hl : l.length ≤ 1048576) : ∃ r0 r1, Ev (fun k => spec_CrowdedSteps.f k l a) (r0, r1) ∧ Ev (fun k => impl_CrowdedSteps.f k l a) (r0, r1) := by
  unfold spec_CrowdedSteps.f impl_CrowdedSteps.f
  have jT : Ev (fun k => spec_CrowdedSteps.j0 k l a true) (0, false) := by refine Ev.fuel ?_; simp only [spec_CrowdedSteps.j0, ↓reduceIte]; exact Ev.now _
  by_cases hg : goodSheet l = true
  · by_cases hs : 0 ≤ a ∧ a ≤ 20
    · obtain ⟨r, hr⟩ := crowd_l0 a l (goodSheet_len hg) (goodSheet_all hg) l [] (List.replicate 2000 0) rfl (List.length_replicate ..)
      refine ⟨r, true, ?_, ?_⟩
      · refine Ev.bind (shGood_ev l hl) ?_
        simp only [hg, ↓reduceIte, l1In_h, Option.bind_some, hs, and_self, decide_true, Bool.not_true]
        refine Ev.fuel ?_
        simp only [spec_CrowdedSteps.j0, Bool.false_eq_true, show (2000 : Int) ≤ 35184372088832 from by omega, show (2000 : Nat) ≤ 35184372088832 from by omega, ↓reduceIte]
        exact hr
      · refine Ev.bind (IsSheet_ev l hl) ?_
        simp only [hg, ↓reduceIte, show ¬ a < 0 from by omega, show ¬ a > 20 from by omega]
        simp only [(crowd_eq a _).1 (List.replicate 2000 0) l l.length 0 (List.length_replicate ..)]
        exact hr
    · refine ⟨0, false, ?_, ?_⟩
      · refine Ev.bind (shGood_ev l hl) ?_
        simp only [hg, ↓reduceIte, l1In_h, Option.bind_some, hs, decide_false, Bool.not_false]
        exact jT
      · refine Ev.bind (IsSheet_ev l hl) ?_
        simp only [hg, ↓reduceIte]
        by_cases h1 : a < 0
        · simp only [h1, ↓reduceIte]; exact Ev.now _
        · simp only [h1, ↓reduceIte, show a > 20 from by omega]; exact Ev.now _
  · refine ⟨0, false, ?_, ?_⟩
    · refine Ev.bind (shGood_ev l hl) ?_
      simp only [hg, Bool.false_eq_true, ↓reduceIte]
      exact jT
    · refine Ev.bind (IsSheet_ev l hl) ?_
      simp only [hg, Bool.false_eq_true, ↓reduceIte]
      exact Ev.now _
end Go.Proofs.Ytbfehdhncncgdaa.C
