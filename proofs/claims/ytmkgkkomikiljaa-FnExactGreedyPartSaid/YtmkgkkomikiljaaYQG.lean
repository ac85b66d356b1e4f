/- Plain facts on a greedy part of a score. No condition. -/
import Derived.Test.YtmkgkkomikiljaaY0
import Derived.Test.YtmkgkkomikiljaaY7
import Derived.Test.YtmkgkkomikiljaaY8
import Derived.Test.YtmkgkkomikiljaaY14
import Derived.Test.YtmkgkkomikiljaaY15
import Derived.Test.YtmkgkkomikiljaaYQK
set_option linter.unusedVariables false
set_option linter.unusedSimpArgs false
namespace Go.Proofs.Ytmkgkkomikiljaa.Y
open Go.RowKit Go.Proofs.YtmkgkkomikiljaaW.PrintWords Go.Proofs.YtmkgkkomikiljaaW.PrintLast Go.Proofs.YtmkgkkomikiljaaW.PrintMore

theorem IncFrom.up {hi h2 b : Int} {l : List Int} (h : IncFrom hi b l) (hc : hi ≤ h2) : IncFrom h2 b l := by
  induction h with
  | nil b => exact .nil _
  | cons h0 h1 _ ih => exact .cons h0 (by omega) ih
theorem IncFrom.snoc {i b : Int} {l : List Int} (h : IncFrom i b l) : b ≤ i → IncFrom (i + 1) b (l ++ [i]) := by
  induction h with
  | nil b => intro hb; exact .cons hb (by omega) (.nil _)
  | cons h0 h1 _ ih => intro hb; exact .cons h0 (by omega) (ih (by omega))
theorem own_eq (K : List Int) (h : K.length ≤ 1048576) : spec_l1Own.f K = some K := by
  unfold spec_l1Own.f
  simp only [Option.bind_some, List.nil_append, List.length_nil, Nat.zero_add]
  rw [if_pos (by omega)]
theorem cloneI_eq (K : List Int) (h : K.length ≤ 1048576) : slices_Clone_int_int.f K = some K := by
  unfold slices_Clone_int_int.f SI.cloneF
  rw [if_pos h]
/-- Note by note, kept where the part stays playable. -/
def greedyFrom (l : List Int) (r : Int) (s : List S67) (v : Int) : Nat → Int → List Int → List Int
  | 0, _, K => K
  | n + 1, i, K => greedyFrom l r s v n (i + 1) (if playableB l r s v (K ++ [i]) then K ++ [i] else K)
theorem greedy_l0 (l : List Int) (r : Int) (s : List S67) (v : Int) (hl : l.length ≤ 1048576) (hs : s.length ≤ 1000) (hn : ∀ x ∈ s, noteB x = true) (ha : Apart s) : ∀ (n : Nat) (i : Nat) (K : List Int), i + n = s.length → IncFrom i 0 K →
    (greedyFrom l r s v n i K).length ≤ 1048576 ∧ Ev (fun k => spec_GreedyPart.l0 k s v K s.length i l r) (greedyFrom l r s v n i K, true) ∧ Ev (fun k => impl_GreedyPart.l0 k s v K s.length i l r) (greedyFrom l r s v n i K, true) := by
  intro n
  induction n with
  | zero =>
    intro i K h hK
    have hk := hK.len (by omega)
    have h1 : ¬ ((i : Int) < (s.length : Int)) := by omega
    refine ⟨by simp only [greedyFrom]; omega, Ev.fuel ?_, Ev.fuel ?_⟩
    · simp only [spec_GreedyPart.l0, h1, ↓reduceIte]; exact Ev.now _
    · simp only [impl_GreedyPart.l0, h1, ↓reduceIte]; exact Ev.now _
  | succ n ih =>
    intro i K h hK
    have hk := hK.len (by omega)
    have h1 : (i : Int) < (s.length : Int) := by omega
    have h2 : (0 : Int) ≤ (i : Int) := by omega
    have hP : IncFrom ((i + 1 : Nat) : Int) 0 (K ++ [(i : Int)]) := by
      have := hK.snoc (by omega)
      rwa [show ((i + 1 : Nat) : Int) = (i : Int) + 1 by omega]
    have hS : IncFrom s.length 0 (K ++ [(i : Int)]) := hP.up (by omega)
    have e1 := thIs_ev l r s v (K ++ [(i : Int)]) hl hs hn ha hS
    have e2 := isPlayable_ev l r s v (K ++ [(i : Int)]) hl hs hn hS
    have hN : IncFrom ((i + 1 : Nat) : Int) 0 (if playableB l r s v (K ++ [(i : Int)]) then K ++ [(i : Int)] else K) := by
      split
      · exact hP
      · exact hK.up (by omega)
    obtain ⟨c0, c1, c2⟩ := ih (i + 1) _ (by omega) hN
    have eg : greedyFrom l r s v (n + 1) i K = greedyFrom l r s v n ((i + 1 : Nat) : Int) (if playableB l r s v (K ++ [(i : Int)]) then K ++ [(i : Int)] else K) := by
      rw [show ((i + 1 : Nat) : Int) = (i : Int) + 1 by omega]; rfl
    rw [eg]
    have hk4 : K.length < 17592186044416 := by omega
    have o1 := own_eq K (by omega)
    have o2 := cloneI_eq K (by omega)
    refine ⟨c0, Ev.fuel ?_, Ev.fuel ?_⟩
    · simp only [spec_GreedyPart.l0, h1, h2, hk4, ↓reduceIte, wn i (by omega), o1, Option.bind_some]
      refine Ev.bind e1 ?_
      by_cases hp : playableB l r s v (K ++ [(i : Int)]) = true
      · simp only [hp, ↓reduceIte] at c1 ⊢; exact c1
      · simp only [hp, Bool.false_eq_true, ↓reduceIte] at c1 ⊢; exact c1
    · simp only [impl_GreedyPart.l0, h1, h2, hk4, ↓reduceIte, wn i (by omega), o2, Option.bind_some]
      refine Ev.bind e2 ?_
      by_cases hp : playableB l r s v (K ++ [(i : Int)]) = true
      · simp only [hp, ↓reduceIte] at c2 ⊢; exact c2
      · simp only [hp, Bool.false_eq_true, ↓reduceIte] at c2 ⊢; exact c2
theorem greedyLaw_ev (l : List Int) (r : Int) (s : List S67) (v : Int) (hl : l.length ≤ 1048576) (hs : s.length ≤ 1048576) : ∃ r0 r1, r0.length ≤ 1048576 ∧ Ev (fun k => spec_GreedyPart.f k l r s v) (r0, r1) ∧ Ev (fun k => impl_GreedyPart.f k l r s v) (r0, r1) := by
  unfold spec_GreedyPart.f impl_GreedyPart.f
  have ea := thAsked_ev l r s v hl hs
  have e1 := IsInstrument_ev l r hl
  have e2 := isThin_ev s hs
  have jT : Ev (fun k => impl_GreedyPart.j0 k s v true l r) ([], false) := by
    refine Ev.fuel ?_
    simp only [impl_GreedyPart.j0, ↓reduceIte]; exact Ev.now _
  by_cases h1 : goodIns l r = true
  · by_cases h2 : goodThin s = true
    · by_cases h3 : 1 ≤ v ∧ v ≤ 20
      · simp only [h1, h2, h3, and_self, decide_true, Bool.true_and] at ea e1 e2
        have h' := (goodThin_iff s).1 h2
        obtain ⟨c0, c1, c2⟩ := greedy_l0 l r s v hl (by omega) (goodScore_all h'.1) (goodScore_apart h'.1) s.length 0 [] (by omega) (.nil _)
        refine ⟨_, true, c0, ?_, ?_⟩
        · refine Ev.bind ea ?_
          simp only [↓reduceIte]
          exact c1
        · refine Ev.bind e1 ?_
          simp only [↓reduceIte]
          refine Ev.bind e2 ?_
          simp only [↓reduceIte, isVoices_eq, h3, and_self, decide_true, Option.bind_some, Bool.not_true]
          refine Ev.fuel ?_
          simp only [impl_GreedyPart.j0, Bool.false_eq_true, ↓reduceIte]
          exact c2
      · simp only [h1, h2, h3, decide_false, Bool.true_and] at ea e1 e2
        refine ⟨[], false, by simp, ?_, ?_⟩
        · refine Ev.bind ea ?_
          simp only [Bool.false_eq_true, ↓reduceIte]; exact Ev.now _
        · refine Ev.bind e1 ?_
          simp only [↓reduceIte]
          refine Ev.bind e2 ?_
          simp only [↓reduceIte, isVoices_eq, h3, decide_false, Option.bind_some, Bool.not_false]
          exact jT
    · simp only [h1, Bool.eq_false_iff.mpr h2, Bool.true_and, Bool.false_and] at ea e1 e2
      refine ⟨[], false, by simp, ?_, ?_⟩
      · refine Ev.bind ea ?_
        simp only [Bool.false_eq_true, ↓reduceIte]; exact Ev.now _
      · refine Ev.bind e1 ?_
        simp only [↓reduceIte]
        refine Ev.bind e2 ?_
        simp only [Bool.false_eq_true, ↓reduceIte]; exact jT
  · simp only [Bool.eq_false_iff.mpr h1, Bool.false_and] at ea e1
    refine ⟨[], false, by simp, ?_, ?_⟩
    · refine Ev.bind ea ?_
      simp only [Bool.false_eq_true, ↓reduceIte]; exact Ev.now _
    · refine Ev.bind e1 ?_
      simp only [Bool.false_eq_true, ↓reduceIte]; exact jT
end Go.Proofs.Ytmkgkkomikiljaa.Y
