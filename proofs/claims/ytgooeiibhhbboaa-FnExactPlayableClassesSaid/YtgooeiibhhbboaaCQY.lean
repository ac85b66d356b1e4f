/- Plain facts on instruments: the classes that can be played. No condition. -/
import Derived.Test.YtgooeiibhhbboaaC0
import Derived.Test.YtgooeiibhhbboaaC3
import Derived.Test.YtgooeiibhhbboaaC5
import Derived.Test.YtgooeiibhhbboaaCQI
import Derived.Test.YtgooeiibhhbboaaCQZ
set_option linter.unusedVariables false
set_option linter.unusedSimpArgs false
namespace Go.Proofs.Ytgooeiibhhbboaa.C
open Go.RowKit Go.Proofs.YtgooeiibhhbboaaW.PrintWords Go.Proofs.YtgooeiibhhbboaaW.PrintLast Go.Proofs.YtgooeiibhhbboaaW.PrintMore

def classOf (l : List Int) : List Int := l.map fun x => Int.tmod x 12
theorem putAll_ap (a b acc : List Int) : putAll acc (a ++ b) = putAll (putAll acc a) b := by
  induction a generalizing acc with
  | nil => rfl
  | cons x xs ih => exact ih _
theorem class_l0 (l : List Int) (hl : l.length ≤ 1048576) : ∀ (suf pre : List Int), pre ++ suf = l →
    Ev (fun k => spec_PlayableClasses.l0 k (putAll [] (classOf pre)) l l.length pre.length) (putAll [] (classOf l), true) ∧ Ev (fun k => impl_PlayableClasses.l0 k (classOf pre) l l.length pre.length) (putAll [] (classOf l), true) := by
  intro suf
  induction suf with
  | nil =>
    intro pre h
    have hn : ¬ ((pre.length : Int) < (l.length : Int)) := by rw [← h]; simp
    have e : pre = l := by rw [← h]; simp
    refine ⟨Ev.fuel ?_, Ev.fuel ?_⟩
    · simp only [spec_PlayableClasses.l0, hn, ↓reduceIte]; rw [e]; exact Ev.now _
    · simp only [impl_PlayableClasses.l0, hn, ↓reduceIte]
      rw [e]
      simp only [sortedSet_eq (classOf l) (by unfold classOf; simpa using hl), Option.bind_some]
      exact Ev.now _
  | cons x suf ih =>
    intro pre h
    have hlen : l.length = pre.length + (suf.length + 1) := by rw [← h]; simp
    have h1 : (pre.length : Int) < (l.length : Int) := by omega
    have h2 : (0 : Int) ≤ (pre.length : Int) := by omega
    have h3 : rd l (pre.length : Int) = x := by rw [← h]; exact getD_mid _ _ _ _
    have ec : ((pre ++ [x]).length : Int) = ((pre.length + 1 : Nat) : Int) := by simp
    have ht : (classOf pre).length = pre.length := by simp [classOf]
    have hz2 := putAll_len (classOf pre) []
    simp only [List.length_nil, Nat.zero_add] at hz2
    obtain ⟨e1, e2⟩ := ih (pre ++ [x]) (by rw [← h]; simp)
    have es : classOf (pre ++ [x]) = classOf pre ++ [Int.tmod x 12] := by simp [classOf]
    rw [ec, es] at e1 e2
    rw [putAll_ap] at e1
    refine ⟨Ev.fuel ?_, Ev.fuel ?_⟩
    · simp only [spec_PlayableClasses.l0, h1, h2, h3, ↓reduceIte, wn pre.length (by omega)]
      exact Ev.bind (zPut_ev _ _ (by omega)) e1
    · simp only [impl_PlayableClasses.l0, h1, h2, h3, ↓reduceIte, wn pre.length (by omega), show (classOf pre).length < 17592186044416 from by omega]
      exact e2
theorem classesLaw_ev (l : List Int) (r : Int) (hl : l.length ≤ 1048576) : ∃ r0 r1, r0.length ≤ 1048576 ∧ Ev (fun k => spec_PlayableClasses.f k l r) (r0, r1) ∧ Ev (fun k => impl_PlayableClasses.f k l r) (r0, r1) := by
  unfold spec_PlayableClasses.f impl_PlayableClasses.f
  by_cases hg : goodIns l r = true
  · obtain ⟨c1, c2⟩ := class_l0 l hl l [] rfl
    have ht : (classOf l).length = l.length := by simp [classOf]
    have hz2 := putAll_len (classOf l) []
    simp only [List.length_nil, Nat.zero_add] at hz2
    refine ⟨putAll [] (classOf l), true, by omega, ?_, ?_⟩
    · refine Ev.bind (inGood_ev l r hl) ?_
      simp only [hg, ↓reduceIte]
      exact c1
    · refine Ev.bind (IsInstrument_ev l r hl) ?_
      simp only [hg, ↓reduceIte]
      exact c2
  · refine ⟨[], false, by simp, ?_, ?_⟩
    · refine Ev.bind (inGood_ev l r hl) ?_
      simp only [hg, Bool.false_eq_true, ↓reduceIte]
      exact Ev.now _
    · refine Ev.bind (IsInstrument_ev l r hl) ?_
      simp only [hg, Bool.false_eq_true, ↓reduceIte]
      exact Ev.now _
end Go.Proofs.Ytgooeiibhhbboaa.C
