/- Plain facts on sheets: the tracks that are used, and the spare ones. No condition. -/
import Derived.Test.YtjidioekeinppaaU0
import Derived.Test.YtjidioekeinppaaU4
import Derived.Test.YtjidioekeinppaaU7
import Derived.Test.YtjidioekeinppaaU9
import Derived.Test.YtjidioekeinppaaU10
import Derived.Test.YtjidioekeinppaaU11
import Derived.Test.YtjidioekeinppaaUQL
import Derived.Test.YtjidioekeinppaaUQZ
import Derived.Test.YtjidioekeinppaaUQI
set_option linter.unusedVariables false
set_option linter.unusedSimpArgs false
namespace Go.Proofs.Ytjidioekeinppaa.U
open Go.RowKit Go.Proofs.YtjidioekeinppaaW.PrintWords Go.Proofs.YtjidioekeinppaaW.PrintLast Go.Proofs.YtjidioekeinppaaW.PrintMore

def tracksOf (l : List S42) : List Int := l.map (·.f0)
theorem putAll_app (a b acc : List Int) : putAll acc (a ++ b) = putAll (putAll acc a) b := by
  induction a generalizing acc with
  | nil => rfl
  | cons x xs ih => exact ih _
theorem tracks_l0 (l : List S42) (hl : l.length ≤ 60) : ∀ (suf pre : List S42), pre ++ suf = l →
    Ev (fun k => spec_laTracks.l0 k (putAll [] (tracksOf pre)) l l.length pre.length) (putAll [] (tracksOf l)) ∧ Ev (fun k => impl_tracksUsed.l0 k (tracksOf pre) l l.length pre.length) (putAll [] (tracksOf l)) := by
  intro suf
  induction suf with
  | nil =>
    intro pre h
    have hn : ¬ ((pre.length : Int) < (l.length : Int)) := by rw [← h]; simp
    have e : pre = l := by rw [← h]; simp
    refine ⟨Ev.fuel ?_, Ev.fuel ?_⟩
    · simp only [spec_laTracks.l0, hn, ↓reduceIte]; rw [e]; exact Ev.now _
    · simp only [impl_tracksUsed.l0, hn, ↓reduceIte]
      rw [e]
      simp only [sortedSet_eq (tracksOf l) (by unfold tracksOf; simp; omega), Option.bind_some]
      exact Ev.now _
  | cons x suf ih =>
    intro pre h
    have hlen : l.length = pre.length + (suf.length + 1) := by rw [← h]; simp
    have h1 : (pre.length : Int) < (l.length : Int) := by omega
    have h2 : (0 : Int) ≤ (pre.length : Int) := by omega
    have h3 : rd_T42 l (pre.length : Int) = x := by rw [← h]; exact getD_mid _ _ _ _
    have ec : ((pre ++ [x]).length : Int) = ((pre.length + 1 : Nat) : Int) := by simp
    have ht : (tracksOf pre).length = pre.length := by simp [tracksOf]
    have hz2 := putAll_len (tracksOf pre) []
    simp only [List.length_nil, Nat.zero_add] at hz2
    obtain ⟨e1, e2⟩ := ih (pre ++ [x]) (by rw [← h]; simp)
    have es : tracksOf (pre ++ [x]) = tracksOf pre ++ [x.f0] := by simp [tracksOf]
    rw [ec, es] at e1 e2
    rw [putAll_app] at e1
    refine ⟨Ev.fuel ?_, Ev.fuel ?_⟩
    · simp only [spec_laTracks.l0, h1, h2, h3, ↓reduceIte, wn pre.length (by omega)]
      exact Ev.bind (zPut_ev _ x.f0 (by omega)) e1
    · simp only [impl_tracksUsed.l0, h1, h2, h3, ↓reduceIte, wn pre.length (by omega), show (tracksOf pre).length < 17592186044416 from by omega]
      exact e2
theorem laTracks_ev (l : List S42) (hl : l.length ≤ 60) : Ev (fun k => spec_laTracks.f k l) (putAll [] (tracksOf l)) := by unfold spec_laTracks.f; exact (tracks_l0 l hl l [] rfl).1
theorem tracksUsed_ev (l : List S42) (hl : l.length ≤ 60) : Ev (fun k => impl_tracksUsed.f k l) (putAll [] (tracksOf l)) := by unfold impl_tracksUsed.f; exact (tracks_l0 l hl l [] rfl).2
theorem used_len (l : List S42) (hl : l.length ≤ 60) : (putAll [] (tracksOf l)).length ≤ 60 := by
  have hz2 := putAll_len (tracksOf l) []
  have ht : (tracksOf l).length = l.length := by simp [tracksOf]
  simp only [List.length_nil, Nat.zero_add] at hz2
  omega
theorem tracksLaw_ev (l : List S42) (hl : l.length ≤ 1048576) : ∃ r0 r1, r0.length ≤ 1048576 ∧ Ev (fun k => spec_TracksUsed.f k l) (r0, r1) ∧ Ev (fun k => impl_TracksUsed.f k l) (r0, r1) := by
  unfold spec_TracksUsed.f impl_TracksUsed.f
  by_cases hg : goodSheet l = true
  · have h60 := goodSheet_len hg
    have hu := used_len l h60
    refine ⟨putAll [] (tracksOf l), true, by omega, ?_, ?_⟩
    · refine Ev.bind (shGood_ev l hl) ?_
      simp only [hg, ↓reduceIte]
      exact Ev.bind (laTracks_ev l h60) (Ev.now _)
    · refine Ev.bind (IsSheet_ev l hl) ?_
      simp only [hg, ↓reduceIte]
      exact Ev.bind (tracksUsed_ev l h60) (Ev.now _)
  · refine ⟨[], false, by simp, ?_, ?_⟩
    · refine Ev.bind (shGood_ev l hl) ?_
      simp only [hg, Bool.false_eq_true, ↓reduceIte]
      exact Ev.now _
    · refine Ev.bind (IsSheet_ev l hl) ?_
      simp only [hg, Bool.false_eq_true, ↓reduceIte]
      exact Ev.now _
theorem hasT_l0 (l : List Int) (v : Int) (hl : l.length ≤ 1048576) : ∀ (suf pre : List Int), pre ++ suf = l → Ev (fun k => spec_l1Has.l0 k v l l.length pre.length) (decide (v ∈ suf)) := by
  intro suf
  induction suf with
  | nil =>
    intro pre h
    have hn : ¬ ((pre.length : Int) < (l.length : Int)) := by rw [← h]; simp
    refine Ev.fuel ?_
    simp only [spec_l1Has.l0, hn, ↓reduceIte]
    exact Ev.const (dec_f (by simp))
  | cons x suf ih =>
    intro pre h
    have hlen : l.length = pre.length + (suf.length + 1) := by rw [← h]; simp
    have h1 : (pre.length : Int) < (l.length : Int) := by omega
    have h2 : (0 : Int) ≤ (pre.length : Int) := by omega
    have h3 : rd l (pre.length : Int) = x := by rw [← h]; exact getD_mid _ _ _ _
    have e : Ev (fun k => spec_l1Has.l0 k v l l.length ((pre.length + 1 : Nat) : Int)) (decide (v ∈ suf)) := by simpa using ih (pre ++ [x]) (by rw [← h]; simp)
    refine Ev.fuel ?_
    simp only [spec_l1Has.l0, h1, h2, h3, ↓reduceIte, wn pre.length (by omega)]
    by_cases hx : x = v
    · simp only [hx, ↓reduceIte]
      exact Ev.const (dec_t (by simp))
    · simp only [hx, ↓reduceIte]
      have : decide (v ∈ x :: suf) = decide (v ∈ suf) := by
        rw [decide_eq_decide, List.mem_cons]
        constructor
        · rintro (h | h)
          · exact absurd h.symm hx
          · exact h
        · exact .inr
      rw [this]; exact e
theorem hasT_ev (l : List Int) (v : Int) (hl : l.length ≤ 1048576) : Ev (fun k => spec_l1Has.f k l v) (decide (v ∈ l)) := by
  unfold spec_l1Has.f
  exact hasT_l0 l v hl l [] rfl
def spareFrom (used : List Int) : Nat → Nat → List Int → List Int
  | 0, _, acc => acc
  | d + 1, i, acc => spareFrom used d (i + 1) (if (i : Int) ∈ used then acc else acc ++ [(i : Int)])
theorem spareFrom_len (used : List Int) : ∀ (d i : Nat) (acc : List Int), (spareFrom used d i acc).length ≤ acc.length + d := by
  intro d
  induction d with
  | zero => intro i acc; simp [spareFrom]
  | succ d ih =>
    intro i acc
    by_cases h : (i : Int) ∈ used
    · have := ih (i + 1) acc
      simp only [spareFrom, h, ↓reduceIte]; omega
    · have := ih (i + 1) (acc ++ [(i : Int)])
      rw [List.length_append, List.length_singleton] at this
      simp only [spareFrom, h, ↓reduceIte]; omega
theorem spare_l0 (used : List Int) (hu : used.length ≤ 1048576) (n : Nat) (hn : n ≤ 1048576) : ∀ (d i : Nat) (acc : List Int), i + d = n → acc.length ≤ i →
    Ev (fun k => spec_SpareTracks.l0 k used acc (n : Int) (i : Int)) (spareFrom used d i acc, true) ∧ Ev (fun k => impl_SpareTracks.l0 k used acc (n : Int) (i : Int)) (spareFrom used d i acc, true) := by
  intro d
  induction d with
  | zero =>
    intro i acc h _
    have hc : ¬ ((i : Int) < (n : Int)) := by omega
    refine ⟨Ev.fuel ?_, Ev.fuel ?_⟩
    · simp only [spec_SpareTracks.l0, hc, ↓reduceIte]; exact Ev.now _
    · simp only [impl_SpareTracks.l0, hc, ↓reduceIte]; exact Ev.now _
  | succ d ih =>
    intro i acc h ha
    have hc : (i : Int) < (n : Int) := by omega
    have h4 : acc.length < 17592186044416 := by omega
    refine ⟨Ev.fuel ?_, Ev.fuel ?_⟩
    · simp only [spec_SpareTracks.l0, hc, h4, ↓reduceIte, wn i (by omega)]
      refine Ev.bind (hasT_ev used i hu) ?_
      unfold spareFrom
      by_cases hm : (i : Int) ∈ used
      · simp only [hm, decide_true, ↓reduceIte]; exact (ih (i + 1) acc (by omega) (by omega)).1
      · simp only [hm, decide_false, Bool.false_eq_true, ↓reduceIte]; exact (ih (i + 1) (acc ++ [(i : Int)]) (by omega) (by simp; omega)).1
    · simp only [impl_SpareTracks.l0, hc, h4, ↓reduceIte, wn i (by omega)]
      refine Ev.bind (Contains_ev used i hu) ?_
      unfold spareFrom
      by_cases hm : (i : Int) ∈ used
      · simp only [hm, decide_true, ↓reduceIte]; exact (ih (i + 1) acc (by omega) (by omega)).2
      · simp only [hm, decide_false, Bool.false_eq_true, ↓reduceIte]; exact (ih (i + 1) (acc ++ [(i : Int)]) (by omega) (by simp; omega)).2
theorem spareLaw_ev (p : List Int) (r : Int) (l : List S42) (hp : p.length ≤ 1048576) (hl : l.length ≤ 1048576) : ∃ r0 r1, r0.length ≤ 1048576 ∧ Ev (fun k => spec_SpareTracks.f k p r l) (r0, r1) ∧ Ev (fun k => impl_SpareTracks.f k p r l) (r0, r1) := by
  unfold spec_SpareTracks.f impl_SpareTracks.f
  have ha : Ev (fun k => spec_laAsked.f k p r l) (goodIns p r && goodSheet l) := by
    unfold spec_laAsked.f
    refine Ev.bind (inGood_ev p r hp) ?_
    by_cases hi : goodIns p r = true
    · simp only [hi, ↓reduceIte, Bool.true_and]; exact Ev.bind (shGood_ev l hl) (Ev.now _)
    · simp only [hi, Bool.false_eq_true, ↓reduceIte, Bool.false_and]; exact Ev.now _
  have jT : Ev (fun k => impl_SpareTracks.j0 k l true p r) ([], false) := by refine Ev.fuel ?_; simp only [impl_SpareTracks.j0, ↓reduceIte]; exact Ev.now _
  by_cases hi : goodIns p r = true
  · by_cases hg : goodSheet l = true
    · have h60 := goodSheet_len hg
      have hu := used_len l h60
      have hs := spareFrom_len (putAll [] (tracksOf l)) p.length 0 []
      simp only [List.length_nil, Nat.zero_add] at hs
      obtain ⟨s1, s2⟩ := spare_l0 (putAll [] (tracksOf l)) (by omega) p.length hp p.length 0 [] (by omega) (by simp)
      refine ⟨spareFrom (putAll [] (tracksOf l)) p.length 0 [], true, by omega, ?_, ?_⟩
      · refine Ev.bind ha ?_
        simp only [hi, hg, Bool.and_self, ↓reduceIte]
        exact Ev.bind (laTracks_ev l h60) s1
      · refine Ev.bind (IsInstrument_ev p r hp) ?_
        simp only [hi, ↓reduceIte]
        refine Ev.bind (IsSheet_ev l hl) ?_
        simp only [hg, Bool.not_true]
        refine Ev.fuel ?_
        simp only [impl_SpareTracks.j0, Bool.false_eq_true, ↓reduceIte]
        exact Ev.bind (tracksUsed_ev l h60) s2
    · refine ⟨[], false, by simp, ?_, ?_⟩
      · refine Ev.bind ha ?_
        simp only [hi, hg, Bool.and_false, Bool.false_eq_true, ↓reduceIte]
        exact Ev.now _
      · refine Ev.bind (IsInstrument_ev p r hp) ?_
        simp only [hi, ↓reduceIte]
        refine Ev.bind (IsSheet_ev l hl) ?_
        simp only [hg, Bool.not_false]
        exact jT
  · refine ⟨[], false, by simp, ?_, ?_⟩
    · refine Ev.bind ha ?_
      simp only [hi, Bool.false_and, Bool.false_eq_true, ↓reduceIte]
      exact Ev.now _
    · refine Ev.bind (IsInstrument_ev p r hp) ?_
      simp only [hi, Bool.false_eq_true, ↓reduceIte]
      exact jT
end Go.Proofs.Ytjidioekeinppaa.U
