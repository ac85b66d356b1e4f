/- Plain facts on a sheet read back. No condition. -/
import Derived.Test.YtjidioekeinppaaB0
import Derived.Test.YtjidioekeinppaaB4
import Derived.Test.YtjidioekeinppaaB11
import Derived.Test.YtjidioekeinppaaB15
import Derived.Test.YtjidioekeinppaaB17
import Derived.Test.YtjidioekeinppaaBQO
import Derived.Test.YtjidioekeinppaaBQS2
set_option linter.unusedVariables false
set_option linter.unusedSimpArgs false
namespace Go.Proofs.Ytjidioekeinppaa.B
open Go.RowKit Go.Proofs.YtjidioekeinppaaW.PrintWords Go.Proofs.YtjidioekeinppaaW.PrintLast Go.Proofs.YtjidioekeinppaaW.PrintMore

theorem scoreOf_ev (o : List S37) (h : o.length ≤ 1048576) : Ev (fun k => impl_scoreOf.f k (SNote.srt o)) (scoreRes o) := by
  unfold impl_scoreOf.f
  refine Ev.bind (IsScore_ev _ (by rw [srtN_len]; exact h)) ?_
  rw [scoreRes_srt]
  by_cases hg : goodScore (SNote.srt o) = true
  · simp only [hg, ↓reduceIte]; exact Ev.now _
  · simp only [hg, Bool.false_eq_true, ↓reduceIte]; exact Ev.now _
theorem read_l0 (l : List Int) (r : Int) (s : List S42) (hl : l.length ≤ 1048576) (hs : s.length ≤ 60) (hn : ∀ x ∈ s, holeB x = true) : ∀ (suf pre : List S42) (o : List S37), pre ++ suf = s → o.length ≤ pre.length →
    ∃ r0 r1, r0.length ≤ 1048576 ∧ Ev (fun k => spec_laNotes.l0 k o s s.length pre.length l r) (r0, r1) ∧ Ev (fun k => impl_readBack.l0 k o s s.length pre.length l r) (r0, r1) := by
  intro suf
  induction suf with
  | nil =>
    intro pre o h ho
    have hn : ¬ ((pre.length : Int) < (s.length : Int)) := by rw [← h]; simp
    have he : s.length = pre.length := by rw [← h]; simp
    have hp : pre.length ≤ 60 := by omega
    refine ⟨(scoreRes o).1, (scoreRes o).2, scoreRes_len o, Ev.fuel ?_, Ev.fuel ?_⟩
    · simp only [spec_laNotes.l0, hn, ↓reduceIte]
      exact Ev.bind (ntSorted_ev o (by omega)) (Ev.now _)
    · simp only [impl_readBack.l0, hn, ↓reduceIte, sortedNotes_eq o (by omega), Option.bind_some]
      exact Ev.bind (scoreOf_ev o (by omega)) (Ev.now _)
  | cons x suf ih =>
    intro pre o h ho
    have hlen : s.length = pre.length + (suf.length + 1) := by rw [← h]; simp
    have c1 : (pre.length : Int) < (s.length : Int) := by omega
    have c2 : (0 : Int) ≤ (pre.length : Int) := by omega
    have c3 : rd_T42 s (pre.length : Int) = x := by rw [← h]; exact getD_mid _ _ _ _
    have hx := (holeB_iff x).1 (hn x (by rw [← h]; simp))
    have q1 : o.length < 5864062014805 := by omega
    obtain ⟨t, et⟩ := laNote_ev l r x.f0 x.f1 x.f2 hx.1
    by_cases ht : t.2.2.2 = true
    · obtain ⟨r0, r1, b0, e1, e2⟩ := ih (pre ++ [x]) (o ++ [⟨t.1, t.2.1, t.2.2.1⟩]) (by rw [← h]; simp) (by simp; omega)
      have ec : ((pre ++ [x]).length : Int) = ((pre.length + 1 : Nat) : Int) := by simp
      rw [ec] at e1 e2
      refine ⟨r0, r1, b0, Ev.fuel ?_, Ev.fuel ?_⟩
      · simp only [spec_laNotes.l0, c1, c2, c3, q1, ↓reduceIte, wn pre.length (by omega)]
        refine Ev.bind et ?_
        simp only [ht, ↓reduceIte]
        exact e1
      · simp only [impl_readBack.l0, c1, c2, c3, q1, ↓reduceIte, wn pre.length (by omega), laNote_same]
        refine Ev.bind et ?_
        simp only [ht, ↓reduceIte]
        exact e2
    · refine ⟨[], false, by simp, Ev.fuel ?_, Ev.fuel ?_⟩
      · simp only [spec_laNotes.l0, c1, c2, c3, q1, ↓reduceIte, wn pre.length (by omega)]
        refine Ev.bind et ?_
        simp only [ht, Bool.false_eq_true, ↓reduceIte]; exact Ev.now _
      · simp only [impl_readBack.l0, c1, c2, c3, q1, ↓reduceIte, wn pre.length (by omega), laNote_same]
        refine Ev.bind et ?_
        simp only [ht, Bool.false_eq_true, ↓reduceIte]; exact Ev.now _
theorem laAsked_ev (l : List Int) (r : Int) (s : List S42) (hl : l.length ≤ 1048576) (hs : s.length ≤ 1048576) : Ev (fun k => spec_laAsked.f k l r s) (goodIns l r && goodSheet s) := by
  unfold spec_laAsked.f
  refine Ev.bind (inGood_ev l r hl) ?_
  by_cases h : goodIns l r = true
  · simp only [h, ↓reduceIte, Bool.true_and]
    exact Ev.bind (shGood_ev s hs) (Ev.now _)
  · simp only [Bool.eq_false_iff.mpr h, Bool.false_eq_true, ↓reduceIte, Bool.false_and]; exact Ev.now _
theorem readLaw_ev (l : List Int) (r : Int) (s : List S42) (hl : l.length ≤ 1048576) (hs : s.length ≤ 1048576) : ∃ r0 r1, r0.length ≤ 1048576 ∧ Ev (fun k => spec_ReadBack.f k l r s) (r0, r1) ∧ Ev (fun k => impl_ReadBack.f k l r s) (r0, r1) := by
  unfold spec_ReadBack.f impl_ReadBack.f spec_laNotes.f impl_readBack.f
  have ea := laAsked_ev l r s hl hs
  have e1 := IsInstrument_ev l r hl
  have e2 := IsSheet_ev s hs
  by_cases h1 : goodIns l r = true
  · by_cases h2 : goodSheet s = true
    · simp only [h1, h2, Bool.true_and] at ea e1 e2
      obtain ⟨r0, r1, b0, c1, c2⟩ := read_l0 l r s hl (goodSheet_len h2) (goodSheet_all h2) s [] [] rfl (by simp)
      refine ⟨r0, r1, b0, ?_, ?_⟩
      · refine Ev.bind ea ?_
        simp only [↓reduceIte]
        exact Ev.bind c1 (Ev.now _)
      · refine Ev.bind e1 ?_
        simp only [↓reduceIte]
        refine Ev.bind e2 ?_
        simp only [↓reduceIte]
        exact Ev.bind c2 (Ev.now _)
    · simp only [h1, Bool.eq_false_iff.mpr h2, Bool.true_and] at ea e1 e2
      refine ⟨[], false, by simp, ?_, ?_⟩
      · refine Ev.bind ea ?_
        simp only [Bool.false_eq_true, ↓reduceIte]; exact Ev.now _
      · refine Ev.bind e1 ?_
        simp only [↓reduceIte]
        refine Ev.bind e2 ?_
        simp only [Bool.false_eq_true, ↓reduceIte]; exact Ev.now _
  · simp only [Bool.eq_false_iff.mpr h1, Bool.false_and] at ea e1
    refine ⟨[], false, by simp, ?_, ?_⟩
    · refine Ev.bind ea ?_
      simp only [Bool.false_eq_true, ↓reduceIte]; exact Ev.now _
    · refine Ev.bind e1 ?_
      simp only [Bool.false_eq_true, ↓reduceIte]; exact Ev.now _
end Go.Proofs.Ytjidioekeinppaa.B
