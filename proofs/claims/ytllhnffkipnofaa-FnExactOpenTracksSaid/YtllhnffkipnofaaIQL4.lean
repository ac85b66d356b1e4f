/- Plain facts on sheets: the tracks that are open in a step. No condition. -/
import Derived.Test.YtllhnffkipnofaaI0
import Derived.Test.YtllhnffkipnofaaI2
import Derived.Test.YtllhnffkipnofaaI4
import Derived.Test.YtllhnffkipnofaaI6
import Derived.Test.YtllhnffkipnofaaI7
import Derived.Test.YtllhnffkipnofaaI8
import Derived.Test.YtllhnffkipnofaaIQL
import Derived.Test.YtllhnffkipnofaaIQZ
set_option linter.unusedVariables false
set_option linter.unusedSimpArgs false
namespace Go.Proofs.Ytllhnffkipnofaa.I
open Go.RowKit Go.Proofs.YtllhnffkipnofaaW.PrintWords Go.Proofs.YtllhnffkipnofaaW.PrintLast Go.Proofs.YtllhnffkipnofaaW.PrintMore

def openB (s : Int) (x : S34) : Bool := decide (x.f1 ≤ s ∧ s < x.f2)
def openOf (s : Int) (l : List S34) : List Int := (l.filter (openB s)).map (·.f0)
theorem openOf_len (s : Int) (l : List S34) : (openOf s l).length ≤ l.length := by unfold openOf; rw [List.length_map]; exact List.length_filter_le _ _
theorem openOf_snoc (s : Int) (p : List S34) (x : S34) : openOf s (p ++ [x]) = openOf s p ++ (if openB s x = true then [x.f0] else []) := by
  unfold openOf
  rw [List.filter_append, List.map_append]
  by_cases h : openB s x = true <;> simp [h]
theorem putAll_append (a b acc : List Int) : putAll acc (a ++ b) = putAll (putAll acc a) b := by
  induction a generalizing acc with
  | nil => rfl
  | cons x xs ih => exact ih _
theorem isOpen_eq (x : S34) (s : Int) : impl_isOpen.f x.f0 x.f1 x.f2 s = some (openB s x) := by
  unfold impl_isOpen.f openB
  split <;> (first | exact dec_eq (by omega) | exact dec_f (by omega))
theorem open_l0 (l : List S34) (s : Int) (hl : l.length ≤ 60) (hh : ∀ x ∈ l, holeB x = true) : ∀ (suf pre : List S34), pre ++ suf = l →
    Ev (fun k => spec_shOpen.l0 k s (putAll [] (openOf s pre)) l l.length pre.length) (putAll [] (openOf s l)) ∧ Ev (fun k => impl_OpenTracks.l0 k s (openOf s pre) l l.length pre.length) (SI.sortF (openOf s l), true) := by
  intro suf
  induction suf with
  | nil =>
    intro pre h
    have hn : ¬ ((pre.length : Int) < (l.length : Int)) := by rw [← h]; simp
    have e : pre = l := by rw [← h]; simp
    refine ⟨Ev.fuel ?_, Ev.fuel ?_⟩
    · simp only [spec_shOpen.l0, hn, ↓reduceIte]; rw [e]; exact Ev.now _
    · have hz := openOf_len s l
      have es : sort_Ints.f (openOf s l) = some (SI.sortF (openOf s l)) := by unfold sort_Ints.f SI.sortIntsF; rw [if_pos (by omega)]
      simp only [impl_OpenTracks.l0, hn, ↓reduceIte]
      rw [e]
      simp only [es, Option.bind_some]
      exact Ev.now _
  | cons x suf ih =>
    intro pre h
    have hlen : l.length = pre.length + (suf.length + 1) := by rw [← h]; simp
    have h1 : (pre.length : Int) < (l.length : Int) := by omega
    have h2 : (0 : Int) ≤ (pre.length : Int) := by omega
    have h3 : rd_T34 l (pre.length : Int) = x := by rw [← h]; exact getD_mid _ _ _ _
    have hx := (holeB_iff x).1 (hh x (by rw [← h]; simp))
    have ec : ((pre ++ [x]).length : Int) = ((pre.length + 1 : Nat) : Int) := by simp
    have hz := openOf_len s pre
    have hz2 := putAll_len (openOf s pre) []
    simp only [List.length_nil, Nat.zero_add] at hz2
    obtain ⟨e1, e2⟩ := ih (pre ++ [x]) (by rw [← h]; simp)
    rw [ec, openOf_snoc] at e1 e2
    have hsp : spec_l1In.f s x.f1 (wrap64 (x.f2 - 1)) = some (openB s x) := by
      rw [l1In_h, w_id (x := x.f2 - 1) (by omega) (by omega)]
      unfold openB
      exact dec_eq (by omega)
    refine ⟨Ev.fuel ?_, Ev.fuel ?_⟩
    · simp only [spec_shOpen.l0, h1, h2, h3, ↓reduceIte, wn pre.length (by omega), hsp, Option.bind_some]
      by_cases ho : openB s x = true
      · simp only [ho, ↓reduceIte] at e1 ⊢
        refine Ev.bind (zPut_ev _ x.f0 (by omega)) ?_
        rw [putAll_append] at e1
        exact e1
      · simp only [ho, Bool.false_eq_true, ↓reduceIte, List.append_nil] at e1 ⊢
        exact e1
    · simp only [impl_OpenTracks.l0, h1, h2, h3, ↓reduceIte, wn pre.length (by omega), isOpen_eq, Option.bind_some, show (openOf s pre).length < 17592186044416 from by omega]
      by_cases ho : openB s x = true
      · simp only [ho, ↓reduceIte] at e2 ⊢
        exact e2
      · simp only [ho, Bool.false_eq_true, ↓reduceIte, List.append_nil] at e2 ⊢
        exact e2
theorem open_apart (l : List S34) (s : Int) (hg : goodSheet l = true) : (openOf s l).Pairwise (· ≠ ·) := by
  have key : ∀ (l pre : List S34), sheetFrom pre l = true → l.Pairwise (fun y x => touchB x y = false) ∧ ∀ y ∈ pre, ∀ x ∈ l, touchB x y = false := by
    intro l
    induction l with
    | nil => intro pre _; exact ⟨List.Pairwise.nil, fun _ _ _ hx => by cases hx⟩
    | cons x xs ih =>
      intro pre h
      simp only [sheetFrom, Bool.and_eq_true, Bool.not_eq_true', List.any_eq_false] at h
      obtain ⟨_, _, h3, h4⟩ := h
      obtain ⟨q1, q2⟩ := ih _ h4
      refine ⟨List.pairwise_cons.2 ⟨fun z hz => q2 x (by simp) z hz, q1⟩, fun y hy z hz => ?_⟩
      rcases List.mem_cons.1 hz with rfl | hz
      · simpa using h3 y hy
      · exact q2 y (by simp [hy]) z hz
  have hh := goodSheet_all hg
  simp only [goodSheet, Bool.and_eq_true] at hg
  have hp := (key l [] hg.1).1
  unfold openOf
  rw [List.pairwise_map]
  have hf := hp.filter (openB s)
  refine List.Pairwise.imp_of_mem (R := fun y x => touchB x y = false) ?_ hf
  intro y x hy hx ht e
  have oy := (List.mem_filter.1 hy).2
  have ox := (List.mem_filter.1 hx).2
  simp only [openB, decide_eq_true_eq] at ox oy
  simp only [touchB, decide_eq_false_iff_not] at ht
  omega
theorem openTracksLaw_ev (l : List S34) (s : Int) (hl : l.length ≤ 1048576) : ∃ r0 r1, r0.length ≤ 1048576 ∧ Ev (fun k => spec_OpenTracks.f k l s) (r0, r1) ∧ Ev (fun k => impl_OpenTracks.f k l s) (r0, r1) := by
  have hst : spec_shStep.f s = some (decide (0 ≤ s ∧ s ≤ 1999)) := by unfold spec_shStep.f; rw [l1In_h]; rfl
  unfold spec_OpenTracks.f impl_OpenTracks.f
  have jT' : Ev (fun k => impl_OpenTracks.j0 k l s true) ([], false) := by refine Ev.fuel ?_; simp only [impl_OpenTracks.j0, ↓reduceIte]; exact Ev.now _
  by_cases hg : goodSheet l = true
  · by_cases hs : 0 ≤ s ∧ s ≤ 1999
    · obtain ⟨c1, c2⟩ := open_l0 l s (goodSheet_len hg) (goodSheet_all hg) l [] rfl
      rw [sortF_put _ (open_apart l s hg)] at c2
      have hz := openOf_len s l
      have hz2 := putAll_len (openOf s l) []
      simp only [List.length_nil, Nat.zero_add] at hz2
      refine ⟨putAll [] (openOf s l), true, by omega, ?_, ?_⟩
      · refine Ev.bind (shGood_ev l hl) ?_
        simp only [hg, ↓reduceIte, hst, Option.bind_some, hs, and_self, decide_true]
        have c1' : Ev (fun k => spec_shOpen.f k l s) (putAll [] (openOf s l)) := by unfold spec_shOpen.f; exact c1
        exact Ev.bind c1' (Ev.now _)
      · refine Ev.bind (IsSheet_ev l hl) ?_
        simp only [hg, ↓reduceIte, show ¬ s < 0 from by omega, show ¬ s ≥ 2000 from by omega, decide_false]
        refine Ev.fuel ?_
        simp only [impl_OpenTracks.j0, Bool.false_eq_true, ↓reduceIte]
        exact c2
    · refine ⟨[], false, by simp, ?_, ?_⟩
      · refine Ev.bind (shGood_ev l hl) ?_
        simp only [hg, ↓reduceIte, hst, Option.bind_some, hs, decide_false, Bool.false_eq_true]
        exact Ev.now _
      · refine Ev.bind (IsSheet_ev l hl) ?_
        simp only [hg, ↓reduceIte]
        by_cases h1 : s < 0
        · simp only [h1, ↓reduceIte]; exact jT'
        · simp only [h1, ↓reduceIte, show s ≥ 2000 from by omega, decide_true]; exact jT'
  · refine ⟨[], false, by simp, ?_, ?_⟩
    · refine Ev.bind (shGood_ev l hl) ?_
      simp only [hg, Bool.false_eq_true, ↓reduceIte]
      exact Ev.now _
    · refine Ev.bind (IsSheet_ev l hl) ?_
      simp only [hg, Bool.false_eq_true, ↓reduceIte]
      exact jT'
end Go.Proofs.Ytllhnffkipnofaa.I
