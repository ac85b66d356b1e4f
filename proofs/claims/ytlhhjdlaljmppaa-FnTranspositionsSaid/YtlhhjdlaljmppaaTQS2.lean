/- Plain facts on scores: notes put in order, by the program and by the reference. No condition. -/
import Derived.Test.YtlhhjdlaljmppaaT0
import Derived.Test.YtlhhjdlaljmppaaT8
import Derived.Test.YtlhhjdlaljmppaaT9
import Derived.Test.YtlhhjdlaljmppaaTQS
set_option linter.unusedVariables false
set_option linter.unusedSimpArgs false
namespace Go.Proofs.Ytlhhjdlaljmppaa.T
open Go.RowKit Go.Proofs.YtlhhjdlaljmppaaW.PrintWords Go.Proofs.YtlhhjdlaljmppaaW.PrintLast Go.Proofs.YtlhhjdlaljmppaaW.PrintMore

theorem noteLt_ltB (a b : S60) : noteLt a b = SNote.ltB a b := by
  unfold noteLt SNote.ltB
  split
  · rw [decide_eq_decide]; omega
  · rw [decide_eq_decide]; omega
theorem nltB_iff (a b : S60) : SNote.ltB a b = true ↔ (a.f1 < b.f1 ∨ a.f1 = b.f1 ∧ a.f0 < b.f0) := by rw [← noteLt_ltB]; exact noteLt_iff a b
theorem scoreFrom_iff : ∀ (l pre : List S60), scoreFrom meetB pre l = true ↔
    ((∀ x ∈ l, noteB x = true) ∧ SA.Rising SNote.ltB l ∧ (∀ y, pre.getLast? = some y → ∀ x ∈ l, SNote.ltB y x = true) ∧ l.Pairwise (fun y x => meetB x y = false) ∧ ∀ y ∈ pre, ∀ x ∈ l, meetB x y = false) := by
  intro l
  induction l with
  | nil =>
    intro pre
    simp [scoreFrom, SA.Rising]
  | cons x xs ih =>
    intro pre
    have hlast : (pre ++ [x]).getLast? = some x := by simp
    simp only [scoreFrom, Bool.and_eq_true, ih (pre ++ [x]), hlast, Bool.not_eq_true', List.any_eq_false]
    constructor
    · rintro ⟨h1, h2, h3, h4, h5, h6, h7, h8⟩
      have h3' : ∀ y ∈ pre, meetB x y = false := fun y hy => by simpa using h3 y hy
      have h6' : ∀ z ∈ xs, SNote.ltB x z = true := h6 x rfl
      refine ⟨fun z hz => ?_, List.pairwise_cons.2 ⟨h6', h5⟩, fun y hy z hz => ?_, List.pairwise_cons.2 ⟨fun z hz => h8 x (by simp) z hz, h7⟩, fun y hy z hz => ?_⟩
      · rcases List.mem_cons.1 hz with rfl | hz
        · exact h1
        · exact h4 z hz
      · rw [hy] at h2
        have hyx : SNote.ltB y x = true := by rw [← noteLt_ltB]; exact h2
        rcases List.mem_cons.1 hz with rfl | hz
        · exact hyx
        · exact SNote.swo.trans _ _ _ hyx (h6' z hz)
      · rcases List.mem_cons.1 hz with rfl | hz
        · exact h3' y hy
        · exact h8 y (by simp [hy]) z hz
    · rintro ⟨h1, h2, h3, h4, h5⟩
      obtain ⟨q1, q2⟩ := List.pairwise_cons.1 h2
      obtain ⟨q3, q4⟩ := List.pairwise_cons.1 h4
      refine ⟨h1 x List.mem_cons_self, ?_, fun y hy => ?_, fun z hz => h1 z (List.mem_cons_of_mem _ hz), q2, fun y hy z hz => ?_, q4, fun y hy z hz => ?_⟩
      · cases hp : pre.getLast? with
        | none => rfl
        | some y =>
          show noteLt y x = true
          rw [noteLt_ltB]; exact h3 y hp x List.mem_cons_self
      · simpa using h5 y hy x List.mem_cons_self
      · cases hy; exact q1 z hz
      · rcases List.mem_append.1 hy with hy | hy
        · exact h5 y hy z (List.mem_cons_of_mem _ hz)
        · simp only [List.mem_singleton] at hy; subst hy; exact q3 z hz
theorem goodScore_iff (l : List S60) : goodScore l = true ↔ ((∀ x ∈ l, noteB x = true) ∧ SA.Rising SNote.ltB l ∧ l.Pairwise (fun y x => meetB x y = false) ∧ l.length ≤ 30) := by
  unfold goodScore
  rw [Bool.and_eq_true, scoreFrom_iff, decide_eq_true_eq]
  constructor
  · rintro ⟨⟨h1, h2, _, h4, _⟩, h5⟩
    exact ⟨h1, h2, h4, h5⟩
  · rintro ⟨h1, h2, h3, h4⟩
    exact ⟨⟨h1, h2, fun y hy => by simp at hy, h3, fun y hy => by cases hy⟩, h4⟩
def scoreRes (l : List S60) : List S60 × Bool := if goodScore (SA.isort SNote.ltB l) = true then (SA.isort SNote.ltB l, true) else ([], false)
theorem scoreRes_len (l : List S60) : (scoreRes l).1.length ≤ 1048576 := by
  unfold scoreRes
  split
  · rename_i h
    have := ((goodScore_iff _).1 h).2.2.2
    show (SA.isort SNote.ltB l).length ≤ _
    omega
  · simp
theorem scoreRes_good (l : List S60) : goodScore (scoreRes l).1 = true := by
  unfold scoreRes
  split
  · assumption
  · rfl
theorem nisort_rising (l : List S60) (h : SA.Rising SNote.ltB l) : SA.isort SNote.ltB l = l :=
  (SA.asc_rising SNote.ltB SNote.swo _ _ (SA.isort_perm SNote.ltB l).symm h (SA.isort_asc SNote.ltB SNote.swo l)).symm
theorem ntSorted_ev (l : List S60) (hl : l.length ≤ 1048576) : Ev (fun k => spec_ntSorted.f k l) (scoreRes l) := by
  unfold spec_ntSorted.f SNote.sortedF
  simp only [hl, ↓reduceIte]
  refine Ev.bind (ntGood_ev _ (by rw [SA.isort_length]; exact hl)) ?_
  unfold scoreRes
  by_cases hg : goodScore (SA.isort SNote.ltB l) = true
  · simp only [hg, ↓reduceIte]; exact Ev.now _
  · simp only [hg, Bool.false_eq_true, ↓reduceIte]; exact Ev.now _
theorem cloneNotes_eq (l : List S60) (hl : l.length ≤ 1048576) : impl_Note.f l = some l := by
  unfold impl_Note.f SNote.cloneF
  rw [if_pos hl]
end Go.Proofs.Ytlhhjdlaljmppaa.T
