/- Plain facts on sheets: holes put in order, by the program and by the reference. No condition. -/
import Derived.Test.YtbfehdhncncgdaaF0
import Derived.Test.YtbfehdhncncgdaaF7
import Derived.Test.YtbfehdhncncgdaaF8
import Derived.Test.YtbfehdhncncgdaaF9
import Derived.Test.YtbfehdhncncgdaaFQL
set_option linter.unusedVariables false
set_option linter.unusedSimpArgs false
namespace Go.Proofs.Ytbfehdhncncgdaa.F
open Go.RowKit Go.Proofs.YtbfehdhncncgdaaW.PrintWords Go.Proofs.YtbfehdhncncgdaaW.PrintLast Go.Proofs.YtbfehdhncncgdaaW.PrintMore

theorem holeLt_ltB (a b : S64) : holeLt a b = SHole.ltB a b := by
  unfold holeLt SHole.ltB
  split
  · rw [decide_eq_decide]; omega
  · rw [decide_eq_decide]; omega
theorem ltB_iff (a b : S64) : SHole.ltB a b = true ↔ (a.f1 < b.f1 ∨ a.f1 = b.f1 ∧ a.f0 < b.f0) := by rw [← holeLt_ltB]; exact holeLt_iff a b
theorem ltB_false (a b : S64) : SHole.ltB a b = false ↔ ¬ (a.f1 < b.f1 ∨ a.f1 = b.f1 ∧ a.f0 < b.f0) := by
  rw [← ltB_iff]; simp
theorem touchB_false (x y : S64) : touchB x y = false ↔ ¬ (x.f0 = y.f0 ∧ y.f2 ≥ x.f1) := by unfold touchB; simp
theorem sheetFrom_iff : ∀ (l pre : List S64), sheetFrom pre l = true ↔
    ((∀ x ∈ l, holeB x = true) ∧ SA.Rising SHole.ltB l ∧ (∀ y, pre.getLast? = some y → ∀ x ∈ l, SHole.ltB y x = true) ∧ l.Pairwise (fun y x => touchB x y = false) ∧ ∀ y ∈ pre, ∀ x ∈ l, touchB x y = false) := by
  intro l
  induction l with
  | nil =>
    intro pre
    simp [sheetFrom, SA.Rising]
  | cons x xs ih =>
    intro pre
    have hlast : (pre ++ [x]).getLast? = some x := by simp
    simp only [sheetFrom, Bool.and_eq_true, ih (pre ++ [x]), hlast, Bool.not_eq_true', List.any_eq_false]
    constructor
    · rintro ⟨h1, h2, h3, h4, h5, h6, h7, h8⟩
      have h3' : ∀ y ∈ pre, touchB x y = false := fun y hy => by simpa using h3 y hy
      have h6' : ∀ z ∈ xs, SHole.ltB x z = true := h6 x rfl
      refine ⟨fun z hz => ?_, List.pairwise_cons.2 ⟨h6', h5⟩, fun y hy z hz => ?_, List.pairwise_cons.2 ⟨fun z hz => h8 x (by simp) z hz, h7⟩, fun y hy z hz => ?_⟩
      · rcases List.mem_cons.1 hz with rfl | hz
        · exact h1
        · exact h4 z hz
      · rw [hy] at h2
        have hyx : SHole.ltB y x = true := by rw [← holeLt_ltB]; exact h2
        rcases List.mem_cons.1 hz with rfl | hz
        · exact hyx
        · exact SHole.swo.trans _ _ _ hyx (h6' z hz)
      · rcases List.mem_cons.1 hz with rfl | hz
        · exact h3' y hy
        · exact h8 y (by simp [hy]) z hz
    · rintro ⟨h1, h2, h3, h4, h5⟩
      obtain ⟨q1, q2⟩ := List.pairwise_cons.1 h2
      obtain ⟨q3, q4⟩ := List.pairwise_cons.1 h4
      refine ⟨h1 x List.mem_cons_self, ?_, fun y hy => ?_, fun z hz => h1 z (List.mem_cons_of_mem _ hz), q2, fun y hy z hz => ?_, q4, fun y hy z hz => ?_⟩
      · cases hp : pre.getLast? with
        | none => rfl
        | some y =>
          show holeLt y x = true
          rw [holeLt_ltB]; exact h3 y hp x List.mem_cons_self
      · simpa using h5 y hy x List.mem_cons_self
      · cases hy; exact q1 z hz
      · rcases List.mem_append.1 hy with hy | hy
        · exact h5 y hy z (List.mem_cons_of_mem _ hz)
        · simp only [List.mem_singleton] at hy; subst hy; exact q3 z hz
theorem goodSheet_iff (l : List S64) : goodSheet l = true ↔ ((∀ x ∈ l, holeB x = true) ∧ SA.Rising SHole.ltB l ∧ l.Pairwise (fun y x => touchB x y = false) ∧ l.length ≤ 60) := by
  unfold goodSheet
  rw [Bool.and_eq_true, sheetFrom_iff, decide_eq_true_eq]
  constructor
  · rintro ⟨⟨h1, h2, _, h4, _⟩, h5⟩
    exact ⟨h1, h2, h4, h5⟩
  · rintro ⟨h1, h2, h3, h4⟩
    exact ⟨⟨h1, h2, fun y hy => by simp at hy, h3, fun y hy => by cases hy⟩, h4⟩
def sheetRes (l : List S64) : List S64 × Bool := if goodSheet (SA.isort SHole.ltB l) = true then (SA.isort SHole.ltB l, true) else ([], false)
theorem sheetRes_len (l : List S64) : (sheetRes l).1.length ≤ 1048576 := by
  unfold sheetRes
  split
  · rename_i h
    have := ((goodSheet_iff _).1 h).2.2.2
    show (SA.isort SHole.ltB l).length ≤ _
    omega
  · simp
theorem sheetRes_good (l : List S64) : goodSheet (sheetRes l).1 = true := by
  unfold sheetRes
  split
  · assumption
  · rfl
theorem sheetRes_srt (l : List S64) : sheetRes l = if goodSheet (SHole.srt l) = true then (SHole.srt l, true) else ([], false) := by
  unfold sheetRes
  by_cases h : goodSheet (SA.isort SHole.ltB l) = true
  · have e : SHole.srt l = SA.isort SHole.ltB l := SA.srt_isort_rising SHole.ltB SHole.swo l (.inr ((goodSheet_iff _).1 h).2.1)
    rw [e]
  · by_cases h' : goodSheet (SHole.srt l) = true
    · have e : SHole.srt l = SA.isort SHole.ltB l := SA.srt_isort_rising SHole.ltB SHole.swo l (.inl ((goodSheet_iff _).1 h').2.1)
      rw [e]
    · rw [if_neg h, if_neg h']
theorem isort_rising (l : List S64) (h : SA.Rising SHole.ltB l) : SA.isort SHole.ltB l = l :=
  (SA.asc_rising SHole.ltB SHole.swo _ _ (SA.isort_perm SHole.ltB l).symm h (SA.isort_asc SHole.ltB SHole.swo l)).symm
theorem shSorted_ev (l : List S64) (hl : l.length ≤ 1048576) : Ev (fun k => spec_shSorted.f k l) (sheetRes l) := by
  unfold spec_shSorted.f SHole.sortedF
  simp only [hl, ↓reduceIte]
  refine Ev.bind (shGood_ev _ (by rw [SA.isort_length]; exact hl)) ?_
  unfold sheetRes
  by_cases hg : goodSheet (SA.isort SHole.ltB l) = true
  · simp only [hg, ↓reduceIte]; exact Ev.now _
  · simp only [hg, Bool.false_eq_true, ↓reduceIte]; exact Ev.now _
theorem sheetOf_ev (l : List S64) (hl : l.length ≤ 1048576) : Ev (fun k => impl_sheetOf.f k l) (sheetRes l) := by
  unfold impl_sheetOf.f SHole.ofF
  have hz : (SHole.srt l).length = l.length := SA.srtL_length SHole.ltB SHole.swo l
  rw [sheetRes_srt]
  by_cases h60 : l.length ≤ 60
  · simp only [h60, ↓reduceIte]
    refine Ev.bind (IsSheet_ev _ (by omega)) ?_
    by_cases hg : goodSheet (SHole.srt l) = true
    · simp only [hg, ↓reduceIte]; exact Ev.now _
    · simp only [hg, Bool.false_eq_true, ↓reduceIte]; exact Ev.now _
  · simp only [h60, ↓reduceIte]
    have hg : ¬ goodSheet (SHole.srt l) = true := fun h => h60 (by have := ((goodSheet_iff _).1 h).2.2.2; omega)
    simp only [hg, ↓reduceIte]
    exact Ev.now _
theorem cloneHoles_eq (l : List S64) (hl : l.length ≤ 1048576) : impl_Hole.f l = some l := by
  unfold impl_Hole.f SHole.cloneF
  rw [if_pos hl]
theorem set_midH {α : Type} (a b : List α) (x y : α) : (a ++ x :: b).set (((a.length : Nat) : Int)).toNat y = a ++ y :: b := by simp

/-- Two holes that do not meet on one track. -/
def apartH (x y : S64) : Prop := x.f0 = y.f0 → x.f2 < y.f1 ∨ y.f2 < x.f1
theorem apartH_symm {x y : S64} (h : apartH x y) : apartH y x := fun e => (h e.symm).symm
theorem good_apart {l : List S64} (h : goodSheet l = true) : l.Pairwise apartH := by
  have h' := (goodSheet_iff l).1 h
  refine h'.2.2.1.imp fun {y x} ht he => ?_
  rw [touchB_false] at ht
  omega
theorem apart_good {l : List S64} (h1 : ∀ x ∈ l, holeB x = true) (h2 : l.Pairwise apartH) (h3 : l.length ≤ 60) : goodSheet (SA.isort SHole.ltB l) = true := by
  have hp := SA.isort_perm SHole.ltB l
  have ha := SA.isort_asc SHole.ltB SHole.swo l
  have hap : (SA.isort SHole.ltB l).Pairwise apartH := hp.symm.pairwise h2 (fun h => apartH_symm h)
  have hb : ∀ x ∈ SA.isort SHole.ltB l, holeB x = true := fun x hx => h1 x (hp.subset hx)
  have hall : (SA.isort SHole.ltB l).Pairwise fun y x => SHole.ltB y x = true ∧ touchB x y = false := by
    refine List.Pairwise.imp_of_mem (R := fun y x => SHole.ltB x y = false ∧ apartH y x) ?_ (ha.and hap)
    rintro y x hy hx ⟨hlt, hapx⟩
    have by_ := (holeB_iff y).1 (hb y hy)
    have bx_ := (holeB_iff x).1 (hb x hx)
    rw [ltB_false] at hlt
    rw [ltB_iff, touchB_false]
    unfold apartH at hapx
    by_cases e : y.f0 = x.f0
    · have := hapx e; omega
    · omega
  rw [goodSheet_iff]
  exact ⟨hb, hall.imp fun h => h.1, hall.imp fun h => h.2, by rw [SA.isort_length]; exact h3⟩
end Go.Proofs.Ytbfehdhncncgdaa.F
