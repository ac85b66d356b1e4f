/- Plain facts on sheets: a sheet that is put in order and moved is one that is moved and put in order. No condition. -/
import Derived.Test.YtbfehdhncncgdaaF0
import Derived.Test.YtbfehdhncncgdaaFQL2
set_option linter.unusedVariables false
set_option linter.unusedSimpArgs false
namespace Go.Proofs.Ytbfehdhncncgdaa.F
open Go.RowKit Go.Proofs.YtbfehdhncncgdaaW.PrintWords Go.Proofs.YtbfehdhncncgdaaW.PrintLast Go.Proofs.YtbfehdhncncgdaaW.PrintMore

def shiftH (b : Int) (x : S64) : S64 := ⟨x.f0, wrap64 (x.f1 + b), wrap64 (x.f2 + b)⟩
theorem shiftH_eq {b : Int} {x : S64} (hb : 0 ≤ b ∧ b ≤ 1000000) (hx : holeB x = true) : (shiftH b x).f0 = x.f0 ∧ (shiftH b x).f1 = x.f1 + b ∧ (shiftH b x).f2 = x.f2 + b := by
  have h := (holeB_iff x).1 hx
  unfold shiftH
  exact ⟨rfl, w_id (by omega) (by omega), w_id (by omega) (by omega)⟩
theorem shift_rising {l : List S64} {b : Int} (hb : 0 ≤ b ∧ b ≤ 1000000) (hl : ∀ x ∈ l, holeB x = true) : SA.Rising SHole.ltB (l.map (shiftH b)) ↔ SA.Rising SHole.ltB l := by
  unfold SA.Rising
  rw [List.pairwise_map]
  have key : ∀ x ∈ l, ∀ y ∈ l, (SHole.ltB (shiftH b x) (shiftH b y) = true ↔ SHole.ltB x y = true) := by
    intro x hx y hy
    obtain ⟨a0, a1, a2⟩ := shiftH_eq hb (hl x hx)
    obtain ⟨c0, c1, c2⟩ := shiftH_eq hb (hl y hy)
    rw [ltB_iff, ltB_iff, a0, a1, c0, c1]
    omega
  constructor
  · intro h
    exact List.Pairwise.imp_of_mem (fun hx hy hxy => (key _ hx _ hy).1 hxy) h
  · intro h
    exact List.Pairwise.imp_of_mem (fun hx hy hxy => (key _ hx _ hy).2 hxy) h
theorem isort_shift {l : List S64} {b : Int} (hb : 0 ≤ b ∧ b ≤ 1000000) (hl : ∀ x ∈ l, holeB x = true) (hr : SA.Rising SHole.ltB (SA.isort SHole.ltB l)) : SA.isort SHole.ltB (l.map (shiftH b)) = (SA.isort SHole.ltB l).map (shiftH b) := by
  have hp := SA.isort_perm SHole.ltB l
  have hr2 : SA.Rising SHole.ltB ((SA.isort SHole.ltB l).map (shiftH b)) := (shift_rising hb (fun x hx => hl x (hp.subset hx))).2 hr
  have hp2 : ((SA.isort SHole.ltB l).map (shiftH b)).Perm (SA.isort SHole.ltB (l.map (shiftH b))) := (hp.map _).trans (SA.isort_perm SHole.ltB _).symm
  exact (SA.asc_rising SHole.ltB SHole.swo _ _ hp2 hr2 (SA.isort_asc SHole.ltB SHole.swo _)).symm
theorem shift_res {l : List S64} {b : Int} (hb : 0 ≤ b ∧ b ≤ 1000000) (hl : ∀ x ∈ l, holeB x = true) :
    (if (sheetRes l).2 = true then sheetRes ((sheetRes l).1.map (shiftH b)) else ([], false)) = sheetRes (l.map (shiftH b)) := by
  by_cases hg : goodSheet (SA.isort SHole.ltB l) = true
  · have e : sheetRes l = (SA.isort SHole.ltB l, true) := by unfold sheetRes; rw [if_pos hg]
    have hr := ((goodSheet_iff _).1 hg).2.1
    have hp := SA.isort_perm SHole.ltB l
    rw [e]
    simp only [↓reduceIte]
    unfold sheetRes
    rw [isort_shift hb hl hr, isort_rising _ ((shift_rising hb (fun x hx => hl x (hp.subset hx))).2 hr)]
  · have e : sheetRes l = ([], false) := by unfold sheetRes; rw [if_neg hg]
    rw [e]
    simp only [Bool.false_eq_true, ↓reduceIte]
    unfold sheetRes
    rw [if_neg]
    intro hm
    have hap := good_apart hm
    have hlen := ((goodSheet_iff _).1 hm).2.2.2
    have hp := SA.isort_perm SHole.ltB (l.map (shiftH b))
    have hap2 : (l.map (shiftH b)).Pairwise apartH := hp.pairwise hap (fun h => apartH_symm h)
    rw [List.pairwise_map] at hap2
    rw [SA.isort_length, List.length_map] at hlen
    refine hg (apart_good hl ?_ hlen)
    refine List.Pairwise.imp_of_mem (R := fun x y => apartH (shiftH b x) (shiftH b y)) ?_ hap2
    intro x y hx hy hxy
    obtain ⟨a0, a1, a2⟩ := shiftH_eq hb (hl x hx)
    obtain ⟨c0, c1, c2⟩ := shiftH_eq hb (hl y hy)
    unfold apartH at hxy ⊢
    rw [a0, a1, a2, c0, c1, c2] at hxy
    intro h
    have := hxy h
    omega
theorem shift_zero {l : List S64} (hl : ∀ x ∈ l, holeB x = true) : l.map (shiftH 0) = l := by
  have : ∀ x ∈ l, shiftH 0 x = x := by
    intro x hx
    obtain ⟨a0, a1, a2⟩ := shiftH_eq (b := 0) (by omega) (hl x hx)
    rw [Int.add_zero] at a1 a2
    generalize shiftH 0 x = y at a0 a1 a2
    cases x; cases y; simp_all
  rw [List.map_congr_left this, List.map_id']
end Go.Proofs.Ytbfehdhncncgdaa.F
