/- Plain facts on layouts: the reference's and the program's. No condition. -/
import Derived.Test.YtbfehdhncncgdaaF0
import Derived.Test.YtbfehdhncncgdaaF10
import Derived.Test.YtbfehdhncncgdaaFQO
import Derived.Test.YtbfehdhncncgdaaFQF
import Derived.Test.YtbfehdhncncgdaaFQL5
set_option linter.unusedVariables false
set_option linter.unusedSimpArgs false
namespace Go.Proofs.Ytbfehdhncncgdaa.F
open Go.RowKit Go.Proofs.YtbfehdhncncgdaaW.PrintWords Go.Proofs.YtbfehdhncncgdaaW.PrintLast Go.Proofs.YtbfehdhncncgdaaW.PrintMore

def layH (l : List Int) (x : S57) : S64 := ⟨(holeOf l x).1, (holeOf l x).2.1, (holeOf l x).2.2.1⟩
def layAll (l : List Int) (s : List S57) : Bool := s.all fun x => (holeOf l x).2.2.2
theorem layH_good {l : List Int} {x : S57} (h : (holeOf l x).2.2.2 = true) : holeB (layH l x) = true := by
  unfold layH
  unfold holeOf at h ⊢
  split at h
  · rename_i hb; rw [if_pos hb]; exact hb
  · cases h
theorem layAll_good {l : List Int} {s : List S57} (h : layAll l s = true) : ∀ y ∈ s.map (layH l), holeB y = true := by
  intro y hy
  obtain ⟨x, hx, rfl⟩ := List.mem_map.1 hy
  exact layH_good (List.all_eq_true.1 h x hx)
theorem laHoles_l0 (l : List Int) (r b : Int) (s : List S57) (hl : l.length ≤ 1048576) (hs : s.length ≤ 1000) (hn : ∀ x ∈ s, noteB x = true) : ∀ (suf pre : List S57), pre ++ suf = s →
    Ev (fun k => spec_laHoles.l0 k b (pre.map fun x => shiftH b (layH l x)) s s.length pre.length l r) (if layAll l suf = true then sheetRes (s.map fun x => shiftH b (layH l x)) else ([], false)) := by
  intro suf
  induction suf with
  | nil =>
    intro pre h
    have hc : ¬ ((pre.length : Int) < (s.length : Int)) := by rw [← h]; simp
    refine Ev.fuel ?_
    simp only [spec_laHoles.l0, hc, ↓reduceIte]
    have e : pre = s := by rw [← h]; simp
    rw [e]
    exact Ev.bind (shSorted_ev _ (by simp; omega)) (Ev.now _)
  | cons x suf ih =>
    intro pre h
    have hlen : s.length = pre.length + (suf.length + 1) := by rw [← h]; simp
    have c1 : (pre.length : Int) < (s.length : Int) := by omega
    have c2 : (0 : Int) ≤ (pre.length : Int) := by omega
    have c3 : rd_T57 s (pre.length : Int) = x := by rw [← h]; exact getD_mid _ _ _ _
    have c4 : (pre.map fun x => shiftH b (layH l x)).length < 5864062014805 := by simp; omega
    have hx := hn x (by rw [← h]; simp)
    refine Ev.fuel ?_
    simp only [spec_laHoles.l0, c1, c2, c3, ↓reduceIte]
    refine Ev.bind (laHole_ev l r x hl hx) ?_
    by_cases ht : (holeOf l x).2.2.2 = true
    · have e := ih (pre ++ [x]) (by rw [← h]; simp)
      have e2 : layAll l (x :: suf) = layAll l suf := by unfold layAll; simp [ht]
      rw [e2]
      simp only [ht, ↓reduceIte, c4, wn pre.length (by omega)]
      have e' : Ev (fun k => spec_laHoles.l0 k b ((pre.map fun x => shiftH b (layH l x)) ++ [shiftH b (layH l x)]) s s.length ((pre.length + 1 : Nat) : Int) l r) (if layAll l suf = true then sheetRes (s.map fun x => shiftH b (layH l x)) else ([], false)) := by simpa using e
      exact e'
    · have e2 : layAll l (x :: suf) = false := by unfold layAll; simp [ht]
      rw [e2]
      simp only [ht, Bool.false_eq_true, ↓reduceIte]
      exact Ev.now _
theorem laHoles_ev (l : List Int) (r b : Int) (s : List S57) (hl : l.length ≤ 1048576) (hs : s.length ≤ 1000) (hn : ∀ x ∈ s, noteB x = true) :
    Ev (fun k => spec_laHoles.f k l r s b) (if playsB l r s = true then (if layAll l s = true then sheetRes (s.map fun x => shiftH b (layH l x)) else ([], false)) else ([], false)) := by
  unfold spec_laHoles.f
  refine Ev.bind (inPlays_ev l r s hl hs hn) ?_
  by_cases hp : playsB l r s = true
  · simp only [hp, ↓reduceIte]
    exact laHoles_l0 l r b s hl hs hn s [] rfl
  · simp only [hp, Bool.false_eq_true, ↓reduceIte]
    exact Ev.now _
theorem layOut_l0 (l : List Int) (r : Int) (s : List S57) (hl : l.length ≤ 1048576) (hs : s.length ≤ 1000) (hn : ∀ x ∈ s, noteB x = true) : ∀ (suf pre : List S57), pre ++ suf = s →
    Ev (fun k => impl_layOut.l0 k (pre.map (layH l)) s s.length pre.length l r) (if layAll l suf = true then sheetRes (s.map (layH l)) else ([], false)) := by
  intro suf
  induction suf with
  | nil =>
    intro pre h
    have hc : ¬ ((pre.length : Int) < (s.length : Int)) := by rw [← h]; simp
    refine Ev.fuel ?_
    simp only [impl_layOut.l0, hc, ↓reduceIte]
    have e : pre = s := by rw [← h]; simp
    rw [e]
    exact Ev.bind (sheetOf_ev _ (by simp; omega)) (Ev.now _)
  | cons x suf ih =>
    intro pre h
    have hlen : s.length = pre.length + (suf.length + 1) := by rw [← h]; simp
    have c1 : (pre.length : Int) < (s.length : Int) := by omega
    have c2 : (0 : Int) ≤ (pre.length : Int) := by omega
    have c3 : rd_T57 s (pre.length : Int) = x := by rw [← h]; exact getD_mid _ _ _ _
    have c4 : (pre.map (layH l)).length < 5864062014805 := by simp; omega
    have hx := hn x (by rw [← h]; simp)
    refine Ev.fuel ?_
    simp only [impl_layOut.l0, c1, c2, c3, ↓reduceIte]
    refine Ev.bind (holeFor_ev l r x hl hx) ?_
    by_cases ht : (holeOf l x).2.2.2 = true
    · have e := ih (pre ++ [x]) (by rw [← h]; simp)
      have e2 : layAll l (x :: suf) = layAll l suf := by unfold layAll; simp [ht]
      rw [e2]
      simp only [ht, ↓reduceIte, c4, wn pre.length (by omega)]
      have e' : Ev (fun k => impl_layOut.l0 k ((pre.map (layH l)) ++ [layH l x]) s s.length ((pre.length + 1 : Nat) : Int) l r) (if layAll l suf = true then sheetRes (s.map (layH l)) else ([], false)) := by simpa using e
      exact e'
    · have e2 : layAll l (x :: suf) = false := by unfold layAll; simp [ht]
      rw [e2]
      simp only [ht, Bool.false_eq_true, ↓reduceIte]
      exact Ev.now _
def layRes (l : List Int) (r : Int) (s : List S57) : List S64 × Bool := if playsB l r s = true then (if layAll l s = true then sheetRes (s.map (layH l)) else ([], false)) else ([], false)
theorem layRes_len (l : List Int) (r : Int) (s : List S57) : (layRes l r s).1.length ≤ 1048576 := by
  unfold layRes
  split
  · split
    · exact sheetRes_len _
    · simp
  · simp
theorem layOut_ev (l : List Int) (r : Int) (s : List S57) (hl : l.length ≤ 1048576) (hs : s.length ≤ 1000) (hn : ∀ x ∈ s, noteB x = true) :
    Ev (fun k => impl_layOut.f k l r s) (layRes l r s) := by
  unfold impl_layOut.f layRes
  refine Ev.bind (canPlay_ev l r s hl hs hn) ?_
  by_cases hp : playsB l r s = true
  · simp only [hp, ↓reduceIte]
    exact layOut_l0 l r s hl hs hn s [] rfl
  · simp only [hp, Bool.false_eq_true, ↓reduceIte]
    exact Ev.now _
/-- The reference's, from a step on: the program's, moved. -/
theorem layRes_from (l : List Int) (r b : Int) (s : List S57) (hb : 0 ≤ b ∧ b ≤ 1000000) :
    (if playsB l r s = true then (if layAll l s = true then sheetRes (s.map fun x => shiftH b (layH l x)) else ([], false)) else ([], false)) = (if (layRes l r s).2 = true then sheetRes ((layRes l r s).1.map (shiftH b)) else ([], false)) := by
  unfold layRes
  by_cases hp : playsB l r s = true
  · simp only [hp, ↓reduceIte]
    by_cases ha : layAll l s = true
    · simp only [ha, ↓reduceIte]
      have := shift_res hb (layAll_good ha)
      rw [List.map_map] at this
      exact this.symm
    · simp only [ha, Bool.false_eq_true, ↓reduceIte]
  · simp only [hp, Bool.false_eq_true, ↓reduceIte]
theorem layRes_zero (l : List Int) (r : Int) (s : List S57) :
    (if playsB l r s = true then (if layAll l s = true then sheetRes (s.map fun x => shiftH 0 (layH l x)) else ([], false)) else ([], false)) = layRes l r s := by
  unfold layRes
  by_cases ha : layAll l s = true
  · have := shift_zero (layAll_good ha)
    rw [List.map_map] at this
    have e : (s.map fun x => shiftH 0 (layH l x)) = s.map (layH l) := this
    rw [e]
  · simp only [ha, Bool.false_eq_true, ↓reduceIte]
end Go.Proofs.Ytbfehdhncncgdaa.F
