/- Plain facts on sheets: a hole added, sheets moved, mirrored, reversed and cut. No condition. -/
import Derived.Test.YtbfehdhncncgdaaF0
import Derived.Test.YtbfehdhncncgdaaF10
import Derived.Test.YtbfehdhncncgdaaFQL2
set_option linter.unusedVariables false
set_option linter.unusedSimpArgs false
namespace Go.Proofs.Ytbfehdhncncgdaa.F
open Go.RowKit Go.Proofs.YtbfehdhncncgdaaW.PrintWords Go.Proofs.YtbfehdhncncgdaaW.PrintLast Go.Proofs.YtbfehdhncncgdaaW.PrintMore

def move1 (b : Int) (x : S64) : S64 := ⟨x.f0, wrap64 (x.f1 + b), wrap64 (x.f2 + b)⟩
theorem impl_moveSheet_l0 (l : List S64) (b : Int) (hl : l.length ≤ 1048576) : ∀ (suf pre : List S64), pre ++ suf = l →
    Ev (fun k => impl_moveSheet.l0 k b (pre.map (move1 b) ++ suf) l.length pre.length) (sheetRes (l.map (move1 b))) := by
  intro suf
  induction suf with
  | nil =>
    intro pre h
    have hn : ¬ ((pre.length : Int) < (l.length : Int)) := by rw [← h]; simp
    have hz : (l.map (move1 b)).length ≤ 1048576 := by simpa using hl
    refine Ev.fuel ?_
    simp only [impl_moveSheet.l0, hn, ↓reduceIte]
    have e : pre = l := by rw [← h]; simp
    rw [e, List.append_nil]
    exact Ev.bind (sheetOf_ev _ hz) (Ev.now _)
  | cons x suf ih =>
    intro pre h
    have hlen : l.length = pre.length + (suf.length + 1) := by rw [← h]; simp
    have h1 : (pre.length : Int) < (l.length : Int) := by omega
    have h2 : (0 : Int) ≤ (pre.length : Int) := by omega
    have hml : (pre.map (move1 b)).length = pre.length := by simp
    have h3 : ∀ y, rd_T64 (pre.map (move1 b) ++ y :: suf) (pre.length : Int) = y := by intro y; rw [← hml]; exact getD_mid _ _ _ _
    have h4 : (pre.length : Int) < ((pre.map (move1 b) ++ x :: suf).length : Int) := by simp; omega
    have h5 : ∀ z y, (pre.map (move1 b) ++ z :: suf).set ((pre.length : Int)).toNat y = pre.map (move1 b) ++ y :: suf := by
      intro z y
      have := set_midH (pre.map (move1 b)) suf z y
      rw [hml] at this; exact this
    have e := ih (pre ++ [x]) (by rw [← h]; simp)
    have e' : Ev (fun k => impl_moveSheet.l0 k b (pre.map (move1 b) ++ move1 b x :: suf) l.length ((pre.length + 1 : Nat) : Int)) (sheetRes (l.map (move1 b))) := by simpa using e
    refine Ev.fuel ?_
    simp only [impl_moveSheet.l0, h1, h2, h3, h4, h5, ↓reduceIte, Option.bind_some, wn pre.length (by omega)]
    exact e'
theorem moveSheet_ev (l : List S64) (b : Int) (hl : l.length ≤ 1048576) : Ev (fun k => impl_moveSheet.f k l b) (sheetRes (l.map (move1 b))) := by
  unfold impl_moveSheet.f
  rw [cloneHoles_eq l hl]
  exact impl_moveSheet_l0 l b hl l [] rfl
theorem move1_rising {l : List S64} {b : Int} (h : goodSheet l = true) (hb : -1000000 ≤ b ∧ b ≤ 1000000) : SA.Rising SHole.ltB (l.map (move1 b)) := by
  have hr := ((goodSheet_iff l).1 h).2.1
  have hall := ((goodSheet_iff l).1 h).1
  unfold SA.Rising
  rw [List.pairwise_map]
  refine List.Pairwise.imp_of_mem (R := fun a b => SHole.ltB a b = true) ?_ hr
  intro x y hx hy hxy
  have bx := (holeB_iff x).1 (hall x hx)
  have by_ := (holeB_iff y).1 (hall y hy)
  rw [ltB_iff] at hxy ⊢
  simp only [move1]
  rw [w_id (x := x.f1 + b) (by omega) (by omega), w_id (x := y.f1 + b) (by omega) (by omega)]
  omega
end Go.Proofs.Ytbfehdhncncgdaa.F
