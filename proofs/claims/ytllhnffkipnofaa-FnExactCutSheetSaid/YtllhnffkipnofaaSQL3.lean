/- Plain facts on sheets: a hole added, sheets moved, mirrored, reversed and cut. No condition. -/
import Derived.Test.YtllhnffkipnofaaS0
import Derived.Test.YtllhnffkipnofaaS7
import Derived.Test.YtllhnffkipnofaaS10
import Derived.Test.YtllhnffkipnofaaS12
import Derived.Test.YtllhnffkipnofaaS14
import Derived.Test.YtllhnffkipnofaaS15
import Derived.Test.YtllhnffkipnofaaS16
import Derived.Test.YtllhnffkipnofaaS17
import Derived.Test.YtllhnffkipnofaaS18
import Derived.Test.YtllhnffkipnofaaS19
import Derived.Test.YtllhnffkipnofaaSQL2
set_option linter.unusedVariables false
set_option linter.unusedSimpArgs false
namespace Go.Proofs.Ytllhnffkipnofaa.S
open Go.RowKit Go.Proofs.YtllhnffkipnofaaW.PrintWords Go.Proofs.YtllhnffkipnofaaW.PrintLast Go.Proofs.YtllhnffkipnofaaW.PrintMore

theorem addLawH_ev (l : List S34) (a b c : Int) (hl : l.length ≤ 1048576) : ∃ r0 r1, r0.length ≤ 1048576 ∧ Ev (fun k => spec_AddHole.f k l a b c) (r0, r1) ∧ Ev (fun k => impl_AddHole.f k l a b c) (r0, r1) := by
  by_cases hg : goodSheet l = true
  · have h60 := goodSheet_len hg
    by_cases hx : holeB ⟨a, b, c⟩ = true
    · have hz : (l ++ [(⟨a, b, c⟩ : S34)]).length ≤ 1048576 := by simp; omega
      refine ⟨(sheetRes (l ++ [(⟨a, b, c⟩ : S34)])).1, (sheetRes (l ++ [(⟨a, b, c⟩ : S34)])).2, sheetRes_len _, ?_, ?_⟩
      · unfold spec_AddHole.f spec_shWith.f
        refine Ev.bind (shGood_ev l hl) ?_
        simp only [hg, ↓reduceIte, shHole_eq, Option.bind_some, hx, List.length_nil, List.nil_append, show 0 + l.length < 5864062014805 from by omega, show l.length + [(⟨a, b, c⟩ : S34)].length < 5864062014805 from by simp; omega]
        refine Ev.bind (Ev.bind (shSorted_ev _ hz) (Ev.now _)) ?_
        exact Ev.now _
      · unfold impl_AddHole.f
        refine Ev.bind (IsSheet_ev l hl) ?_
        simp only [hg, ↓reduceIte, IsHole_eq, Option.bind_some, hx, Bool.not_true]
        refine Ev.fuel ?_
        simp only [impl_AddHole.j0, Bool.false_eq_true, ↓reduceIte, cloneHoles_eq l hl, Option.bind_some, show l.length + [(⟨a, b, c⟩ : S34)].length < 5864062014805 from by simp; omega]
        refine Ev.bind (sheetOf_ev _ hz) ?_
        exact Ev.now _
    · refine ⟨[], false, by simp, ?_, ?_⟩
      · unfold spec_AddHole.f
        refine Ev.bind (shGood_ev l hl) ?_
        simp only [hg, ↓reduceIte, shHole_eq, Option.bind_some, hx, Bool.false_eq_true]
        exact Ev.now _
      · unfold impl_AddHole.f
        refine Ev.bind (IsSheet_ev l hl) ?_
        simp only [hg, ↓reduceIte, IsHole_eq, Option.bind_some, hx, Bool.not_false]
        refine Ev.fuel ?_
        simp only [impl_AddHole.j0, ↓reduceIte]
        exact Ev.now _
  · refine ⟨[], false, by simp, ?_, ?_⟩
    · unfold spec_AddHole.f
      refine Ev.bind (shGood_ev l hl) ?_
      simp only [hg, Bool.false_eq_true, ↓reduceIte]
      exact Ev.now _
    · unfold impl_AddHole.f
      refine Ev.bind (IsSheet_ev l hl) ?_
      simp only [hg, Bool.false_eq_true, ↓reduceIte]
      refine Ev.fuel ?_
      simp only [impl_AddHole.j0, ↓reduceIte]
      exact Ev.now _
def move1 (b : Int) (x : S34) : S34 := ⟨x.f0, wrap64 (x.f1 + b), wrap64 (x.f2 + b)⟩
theorem impl_moveSheet_l0 (l : List S34) (b : Int) (hl : l.length ≤ 1048576) : ∀ (suf pre : List S34), pre ++ suf = l →
    Ev (fun k => impl_moveSheet.l0 k b (pre.map (move1 b) ++ suf) l.length pre.length) (sheetRes (l.map (move1 b))) := by
  intro suf
  induction suf with
  | nil =>
    intro pre h
    have hn : ¬ ((pre.length : Int) < (l.length : Int)) := by rw [← h]; simp
    have hz : (l.map (move1 b)).length ≤ 1048576 := by simpa using hl
    refine Ev.fuel ?_
    simp only [impl_moveSheet.l0, hn, ↓reduceIte]
    have e : pre = l := by rw [← h]; simp
    rw [e, List.append_nil]
    exact Ev.bind (sheetOf_ev _ hz) (Ev.now _)
  | cons x suf ih =>
    intro pre h
    have hlen : l.length = pre.length + (suf.length + 1) := by rw [← h]; simp
    have h1 : (pre.length : Int) < (l.length : Int) := by omega
    have h2 : (0 : Int) ≤ (pre.length : Int) := by omega
    have hml : (pre.map (move1 b)).length = pre.length := by simp
    have h3 : ∀ y, rd_T34 (pre.map (move1 b) ++ y :: suf) (pre.length : Int) = y := by intro y; rw [← hml]; exact getD_mid _ _ _ _
    have h4 : (pre.length : Int) < ((pre.map (move1 b) ++ x :: suf).length : Int) := by simp; omega
    have h5 : ∀ z y, (pre.map (move1 b) ++ z :: suf).set ((pre.length : Int)).toNat y = pre.map (move1 b) ++ y :: suf := by
      intro z y
      have := set_midH (pre.map (move1 b)) suf z y
      rw [hml] at this; exact this
    have e := ih (pre ++ [x]) (by rw [← h]; simp)
    have e' : Ev (fun k => impl_moveSheet.l0 k b (pre.map (move1 b) ++ move1 b x :: suf) l.length ((pre.length + 1 : Nat) : Int)) (sheetRes (l.map (move1 b))) := by simpa using e
    refine Ev.fuel ?_
    simp only [impl_moveSheet.l0, h1, h2, h3, h4, h5, ↓reduceIte, Option.bind_some, wn pre.length (by omega)]
    exact e'
theorem moveSheet_ev (l : List S34) (b : Int) (hl : l.length ≤ 1048576) : Ev (fun k => impl_moveSheet.f k l b) (sheetRes (l.map (move1 b))) := by
  unfold impl_moveSheet.f
  rw [cloneHoles_eq l hl]
  exact impl_moveSheet_l0 l b hl l [] rfl
theorem move1_rising {l : List S34} {b : Int} (h : goodSheet l = true) (hb : -1000000 ≤ b ∧ b ≤ 1000000) : SA.Rising SHole.ltB (l.map (move1 b)) := by
  have hr := ((goodSheet_iff l).1 h).2.1
  have hall := ((goodSheet_iff l).1 h).1
  unfold SA.Rising
  rw [List.pairwise_map]
  refine List.Pairwise.imp_of_mem (R := fun a b => SHole.ltB a b = true) ?_ hr
  intro x y hx hy hxy
  have bx := (holeB_iff x).1 (hall x hx)
  have by_ := (holeB_iff y).1 (hall y hy)
  rw [ltB_iff] at hxy ⊢
  simp only [move1]
  rw [w_id (x := x.f1 + b) (by omega) (by omega), w_id (x := y.f1 + b) (by omega) (by omega)]
  omega
theorem spec_MoveSheet_l0 (l : List S34) (b : Int) (hl : l.length ≤ 1048576) : ∀ (suf pre : List S34), pre ++ suf = l →
    Ev (fun k => spec_MoveSheet.l0 k b (pre.map (move1 b)) l l.length pre.length) (if goodSheet (l.map (move1 b)) = true then (l.map (move1 b), true) else ([], false)) := by
  intro suf
  induction suf with
  | nil =>
    intro pre h
    have hn : ¬ ((pre.length : Int) < (l.length : Int)) := by rw [← h]; simp
    have hz : (l.map (move1 b)).length ≤ 1048576 := by simpa using hl
    refine Ev.fuel ?_
    simp only [spec_MoveSheet.l0, hn, ↓reduceIte]
    have e : pre = l := by rw [← h]; simp
    rw [e]
    refine Ev.bind (shGood_ev _ hz) ?_
    by_cases hg : goodSheet (l.map (move1 b)) = true
    · simp only [hg, ↓reduceIte]; exact Ev.now _
    · simp only [hg, Bool.false_eq_true, ↓reduceIte]; exact Ev.now _
  | cons x suf ih =>
    intro pre h
    have hlen : l.length = pre.length + (suf.length + 1) := by rw [← h]; simp
    have h1 : (pre.length : Int) < (l.length : Int) := by omega
    have h2 : (0 : Int) ≤ (pre.length : Int) := by omega
    have h3 : rd_T34 l (pre.length : Int) = x := by rw [← h]; exact getD_mid _ _ _ _
    have h4 : (pre.map (move1 b)).length < 5864062014805 := by simp; omega
    have e := ih (pre ++ [x]) (by rw [← h]; simp)
    have e' : Ev (fun k => spec_MoveSheet.l0 k b (pre.map (move1 b) ++ [move1 b x]) l l.length ((pre.length + 1 : Nat) : Int)) (if goodSheet (l.map (move1 b)) = true then (l.map (move1 b), true) else ([], false)) := by simpa using e
    refine Ev.fuel ?_
    simp only [spec_MoveSheet.l0, h1, h2, h3, h4, ↓reduceIte, wn pre.length (by omega)]
    exact e'
theorem moveLaw_ev (l : List S34) (b : Int) (hl : l.length ≤ 1048576) : ∃ r0 r1, r0.length ≤ 1048576 ∧ Ev (fun k => spec_MoveSheet.f k l b) (r0, r1) ∧ Ev (fun k => impl_MoveSheet.f k l b) (r0, r1) := by
  unfold spec_MoveSheet.f impl_MoveSheet.f
  by_cases hg : goodSheet l = true
  · by_cases hb : -2000 ≤ b ∧ b ≤ 2000
    · have e : sheetRes (l.map (move1 b)) = if goodSheet (l.map (move1 b)) = true then (l.map (move1 b), true) else ([], false) := by
        unfold sheetRes
        rw [isort_rising _ (move1_rising hg (by omega))]
      refine ⟨(sheetRes (l.map (move1 b))).1, (sheetRes (l.map (move1 b))).2, sheetRes_len _, ?_, ?_⟩
      · refine Ev.bind (shGood_ev l hl) ?_
        simp only [hg, ↓reduceIte, l1In_h, Option.bind_some, hb, and_self, decide_true, Bool.not_true]
        refine Ev.fuel ?_
        simp only [spec_MoveSheet.j0, Bool.false_eq_true, ↓reduceIte]
        have := spec_MoveSheet_l0 l b hl l [] rfl
        rw [← e] at this
        exact this
      · refine Ev.bind (IsSheet_ev l hl) ?_
        simp only [hg, ↓reduceIte, show ¬ b < -2000 from by omega, show ¬ b > 2000 from by omega]
        exact Ev.bind (moveSheet_ev l b hl) (Ev.now _)
    · refine ⟨[], false, by simp, ?_, ?_⟩
      · refine Ev.bind (shGood_ev l hl) ?_
        simp only [hg, ↓reduceIte, l1In_h, Option.bind_some, hb, decide_false, Bool.not_false]
        refine Ev.fuel ?_
        simp only [spec_MoveSheet.j0, ↓reduceIte]
        exact Ev.now _
      · refine Ev.bind (IsSheet_ev l hl) ?_
        simp only [hg, ↓reduceIte]
        by_cases h1 : b < -2000
        · simp only [h1, ↓reduceIte]; exact Ev.now _
        · simp only [h1, ↓reduceIte, show b > 2000 from by omega]; exact Ev.now _
  · refine ⟨[], false, by simp, ?_, ?_⟩
    · refine Ev.bind (shGood_ev l hl) ?_
      simp only [hg, Bool.false_eq_true, ↓reduceIte]
      refine Ev.fuel ?_
      simp only [spec_MoveSheet.j0, ↓reduceIte]
      exact Ev.now _
    · refine Ev.bind (IsSheet_ev l hl) ?_
      simp only [hg, Bool.false_eq_true, ↓reduceIte]
      exact Ev.now _
def mir1 (x : S34) : S34 := ⟨wrap64 (19 - x.f0), x.f1, x.f2⟩
theorem spec_MirrorTracks_l0 (l : List S34) (hl : l.length ≤ 1048576) : ∀ (suf pre : List S34), pre ++ suf = l →
    Ev (fun k => spec_MirrorTracks.l0 k (pre.map (mir1)) l l.length pre.length) (sheetRes (l.map mir1)) := by
  intro suf
  induction suf with
  | nil =>
    intro pre h
    have hn : ¬ ((pre.length : Int) < (l.length : Int)) := by rw [← h]; simp
    have hz : (l.map (mir1)).length ≤ 1048576 := by simpa using hl
    refine Ev.fuel ?_
    simp only [spec_MirrorTracks.l0, hn, ↓reduceIte]
    have e : pre = l := by rw [← h]; simp
    rw [e]
    exact Ev.bind (shSorted_ev _ hz) (Ev.now _)
  | cons x suf ih =>
    intro pre h
    have hlen : l.length = pre.length + (suf.length + 1) := by rw [← h]; simp
    have h1 : (pre.length : Int) < (l.length : Int) := by omega
    have h2 : (0 : Int) ≤ (pre.length : Int) := by omega
    have h3 : rd_T34 l (pre.length : Int) = x := by rw [← h]; exact getD_mid _ _ _ _
    have h4 : (pre.map (mir1)).length < 5864062014805 := by simp; omega
    have e := ih (pre ++ [x]) (by rw [← h]; simp)
    have e' : Ev (fun k => spec_MirrorTracks.l0 k (pre.map (mir1) ++ [mir1 x]) l l.length ((pre.length + 1 : Nat) : Int)) (sheetRes (l.map mir1)) := by simpa using e
    refine Ev.fuel ?_
    simp only [spec_MirrorTracks.l0, h1, h2, h3, h4, ↓reduceIte, wn pre.length (by omega)]
    exact e'
theorem impl_MirrorTracks_l0 (l : List S34) (hl : l.length ≤ 1048576) : ∀ (suf pre : List S34), pre ++ suf = l →
    Ev (fun k => impl_MirrorTracks.l0 k (pre.map (mir1) ++ suf) l.length pre.length) (sheetRes (l.map mir1)) := by
  intro suf
  induction suf with
  | nil =>
    intro pre h
    have hn : ¬ ((pre.length : Int) < (l.length : Int)) := by rw [← h]; simp
    have hz : (l.map (mir1)).length ≤ 1048576 := by simpa using hl
    refine Ev.fuel ?_
    simp only [impl_MirrorTracks.l0, hn, ↓reduceIte]
    have e : pre = l := by rw [← h]; simp
    rw [e, List.append_nil]
    exact Ev.bind (sheetOf_ev _ hz) (Ev.now _)
  | cons x suf ih =>
    intro pre h
    have hlen : l.length = pre.length + (suf.length + 1) := by rw [← h]; simp
    have h1 : (pre.length : Int) < (l.length : Int) := by omega
    have h2 : (0 : Int) ≤ (pre.length : Int) := by omega
    have hml : (pre.map (mir1)).length = pre.length := by simp
    have h3 : ∀ y, rd_T34 (pre.map (mir1) ++ y :: suf) (pre.length : Int) = y := by intro y; rw [← hml]; exact getD_mid _ _ _ _
    have h4 : (pre.length : Int) < ((pre.map (mir1) ++ x :: suf).length : Int) := by simp; omega
    have h5 : ∀ z y, (pre.map (mir1) ++ z :: suf).set ((pre.length : Int)).toNat y = pre.map (mir1) ++ y :: suf := by
      intro z y
      have := set_midH (pre.map (mir1)) suf z y
      rw [hml] at this; exact this
    have e := ih (pre ++ [x]) (by rw [← h]; simp)
    have e' : Ev (fun k => impl_MirrorTracks.l0 k (pre.map (mir1) ++ mir1 x :: suf) l.length ((pre.length + 1 : Nat) : Int)) (sheetRes (l.map mir1)) := by simpa using e
    refine Ev.fuel ?_
    simp only [impl_MirrorTracks.l0, h1, h2, h3, h4, h5, ↓reduceIte, Option.bind_some, wn pre.length (by omega)]
    exact e'
theorem mirrorLaw_ev (l : List S34) (hl : l.length ≤ 1048576) : ∃ r0 r1, r0.length ≤ 1048576 ∧ Ev (fun k => spec_MirrorTracks.f k l) (r0, r1) ∧ Ev (fun k => impl_MirrorTracks.f k l) (r0, r1) := by
  unfold spec_MirrorTracks.f impl_MirrorTracks.f
  by_cases hg : goodSheet l = true
  · refine ⟨(sheetRes (l.map mir1)).1, (sheetRes (l.map mir1)).2, sheetRes_len _, ?_, ?_⟩
    · refine Ev.bind (shGood_ev l hl) ?_
      simp only [hg, ↓reduceIte]
      exact spec_MirrorTracks_l0 l hl l [] rfl
    · refine Ev.bind (IsSheet_ev l hl) ?_
      simp only [hg, ↓reduceIte, cloneHoles_eq l hl, Option.bind_some]
      exact impl_MirrorTracks_l0 l hl l [] rfl
  · refine ⟨[], false, by simp, ?_, ?_⟩
    · refine Ev.bind (shGood_ev l hl) ?_
      simp only [hg, Bool.false_eq_true, ↓reduceIte]
      exact Ev.now _
    · refine Ev.bind (IsSheet_ev l hl) ?_
      simp only [hg, Bool.false_eq_true, ↓reduceIte]
      exact Ev.now _
def rev1 (b : Int) (x : S34) : S34 := ⟨x.f0, wrap64 (b - x.f2), wrap64 (b - x.f1)⟩
theorem spec_ReverseSheet_l0 (l : List S34) (b : Int) (hl : l.length ≤ 1048576) : ∀ (suf pre : List S34), pre ++ suf = l →
    Ev (fun k => spec_ReverseSheet.l0 k b (pre.map (rev1 b)) l l.length pre.length) (sheetRes (l.map (rev1 b))) := by
  intro suf
  induction suf with
  | nil =>
    intro pre h
    have hn : ¬ ((pre.length : Int) < (l.length : Int)) := by rw [← h]; simp
    have hz : (l.map (rev1 b)).length ≤ 1048576 := by simpa using hl
    refine Ev.fuel ?_
    simp only [spec_ReverseSheet.l0, hn, ↓reduceIte]
    have e : pre = l := by rw [← h]; simp
    rw [e]
    exact Ev.bind (shSorted_ev _ hz) (Ev.now _)
  | cons x suf ih =>
    intro pre h
    have hlen : l.length = pre.length + (suf.length + 1) := by rw [← h]; simp
    have h1 : (pre.length : Int) < (l.length : Int) := by omega
    have h2 : (0 : Int) ≤ (pre.length : Int) := by omega
    have h3 : rd_T34 l (pre.length : Int) = x := by rw [← h]; exact getD_mid _ _ _ _
    have h4 : (pre.map (rev1 b)).length < 5864062014805 := by simp; omega
    have e := ih (pre ++ [x]) (by rw [← h]; simp)
    have e' : Ev (fun k => spec_ReverseSheet.l0 k b (pre.map (rev1 b) ++ [rev1 b x]) l l.length ((pre.length + 1 : Nat) : Int)) (sheetRes (l.map (rev1 b))) := by simpa using e
    refine Ev.fuel ?_
    simp only [spec_ReverseSheet.l0, h1, h2, h3, h4, ↓reduceIte, wn pre.length (by omega)]
    exact e'
theorem impl_ReverseSheet_l0 (l : List S34) (b : Int) (hl : l.length ≤ 1048576) : ∀ (suf pre : List S34), pre ++ suf = l →
    Ev (fun k => impl_ReverseSheet.l0 k b (pre.map (rev1 b)) l l.length pre.length) (sheetRes (l.map (rev1 b))) := by
  intro suf
  induction suf with
  | nil =>
    intro pre h
    have hn : ¬ ((pre.length : Int) < (l.length : Int)) := by rw [← h]; simp
    have hz : (l.map (rev1 b)).length ≤ 1048576 := by simpa using hl
    refine Ev.fuel ?_
    simp only [impl_ReverseSheet.l0, hn, ↓reduceIte]
    have e : pre = l := by rw [← h]; simp
    rw [e]
    exact Ev.bind (sheetOf_ev _ hz) (Ev.now _)
  | cons x suf ih =>
    intro pre h
    have hlen : l.length = pre.length + (suf.length + 1) := by rw [← h]; simp
    have h1 : (pre.length : Int) < (l.length : Int) := by omega
    have h2 : (0 : Int) ≤ (pre.length : Int) := by omega
    have h3 : rd_T34 l (pre.length : Int) = x := by rw [← h]; exact getD_mid _ _ _ _
    have h4 : (pre.map (rev1 b)).length < 5864062014805 := by simp; omega
    have e := ih (pre ++ [x]) (by rw [← h]; simp)
    have e' : Ev (fun k => impl_ReverseSheet.l0 k b (pre.map (rev1 b) ++ [rev1 b x]) l l.length ((pre.length + 1 : Nat) : Int)) (sheetRes (l.map (rev1 b))) := by simpa using e
    refine Ev.fuel ?_
    simp only [impl_ReverseSheet.l0, h1, h2, h3, h4, ↓reduceIte, wn pre.length (by omega)]
    exact e'
def lenFrom : Int → List S34 → Int
  | m, [] => m
  | m, x :: xs => lenFrom (if m > x.f2 then m else x.f2) xs
theorem shLength_l0 (l : List S34) (hl : l.length ≤ 1048576) : ∀ (suf pre : List S34) (m : Int), pre ++ suf = l →
    Ev (fun k => spec_shLength.l0 k m l l.length pre.length) (lenFrom m suf) ∧ Ev (fun k => impl_sheetLength.l0 k m l l.length pre.length) (lenFrom m suf) := by
  intro suf
  induction suf with
  | nil =>
    intro pre m h
    have hn : ¬ ((pre.length : Int) < (l.length : Int)) := by rw [← h]; simp
    refine ⟨Ev.fuel ?_, Ev.fuel ?_⟩
    · simp only [spec_shLength.l0, hn, ↓reduceIte]; exact Ev.now _
    · simp only [impl_sheetLength.l0, hn, ↓reduceIte]; exact Ev.now _
  | cons x suf ih =>
    intro pre m h
    have hlen : l.length = pre.length + (suf.length + 1) := by rw [← h]; simp
    have h1 : (pre.length : Int) < (l.length : Int) := by omega
    have h2 : (0 : Int) ≤ (pre.length : Int) := by omega
    have h3 : rd_T34 l (pre.length : Int) = x := by rw [← h]; exact getD_mid _ _ _ _
    obtain ⟨e1, e2⟩ := ih (pre ++ [x]) (if m > x.f2 then m else x.f2) (by rw [← h]; simp)
    have ec : ((pre ++ [x]).length : Int) = ((pre.length + 1 : Nat) : Int) := by simp
    rw [ec] at e1 e2
    refine ⟨Ev.fuel ?_, Ev.fuel ?_⟩
    · have em : spec_l1Most.f m x.f2 = some (if m > x.f2 then m else x.f2) := by unfold spec_l1Most.f; split <;> rfl
      simp only [spec_shLength.l0, h1, h2, h3, ↓reduceIte, wn pre.length (by omega), em, Option.bind_some]
      exact e1
    · have em : mx m x.f2 = if m > x.f2 then m else x.f2 := by unfold mx; (repeat' split) <;> omega
      simp only [impl_sheetLength.l0, h1, h2, h3, ↓reduceIte, wn pre.length (by omega), em]
      exact e2
theorem reverseLaw_ev (l : List S34) (b : Int) (hl : l.length ≤ 1048576) : ∃ r0 r1, r0.length ≤ 1048576 ∧ Ev (fun k => spec_ReverseSheet.f k l b) (r0, r1) ∧ Ev (fun k => impl_ReverseSheet.f k l b) (r0, r1) := by
  obtain ⟨s1, s2⟩ := shLength_l0 l hl l [] 0 rfl
  have s1' : Ev (fun k => spec_shLength.f k l) (lenFrom 0 l) := by unfold spec_shLength.f; exact s1
  have s2' : Ev (fun k => impl_sheetLength.f k l) (lenFrom 0 l) := by unfold impl_sheetLength.f; exact s2
  unfold spec_ReverseSheet.f impl_ReverseSheet.f
  have jT : Ev (fun k => spec_ReverseSheet.j0 k l b true) ([], false) := by refine Ev.fuel ?_; simp only [spec_ReverseSheet.j0, ↓reduceIte]; exact Ev.now _
  have jT' : Ev (fun k => impl_ReverseSheet.j0 k l b true) ([], false) := by refine Ev.fuel ?_; simp only [impl_ReverseSheet.j0, ↓reduceIte]; exact Ev.now _
  by_cases hg : goodSheet l = true
  · by_cases hb : lenFrom 0 l ≤ b ∧ b ≤ 2000
    · refine ⟨(sheetRes (l.map (rev1 b))).1, (sheetRes (l.map (rev1 b))).2, sheetRes_len _, ?_, ?_⟩
      · refine Ev.bind (shGood_ev l hl) ?_
        simp only [hg, ↓reduceIte]
        refine Ev.bind s1' ?_
        simp only [l1In_h, Option.bind_some, hb, and_self, decide_true, Bool.not_true]
        refine Ev.fuel ?_
        simp only [spec_ReverseSheet.j0, Bool.false_eq_true, ↓reduceIte]
        exact spec_ReverseSheet_l0 l b hl l [] rfl
      · refine Ev.bind (IsSheet_ev l hl) ?_
        simp only [hg, ↓reduceIte]
        refine Ev.bind s2' ?_
        simp only [show ¬ b < lenFrom 0 l from by omega, ↓reduceIte, show ¬ b > 2000 from by omega, decide_false]
        refine Ev.fuel ?_
        simp only [impl_ReverseSheet.j0, Bool.false_eq_true, ↓reduceIte]
        exact impl_ReverseSheet_l0 l b hl l [] rfl
    · refine ⟨[], false, by simp, ?_, ?_⟩
      · refine Ev.bind (shGood_ev l hl) ?_
        simp only [hg, ↓reduceIte]
        refine Ev.bind s1' ?_
        simp only [l1In_h, Option.bind_some, hb, decide_false, Bool.not_false]
        exact jT
      · refine Ev.bind (IsSheet_ev l hl) ?_
        simp only [hg, ↓reduceIte]
        refine Ev.bind s2' ?_
        by_cases h1 : b < lenFrom 0 l
        · simp only [h1, ↓reduceIte]; exact jT'
        · simp only [h1, ↓reduceIte, show b > 2000 from by omega, decide_true]; exact jT'
  · refine ⟨[], false, by simp, ?_, ?_⟩
    · refine Ev.bind (shGood_ev l hl) ?_
      simp only [hg, Bool.false_eq_true, ↓reduceIte]
      exact jT
    · refine Ev.bind (IsSheet_ev l hl) ?_
      simp only [hg, Bool.false_eq_true, ↓reduceIte]
      exact jT'
def cutA (a : Int) (x : S34) : Int := if x.f1 > a then x.f1 else a
def cutB (b : Int) (x : S34) : Int := if x.f2 < b then x.f2 else b
def cut1 (a b : Int) (x : S34) : Option S34 := if cutA a x < cutB b x then some ⟨x.f0, wrap64 (cutA a x - a), wrap64 (cutB b x - a)⟩ else none
theorem cut_l0 (l : List S34) (a b : Int) (hl : l.length ≤ 1048576) : ∀ (suf pre : List S34), pre ++ suf = l →
    Ev (fun k => spec_shCut.l0 k a b (pre.filterMap (cut1 a b)) l l.length pre.length) (sheetRes (l.filterMap (cut1 a b))).1 ∧ Ev (fun k => impl_CutSheet.l0 k a b (pre.filterMap (cut1 a b)) l l.length pre.length) (sheetRes (l.filterMap (cut1 a b))) := by
  intro suf
  induction suf with
  | nil =>
    intro pre h
    have hn : ¬ ((pre.length : Int) < (l.length : Int)) := by rw [← h]; simp
    have hz : (l.filterMap (cut1 a b)).length ≤ 1048576 := Nat.le_trans (List.length_filterMap_le _ _) hl
    have e : pre = l := by rw [← h]; simp
    refine ⟨Ev.fuel ?_, Ev.fuel ?_⟩
    · simp only [spec_shCut.l0, hn, ↓reduceIte]
      rw [e]
      exact Ev.bind (shSorted_ev _ hz) (Ev.now _)
    · simp only [impl_CutSheet.l0, hn, ↓reduceIte]
      rw [e]
      exact Ev.bind (sheetOf_ev _ hz) (Ev.now _)
  | cons x suf ih =>
    intro pre h
    have hlen : l.length = pre.length + (suf.length + 1) := by rw [← h]; simp
    have h1 : (pre.length : Int) < (l.length : Int) := by omega
    have h2 : (0 : Int) ≤ (pre.length : Int) := by omega
    have h3 : rd_T34 l (pre.length : Int) = x := by rw [← h]; exact getD_mid _ _ _ _
    have hfl := List.length_filterMap_le (cut1 a b) pre
    have h4 : (pre.filterMap (cut1 a b)).length < 5864062014805 := by omega
    have ec : ((pre ++ [x]).length : Int) = ((pre.length + 1 : Nat) : Int) := by simp
    have ef : (pre ++ [x]).filterMap (cut1 a b) = pre.filterMap (cut1 a b) ++ [x].filterMap (cut1 a b) := List.filterMap_append
    obtain ⟨e1, e2⟩ := ih (pre ++ [x]) (by rw [← h]; simp)
    rw [ec, ef] at e1 e2
    generalize sheetRes (l.filterMap (cut1 a b)) = R at e1 e2 ⊢
    generalize pre.filterMap (cut1 a b) = M at e1 e2 h4 ⊢
    refine ⟨Ev.fuel ?_, Ev.fuel ?_⟩
    · have em : spec_l1Most.f x.f1 a = some (cutA a x) := by unfold spec_l1Most.f cutA; split <;> rfl
      have en : spec_l1Least.f x.f2 b = some (cutB b x) := by unfold spec_l1Least.f cutB; split <;> rfl
      simp only [spec_shCut.l0, h1, h2, h3, h4, ↓reduceIte, wn pre.length (by omega), em, en, Option.bind_some]
      by_cases hc : cutA a x < cutB b x
      · simp only [hc, ↓reduceIte]
        simp only [List.filterMap_cons, cut1, hc, ↓reduceIte, List.filterMap_nil] at e1
        exact e1
      · simp only [hc, ↓reduceIte]
        simp only [List.filterMap_cons, cut1, hc, ↓reduceIte, List.filterMap_nil, List.append_nil] at e1
        exact e1
    · have em : mx x.f1 a = cutA a x := by unfold mx cutA; (repeat' split) <;> omega
      have en : mn x.f2 b = cutB b x := by unfold mn cutB; (repeat' split) <;> omega
      simp only [impl_CutSheet.l0, h1, h2, h3, h4, ↓reduceIte, wn pre.length (by omega), em, en]
      by_cases hc : cutA a x < cutB b x
      · simp only [hc, ↓reduceIte]
        simp only [List.filterMap_cons, cut1, hc, ↓reduceIte, List.filterMap_nil] at e2
        exact e2
      · simp only [hc, ↓reduceIte]
        simp only [List.filterMap_cons, cut1, hc, ↓reduceIte, List.filterMap_nil, List.append_nil] at e2
        exact e2
theorem cut1_spec {a b : Int} {x y : S34} (ha : 0 ≤ a ∧ a ≤ 1999) (hb : a < b ∧ b ≤ 2000) (hx : holeB x = true) (h : cut1 a b x = some y) : y.f0 = x.f0 ∧ y.f1 + a = cutA a x ∧ y.f2 + a = cutB b x ∧ cutA a x < cutB b x ∧ holeB y = true := by
  have bx := (holeB_iff x).1 hx
  unfold cut1 at h
  split at h
  · rename_i hlt
    cases h
    have h1 : a ≤ cutA a x ∧ cutA a x ≤ 2000 := by unfold cutA; split <;> omega
    have h2 : cutB b x ≤ 2000 ∧ 0 ≤ cutB b x := by unfold cutB; split <;> omega
    simp only
    rw [holeB_iff]
    simp only
    rw [w_id (x := cutA a x - a) (by omega) (by omega), w_id (x := cutB b x - a) (by omega) (by omega)]
    refine ⟨trivial, ?_⟩
    omega
  · cases h
theorem cut_good {l : List S34} {a b : Int} (hg : goodSheet l = true) (ha : 0 ≤ a ∧ a ≤ 1999) (hb : a < b ∧ b ≤ 2000) : goodSheet (SA.isort SHole.ltB (l.filterMap (cut1 a b))) = true := by
  have hall := goodSheet_all hg
  refine apart_good ?_ ?_ (Nat.le_trans (List.length_filterMap_le _ _) (goodSheet_len hg))
  · intro y hy
    obtain ⟨x, hx, he⟩ := List.mem_filterMap.1 hy
    exact (cut1_spec ha hb (hall x hx) he).2.2.2.2
  · rw [List.pairwise_filterMap]
    refine List.Pairwise.imp_of_mem (R := apartH) ?_ (good_apart hg)
    intro x y hx hy hxy x' hx' y' hy' e
    obtain ⟨p0, p1, p2, p3, _⟩ := cut1_spec ha hb (hall x hx) hx'
    obtain ⟨q0, q1, q2, q3, _⟩ := cut1_spec ha hb (hall y hy) hy'
    have ax1 : x.f1 ≤ cutA a x := by unfold cutA; split <;> omega
    have bx1 : cutB b x ≤ x.f2 := by unfold cutB; split <;> omega
    have ay1 : y.f1 ≤ cutA a y := by unfold cutA; split <;> omega
    have by1 : cutB b y ≤ y.f2 := by unfold cutB; split <;> omega
    have := hxy (by omega)
    omega
theorem cutLaw_ev (l : List S34) (a b : Int) (hl : l.length ≤ 1048576) (ha64 : (Lit.int .i64 a).wf = true) : ∃ r0 r1, r0.length ≤ 1048576 ∧ Ev (fun k => spec_CutSheet.f k l a b) (r0, r1) ∧ Ev (fun k => impl_CutSheet.f k l a b) (r0, r1) := by
  obtain ⟨c1, c2⟩ := cut_l0 l a b hl l [] rfl
  have c1' : Ev (fun k => spec_shCut.f k l a b) (sheetRes (l.filterMap (cut1 a b))).1 := by unfold spec_shCut.f; exact c1
  have hst : spec_shStep.f a = some (decide (0 ≤ a ∧ a ≤ 1999)) := by unfold spec_shStep.f; rw [l1In_h]; rfl
  unfold spec_CutSheet.f impl_CutSheet.f
  have jT' : Ev (fun k => impl_CutSheet.j0 k l a b true) ([], false) := by refine Ev.fuel ?_; simp only [impl_CutSheet.j0, ↓reduceIte]; exact Ev.now _
  by_cases hg : goodSheet l = true
  · by_cases hab : (0 ≤ a ∧ a ≤ 1999) ∧ (a < b ∧ b ≤ 2000)
    · obtain ⟨ha, hb⟩ := hab
      have hr : sheetRes (l.filterMap (cut1 a b)) = ((sheetRes (l.filterMap (cut1 a b))).1, true) := by
        unfold sheetRes
        rw [if_pos (cut_good hg ha hb)]
      refine ⟨(sheetRes (l.filterMap (cut1 a b))).1, true, sheetRes_len _, ?_, ?_⟩
      · refine Ev.bind (shGood_ev l hl) ?_
        simp only [hg, ↓reduceIte, hst, Option.bind_some, ha, and_self, decide_true, l1In_h, w_id (x := a + 1) (by omega) (by omega), show a + 1 ≤ b from by omega, hb.2]
        exact Ev.bind c1' (Ev.now _)
      · refine Ev.bind (IsSheet_ev l hl) ?_
        simp only [hg, ↓reduceIte, show ¬ a < 0 from by omega, show ¬ a ≥ b from by omega, show ¬ b > 2000 from by omega, decide_false]
        refine Ev.fuel ?_
        simp only [impl_CutSheet.j0, Bool.false_eq_true, ↓reduceIte]
        rw [hr] at c2
        exact c2
    · refine ⟨[], false, by simp, ?_, ?_⟩
      · refine Ev.bind (shGood_ev l hl) ?_
        simp only [hg, ↓reduceIte, hst, Option.bind_some]
        by_cases ha : 0 ≤ a ∧ a ≤ 1999
        · have hb : ¬ (a + 1 ≤ b ∧ b ≤ 2000) := fun h => hab ⟨ha, by omega⟩
          simp only [ha, and_self, decide_true, ↓reduceIte, l1In_h, w_id (x := a + 1) (by omega) (by omega), hb, decide_false, Option.bind_some, Bool.false_eq_true]
          exact Ev.now _
        · simp only [ha, decide_false, Bool.false_eq_true, ↓reduceIte]
          exact Ev.now _
      · refine Ev.bind (IsSheet_ev l hl) ?_
        simp only [hg, ↓reduceIte]
        by_cases h1 : a < 0
        · simp only [h1, ↓reduceIte]; exact jT'
        · by_cases h2 : a ≥ b
          · simp only [h1, h2, ↓reduceIte]; exact jT'
          · simp only [h1, h2, ↓reduceIte, show b > 2000 from by omega, decide_true]; exact jT'
  · refine ⟨[], false, by simp, ?_, ?_⟩
    · refine Ev.bind (shGood_ev l hl) ?_
      simp only [hg, Bool.false_eq_true, ↓reduceIte]
      exact Ev.now _
    · refine Ev.bind (IsSheet_ev l hl) ?_
      simp only [hg, Bool.false_eq_true, ↓reduceIte]
      exact jT'
end Go.Proofs.Ytllhnffkipnofaa.S
