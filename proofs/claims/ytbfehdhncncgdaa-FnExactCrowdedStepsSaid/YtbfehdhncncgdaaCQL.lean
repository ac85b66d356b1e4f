/- Plain facts on sheets: which holes are a sheet, and how long a track is open. No condition. -/
import Derived.Test.YtbfehdhncncgdaaC0
import Derived.Test.YtbfehdhncncgdaaC1
import Derived.Test.YtbfehdhncncgdaaC2
import Derived.Test.YtbfehdhncncgdaaCQB
set_option linter.unusedVariables false
set_option linter.unusedSimpArgs false
namespace Go.Proofs.Ytbfehdhncncgdaa.C
open Go.RowKit Go.Proofs.YtbfehdhncncgdaaW.PrintWords Go.Proofs.YtbfehdhncncgdaaW.PrintLast Go.Proofs.YtbfehdhncncgdaaW.PrintMore

def holeB (x : S64) : Bool := decide (0 ≤ x.f0 ∧ x.f0 ≤ 19 ∧ 0 ≤ x.f1 ∧ x.f1 < x.f2 ∧ x.f2 ≤ 2000)
def holeLt (a b : S64) : Bool := decide (a.f1 < b.f1 ∨ a.f1 = b.f1 ∧ a.f0 < b.f0)
def touchB (x y : S64) : Bool := decide (x.f0 = y.f0 ∧ y.f2 ≥ x.f1)
theorem holeB_iff (x : S64) : holeB x = true ↔ (0 ≤ x.f0 ∧ x.f0 ≤ 19 ∧ 0 ≤ x.f1 ∧ x.f1 < x.f2 ∧ x.f2 ≤ 2000) := by simp [holeB]
theorem holeLt_iff (a b : S64) : holeLt a b = true ↔ (a.f1 < b.f1 ∨ a.f1 = b.f1 ∧ a.f0 < b.f0) := by simp [holeLt]
theorem l1In_h (a b c : Int) : spec_l1In.f a b c = some (decide (b ≤ a ∧ a ≤ c)) := by
  unfold spec_l1In.f
  by_cases h : a ≥ b
  · rw [if_pos h]; exact dec_eq (by omega)
  · rw [if_neg h]; exact dec_f (by omega)
theorem shHole_eq (t a b : Int) : spec_shHole.f t a b = some (holeB ⟨t, a, b⟩) := by
  unfold spec_shHole.f holeB
  simp only [l1In_h, Option.bind_some, decide_eq_true_eq]
  by_cases h1 : 0 ≤ t ∧ t ≤ 19
  · by_cases h2 : 0 ≤ a ∧ a ≤ 1999
    · simp only [h1.1, h1.2, h2.1, h2.2, and_self, ↓reduceIte, w_id (x := a + 1) (by omega) (by omega), true_and]
      exact dec_eq (by omega)
    · simp only [h1, h2, and_self, ↓reduceIte]; exact dec_f (by omega)
  · simp only [h1, ↓reduceIte]; exact dec_f (by omega)
theorem isTrackH_eq (a : Int) : impl_isTrack.f a = some (decide (0 ≤ a ∧ a ≤ 19)) := by
  unfold impl_isTrack.f
  split <;> (first | exact dec_eq (by omega) | exact dec_f (by omega))
theorem IsHole_eq (t a b : Int) : impl_IsHole.f t a b = some (holeB ⟨t, a, b⟩) := by
  unfold impl_IsHole.f holeB
  simp only [isTrackH_eq, Option.bind_some, decide_eq_true_eq]
  (repeat' split) <;> (first | exact dec_eq (by omega) | exact dec_f (by omega))
theorem shBefore_eq (a b : S64) : spec_shBefore.f a.f0 a.f1 a.f2 b.f0 b.f1 b.f2 = some (holeLt a b) := by
  unfold spec_shBefore.f holeLt
  (repeat' split) <;> (first | exact dec_eq (by omega) | exact dec_f (by omega) | exact dec_t (by omega))
theorem holeLess_eq (a b : S64) : impl_holeLess.f a.f0 a.f1 a.f2 b.f0 b.f1 b.f2 = some (holeLt a b) := by
  unfold impl_holeLess.f holeLt
  (repeat' split) <;> (first | exact dec_eq (by omega) | exact dec_f (by omega) | exact dec_t (by omega))
/-- Behind these holes, are the next ones a sheet? -/
def sheetFrom : List S64 → List S64 → Bool
  | _, [] => true
  | pre, x :: xs => holeB x && ((match pre.getLast? with | none => true | some y => holeLt y x) && (!(pre.any (touchB x)) && sheetFrom (pre ++ [x]) xs))
def goodSheet (l : List S64) : Bool := sheetFrom [] l && decide (l.length ≤ 60)
theorem shGood_l1 (l : List S64) (hl : l.length ≤ 1048576) (x : S64) (ni : Int) (p : List S64) (hpl : p.length ≤ 1048576) (r : Bool)
    (hr : Ev (fun k => spec_shGood.l0 k l l l.length (wrap64 (ni + 1))) r) : ∀ (suf pre : List S64), pre ++ suf = p →
    Ev (fun k => spec_shGood.l1 k l l l.length ni p p.length pre.length x.f0 x.f1 x.f2) (!(suf.any (touchB x)) && r) := by
  intro suf
  induction suf with
  | nil =>
    intro pre h
    have hn : ¬ ((pre.length : Int) < (p.length : Int)) := by rw [← h]; simp
    refine Ev.fuel ?_
    simp only [spec_shGood.l1, hn, ↓reduceIte, List.any_nil, Bool.not_false, Bool.true_and]
    exact hr
  | cons y suf ih =>
    intro pre h
    have hlen : p.length = pre.length + (suf.length + 1) := by rw [← h]; simp
    have h1 : (pre.length : Int) < (p.length : Int) := by omega
    have h2 : (0 : Int) ≤ (pre.length : Int) := by omega
    have h3 : rd_T64 p (pre.length : Int) = y := by rw [← h]; exact getD_mid _ _ _ _
    have e : Ev (fun k => spec_shGood.l1 k l l l.length ni p p.length ((pre.length + 1 : Nat) : Int) x.f0 x.f1 x.f2) (!(suf.any (touchB x)) && r) := by simpa using ih (pre ++ [y]) (by rw [← h]; simp)
    refine Ev.fuel ?_
    simp only [spec_shGood.l1, h1, h2, h3, ↓reduceIte, wn pre.length (by omega), List.any_cons]
    by_cases hm : x.f0 = y.f0
    · by_cases hq : y.f2 ≥ x.f1
      · rw [show touchB x y = true from by simp only [touchB, decide_eq_true_eq]; exact ⟨hm, hq⟩]
        simp only [hm, hq, ↓reduceIte, Bool.true_or, Bool.not_true, Bool.false_and]; exact Ev.now _
      · rw [show touchB x y = false from by simp only [touchB, decide_eq_false_iff_not]; omega]
        rw [hm] at e ⊢
        simp only [hq, ↓reduceIte, Bool.false_or]; exact e
    · rw [show touchB x y = false from by simp only [touchB, decide_eq_false_iff_not]; omega]
      simp only [hm, ↓reduceIte, Bool.false_or]; exact e
theorem shGood_l0 (l : List S64) (hl : l.length ≤ 1048576) : ∀ (suf pre : List S64), pre ++ suf = l →
    Ev (fun k => spec_shGood.l0 k l l l.length pre.length) (sheetFrom pre suf && decide (l.length ≤ 60)) := by
  intro suf
  induction suf with
  | nil =>
    intro pre h
    have hn : ¬ ((pre.length : Int) < (l.length : Int)) := by rw [← h]; simp
    refine Ev.fuel ?_
    simp only [spec_shGood.l0, hn, ↓reduceIte, sheetFrom, Bool.true_and]
    exact Ev.const (dec_eq (by omega))
  | cons x suf ih =>
    intro pre h
    have hlen : l.length = pre.length + (suf.length + 1) := by rw [← h]; simp
    have h1 : (pre.length : Int) < (l.length : Int) := by omega
    have h2 : (0 : Int) ≤ (pre.length : Int) := by omega
    have h3 : rd_T64 l (pre.length : Int) = x := by rw [← h]; exact getD_mid _ _ _ _
    have jT : Ev (fun k => spec_shGood.j1 k l pre.length l l.length pre.length true x.f0 x.f1 x.f2) false := by
      refine Ev.fuel ?_; simp only [spec_shGood.j1, ↓reduceIte]; exact Ev.now _
    refine Ev.fuel ?_
    simp only [spec_shGood.l0, h1, h2, h3, ↓reduceIte, shHole_eq, Option.bind_some, sheetFrom]
    by_cases hx : holeB x = true
    · have jF : Ev (fun k => spec_shGood.j1 k l pre.length l l.length pre.length false x.f0 x.f1 x.f2) (!(pre.any (touchB x)) && (sheetFrom (pre ++ [x]) suf && decide (l.length ≤ 60))) := by
        have c1 : (pre.length : Int) ≤ (l.length : Int) := by omega
        have tk : l.take ((pre.length : Int)).toNat = pre := by rw [← h]; simp
        refine Ev.fuel ?_
        simp only [spec_shGood.j1, Bool.false_eq_true, ↓reduceIte, h2, c1, tk, Option.bind_some]
        have e := ih (pre ++ [x]) (by rw [← h]; simp)
        refine shGood_l1 l hl x _ pre (by omega) _ ?_ pre [] rfl
        rw [wn pre.length (by omega)]
        simpa using e
      simp only [hx, ↓reduceIte, Bool.true_and]
      rcases nil_or_snoc pre with rfl | ⟨pre', y, rfl⟩
      · simp only [List.length_nil, Int.natCast_zero, Int.lt_irrefl, gt_iff_lt, ↓reduceIte, List.getLast?_nil, Bool.true_and]
        simpa using jF
      · have hc : (pre' ++ [y]).length = pre'.length + 1 := by simp
        have g1 : ((pre' ++ [y]).length : Int) > 0 := by omega
        have g2 : wrap64 (((pre' ++ [y]).length : Int) - 1) = (pre'.length : Int) := by rw [w_id (by omega) (by omega)]; omega
        have g3 : (0 : Int) ≤ (pre'.length : Int) := by omega
        have g4 : (pre'.length : Int) < (l.length : Int) := by omega
        have g5 : rd_T64 l (pre'.length : Int) = y := by rw [← h, List.append_assoc]; exact getD_mid _ _ _ _
        have gl : (pre' ++ [y]).getLast? = some y := by simp
        simp only [g1, g2, g3, g4, g5, gl, ↓reduceIte, shBefore_eq, Option.bind_some]
        by_cases hy : holeLt y x = true
        · simp only [hy, Bool.not_true, Bool.true_and, Bool.and_assoc]; exact jF
        · simp only [Bool.eq_false_iff.mpr hy, Bool.not_false, Bool.false_and]; exact jT
    · simp only [Bool.eq_false_iff.mpr hx, Bool.false_eq_true, ↓reduceIte, Bool.false_and]; exact jT
theorem shGood_ev (l : List S64) (hl : l.length ≤ 1048576) : Ev (fun k => spec_shGood.f k l) (goodSheet l) := by
  unfold spec_shGood.f
  exact shGood_l0 l hl l [] rfl
theorem IsSheet_l1 (l : List S64) (hl : l.length ≤ 1048576) (x : S64) (ni : Int) (p : List S64) (hpl : p.length ≤ 1048576) (r : Bool)
    (hr : Ev (fun k => impl_IsSheet.l0 k l l l.length (wrap64 (ni + 1))) r) : ∀ (suf pre : List S64), pre ++ suf = p →
    Ev (fun k => impl_IsSheet.l1 k l l l.length ni p p.length pre.length x.f0 x.f1 x.f2) (!(suf.any (touchB x)) && r) := by
  intro suf
  induction suf with
  | nil =>
    intro pre h
    have hn : ¬ ((pre.length : Int) < (p.length : Int)) := by rw [← h]; simp
    refine Ev.fuel ?_
    simp only [impl_IsSheet.l1, hn, ↓reduceIte, List.any_nil, Bool.not_false, Bool.true_and]
    exact hr
  | cons y suf ih =>
    intro pre h
    have hlen : p.length = pre.length + (suf.length + 1) := by rw [← h]; simp
    have h1 : (pre.length : Int) < (p.length : Int) := by omega
    have h2 : (0 : Int) ≤ (pre.length : Int) := by omega
    have h3 : rd_T64 p (pre.length : Int) = y := by rw [← h]; exact getD_mid _ _ _ _
    have e : Ev (fun k => impl_IsSheet.l1 k l l l.length ni p p.length ((pre.length + 1 : Nat) : Int) x.f0 x.f1 x.f2) (!(suf.any (touchB x)) && r) := by simpa using ih (pre ++ [y]) (by rw [← h]; simp)
    refine Ev.fuel ?_
    simp only [impl_IsSheet.l1, h1, h2, h3, ↓reduceIte, wn pre.length (by omega), List.any_cons]
    by_cases hm : y.f0 = x.f0
    · by_cases hq : y.f2 ≥ x.f1
      · rw [show touchB x y = true from by simp only [touchB, decide_eq_true_eq]; exact ⟨hm.symm, hq⟩]
        simp only [hm, hq, ↓reduceIte, Bool.true_or, Bool.not_true, Bool.false_and]; exact Ev.now _
      · rw [show touchB x y = false from by simp only [touchB, decide_eq_false_iff_not]; omega]
        simp only [hm, hq, ↓reduceIte, Bool.false_or]; exact e
    · rw [show touchB x y = false from by simp only [touchB, decide_eq_false_iff_not]; omega]
      simp only [hm, ↓reduceIte, Bool.false_or]; exact e
theorem IsSheet_l0 (l : List S64) (hl : l.length ≤ 1048576) : ∀ (suf pre : List S64), pre ++ suf = l →
    Ev (fun k => impl_IsSheet.l0 k l l l.length pre.length) (sheetFrom pre suf) := by
  intro suf
  induction suf with
  | nil =>
    intro pre h
    have hn : ¬ ((pre.length : Int) < (l.length : Int)) := by rw [← h]; simp
    refine Ev.fuel ?_
    simp only [impl_IsSheet.l0, hn, ↓reduceIte, sheetFrom]
    exact Ev.now _
  | cons x suf ih =>
    intro pre h
    have hlen : l.length = pre.length + (suf.length + 1) := by rw [← h]; simp
    have h1 : (pre.length : Int) < (l.length : Int) := by omega
    have h2 : (0 : Int) ≤ (pre.length : Int) := by omega
    have h3 : rd_T64 l (pre.length : Int) = x := by rw [← h]; exact getD_mid _ _ _ _
    have jT : Ev (fun k => impl_IsSheet.j1 k l pre.length l l.length pre.length true x.f0 x.f1 x.f2) false := by
      refine Ev.fuel ?_; simp only [impl_IsSheet.j1, ↓reduceIte]; exact Ev.now _
    refine Ev.fuel ?_
    simp only [impl_IsSheet.l0, h1, h2, h3, ↓reduceIte, IsHole_eq, Option.bind_some, sheetFrom]
    by_cases hx : holeB x = true
    · have jF : Ev (fun k => impl_IsSheet.j1 k l pre.length l l.length pre.length false x.f0 x.f1 x.f2) (!(pre.any (touchB x)) && sheetFrom (pre ++ [x]) suf) := by
        have c1 : (pre.length : Int) ≤ (l.length : Int) := by omega
        have tk : l.take ((pre.length : Int)).toNat = pre := by rw [← h]; simp
        refine Ev.fuel ?_
        simp only [impl_IsSheet.j1, Bool.false_eq_true, ↓reduceIte, h2, c1, tk, Option.bind_some]
        have e := ih (pre ++ [x]) (by rw [← h]; simp)
        refine IsSheet_l1 l hl x _ pre (by omega) _ ?_ pre [] rfl
        rw [wn pre.length (by omega)]
        simpa using e
      simp only [hx, ↓reduceIte, Bool.true_and]
      rcases nil_or_snoc pre with rfl | ⟨pre', y, rfl⟩
      · simp only [List.length_nil, Int.natCast_zero, Int.lt_irrefl, gt_iff_lt, ↓reduceIte, List.getLast?_nil, Bool.true_and]
        simpa using jF
      · have hc : (pre' ++ [y]).length = pre'.length + 1 := by simp
        have g1 : ((pre' ++ [y]).length : Int) > 0 := by omega
        have g2 : wrap64 (((pre' ++ [y]).length : Int) - 1) = (pre'.length : Int) := by rw [w_id (by omega) (by omega)]; omega
        have g3 : (0 : Int) ≤ (pre'.length : Int) := by omega
        have g4 : (pre'.length : Int) < (l.length : Int) := by omega
        have g5 : rd_T64 l (pre'.length : Int) = y := by rw [← h, List.append_assoc]; exact getD_mid _ _ _ _
        have gl : (pre' ++ [y]).getLast? = some y := by simp
        simp only [g1, g2, g3, g4, g5, gl, ↓reduceIte, holeLess_eq, Option.bind_some]
        by_cases hy : holeLt y x = true
        · simp only [hy, Bool.not_true, Bool.true_and]; exact jF
        · simp only [Bool.eq_false_iff.mpr hy, Bool.not_false, Bool.false_and]; exact jT
    · simp only [Bool.eq_false_iff.mpr hx, Bool.false_eq_true, ↓reduceIte, Bool.false_and]; exact jT
theorem IsSheet_ev (l : List S64) (hl : l.length ≤ 1048576) : Ev (fun k => impl_IsSheet.f k l) (goodSheet l) := by
  unfold impl_IsSheet.f goodSheet
  by_cases h : (l.length : Int) > 60
  · simp only [h, ↓reduceIte, show ¬ l.length ≤ 60 from by omega, decide_false, Bool.and_false]; exact Ev.now _
  · simp only [h, ↓reduceIte, show l.length ≤ 60 from by omega, decide_true, Bool.and_true]
    exact IsSheet_l0 l hl l [] rfl
theorem sheetFrom_all : ∀ (l pre : List S64), sheetFrom pre l = true → ∀ x ∈ l, holeB x = true := by
  intro l
  induction l with
  | nil => intro pre _ x hx; simp at hx
  | cons y l ih =>
    intro pre h x hx
    simp only [sheetFrom, Bool.and_eq_true] at h
    rcases List.mem_cons.1 hx with rfl | hx
    · exact h.1
    · exact ih _ h.2.2.2 x hx
theorem goodSheet_all {l : List S64} (h : goodSheet l = true) : ∀ x ∈ l, holeB x = true := by
  simp only [goodSheet, Bool.and_eq_true] at h
  exact sheetFrom_all l _ h.1
theorem goodSheet_len {l : List S64} (h : goodSheet l = true) : l.length ≤ 60 := by
  simp only [goodSheet, Bool.and_eq_true, decide_eq_true_eq] at h
  exact h.2
end Go.Proofs.Ytbfehdhncncgdaa.C
