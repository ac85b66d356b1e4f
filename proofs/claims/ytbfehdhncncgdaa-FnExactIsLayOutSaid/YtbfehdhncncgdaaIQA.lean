import Derived.Test.YtbfehdhncncgdaaI0
import Derived.Test.YtbfehdhncncgdaaI2
import Derived.Test.YtbfehdhncncgdaaI3
import Derived.Test.YtbfehdhncncgdaaI4
import Derived.Test.YtbfehdhncncgdaaI5
import Derived.Test.YtbfehdhncncgdaaIQB
import Derived.Test.YtbfehdhncncgdaaI7
import Derived.Test.YtbfehdhncncgdaaI9
import Derived.Test.YtbfehdhncncgdaaI6
import Derived.Test.YtbfehdhncncgdaaI8
import Derived.Test.YtbfehdhncncgdaaI10
section
/- Plain facts on instruments: which are valid, where a pitch stands, the nearest and the folded pitch. No condition. -/
set_option linter.unusedVariables false
set_option linter.unusedSimpArgs false
namespace Go.Proofs.Ytbfehdhncncgdaa.I
open Go.RowKit Go.Proofs.YtbfehdhncncgdaaW.PrintWords Go.Proofs.YtbfehdhncncgdaaW.PrintLast Go.Proofs.YtbfehdhncncgdaaW.PrintMore

theorem l1In_eq (a b c : Int) : spec_l1In.f a b c = some (decide (b ≤ a ∧ a ≤ c)) := by
  unfold spec_l1In.f
  by_cases h : a ≥ b
  · rw [if_pos h]; exact dec_eq (by omega)
  · rw [if_neg h]; exact dec_f (by omega)
theorem ntPitch_eq (a : Int) : spec_ntPitch.f a = some (decide (24 ≤ a ∧ a ≤ 96)) := by unfold spec_ntPitch.f; rw [l1In_eq]; rfl
theorem isPitch_eq (a : Int) : impl_isPitch.f a = some (decide (24 ≤ a ∧ a ≤ 96)) := by
  unfold impl_isPitch.f
  split <;> (first | exact dec_eq (by omega) | exact dec_f (by omega))
def risFrom (lo hi : Int) : Option Int → List Int → Bool
  | _, [] => true
  | none, x :: xs => decide (lo ≤ x ∧ x ≤ hi) && risFrom lo hi (some x) xs
  | some y, x :: xs => decide (lo ≤ x ∧ x ≤ hi) && (decide (y < x) && risFrom lo hi (some x) xs)
theorem rising_l0 (l : List Int) (lo hi : Int) (hl : l.length ≤ 1048576) : ∀ (suf pre : List Int), pre ++ suf = l →
    Ev (fun k => spec_l1Rising.l0 k l lo hi l l.length pre.length) (risFrom lo hi pre.getLast? suf) := by
  intro suf
  induction suf with
  | nil =>
    intro pre h
    have hn : ¬ ((pre.length : Int) < (l.length : Int)) := by rw [← h]; simp
    refine Ev.fuel ?_
    simp only [spec_l1Rising.l0, hn, ↓reduceIte]
    refine Ev.const ?_
    cases pre.getLast? <;> rfl
  | cons x suf ih =>
    intro pre h
    have hlen : l.length = pre.length + (suf.length + 1) := by rw [← h]; simp
    have h1 : (pre.length : Int) < (l.length : Int) := by omega
    have h2 : (0 : Int) ≤ (pre.length : Int) := by omega
    have h3 : rd l (pre.length : Int) = x := by rw [← h]; exact getD_mid _ _ _ _
    have e' : Ev (fun k => spec_l1Rising.l0 k l lo hi l l.length ((pre.length + 1 : Nat) : Int)) (risFrom lo hi (some x) suf) := by simpa using ih (pre ++ [x]) (by rw [← h]; simp)
    refine Ev.fuel ?_
    simp only [spec_l1Rising.l0, h1, h2, h3, ↓reduceIte, l1In_eq, Option.bind_some, decide_eq_true_eq, wn pre.length (by omega)]
    by_cases hx : lo ≤ x ∧ x ≤ hi
    · simp only [hx, and_self, ↓reduceIte]
      rcases nil_or_snoc pre with rfl | ⟨pre', y, rfl⟩
      · simp only [List.length_nil, Int.natCast_zero, Int.lt_irrefl, gt_iff_lt, ↓reduceIte, List.getLast?_nil, risFrom, hx, and_self, decide_true, Bool.true_and]
        exact e'
      · have hc : (pre' ++ [y]).length = pre'.length + 1 := by simp
        have g1 : ((pre' ++ [y]).length : Int) > 0 := by omega
        have g2 : wrap64 (((pre' ++ [y]).length : Int) - 1) = (pre'.length : Int) := by rw [w_id (by omega) (by omega)]; omega
        have g3 : (0 : Int) ≤ (pre'.length : Int) := by omega
        have g4 : (pre'.length : Int) < (l.length : Int) := by omega
        have g5 : rd l (pre'.length : Int) = y := by rw [← h, List.append_assoc]; exact getD_mid _ _ _ _
        have gl : (pre' ++ [y]).getLast? = some y := by simp
        rw [gl]
        simp only [g1, g2, g3, g4, g5, ↓reduceIte, risFrom, hx, and_self, decide_true, Bool.true_and]
        by_cases hy : y < x
        · simp only [hy, show ¬ y ≥ x from by omega, ↓reduceIte, decide_true, Bool.true_and]; exact e'
        · simp only [hy, show y ≥ x from by omega, ↓reduceIte, decide_false, Bool.false_and]; exact Ev.now _
    · simp only [hx, ↓reduceIte]
      refine Ev.const ?_
      cases pre.getLast? <;> simp only [risFrom, hx, decide_false, Bool.false_and]
theorem rising_ev (l : List Int) (lo hi : Int) (hl : l.length ≤ 1048576) : Ev (fun k => spec_l1Rising.f k l lo hi) (risFrom lo hi none l) := by
  unfold spec_l1Rising.f
  exact rising_l0 l lo hi hl l [] rfl
def goodIns (l : List Int) (r : Int) : Bool := decide (1 ≤ l.length ∧ l.length ≤ 20) && (risFrom 24 96 none l && decide (1 ≤ r ∧ r ≤ 20))
theorem inGood_ev (l : List Int) (r : Int) (hl : l.length ≤ 1048576) : Ev (fun k => spec_inGood.f k l r) (goodIns l r) := by
  unfold spec_inGood.f goodIns
  simp only [l1In_eq, Option.bind_some, decide_eq_true_eq]
  by_cases h : (1 : Int) ≤ (l.length : Int) ∧ (l.length : Int) ≤ 20
  · have h' : 1 ≤ l.length ∧ l.length ≤ 20 := by omega
    simp only [h, h', and_self, ↓reduceIte, decide_true, Bool.true_and]
    refine Ev.bind (rising_ev l 24 96 hl) ?_
    by_cases hr : risFrom 24 96 none l = true
    · simp only [hr, ↓reduceIte, Bool.true_and]; exact Ev.now _
    · simp only [hr, ↓reduceIte, Bool.false_eq_true, Bool.false_and]; exact Ev.now _
  · have h' : ¬ (1 ≤ l.length ∧ l.length ≤ 20) := by omega
    simp only [h, h', ↓reduceIte, decide_false, Bool.false_and]; exact Ev.now _
theorem IsInstrument_l0 (l : List Int) (r : Int) (hl : l.length ≤ 1048576) : ∀ (suf pre : List Int), pre ++ suf = l →
    Ev (fun k => impl_IsInstrument.l0 k l l.length pre.length l r) (risFrom 24 96 pre.getLast? suf) := by
  intro suf
  induction suf with
  | nil =>
    intro pre h
    have hn : ¬ ((pre.length : Int) < (l.length : Int)) := by rw [← h]; simp
    refine Ev.fuel ?_
    simp only [impl_IsInstrument.l0, hn, ↓reduceIte]
    refine Ev.const ?_
    cases pre.getLast? <;> rfl
  | cons x suf ih =>
    intro pre h
    have hlen : l.length = pre.length + (suf.length + 1) := by rw [← h]; simp
    have h1 : (pre.length : Int) < (l.length : Int) := by omega
    have h2 : (0 : Int) ≤ (pre.length : Int) := by omega
    have h3 : rd l (pre.length : Int) = x := by rw [← h]; exact getD_mid _ _ _ _
    have e' : Ev (fun k => impl_IsInstrument.l0 k l l.length ((pre.length + 1 : Nat) : Int) l r) (risFrom 24 96 (some x) suf) := by simpa using ih (pre ++ [x]) (by rw [← h]; simp)
    refine Ev.fuel ?_
    simp only [impl_IsInstrument.l0, h1, h2, h3, ↓reduceIte, isPitch_eq, Option.bind_some, decide_eq_true_eq, wn pre.length (by omega)]
    by_cases hx : 24 ≤ x ∧ x ≤ 96
    · simp only [hx, and_self, ↓reduceIte]
      rcases nil_or_snoc pre with rfl | ⟨pre', y, rfl⟩
      · simp only [List.length_nil, Int.natCast_zero, Int.lt_irrefl, gt_iff_lt, ↓reduceIte, List.getLast?_nil, risFrom, hx, and_self, decide_true, Bool.true_and]
        exact e'
      · have hc : (pre' ++ [y]).length = pre'.length + 1 := by simp
        have g1 : ((pre' ++ [y]).length : Int) > 0 := by omega
        have g2 : wrap64 (((pre' ++ [y]).length : Int) - 1) = (pre'.length : Int) := by rw [w_id (by omega) (by omega)]; omega
        have g3 : (0 : Int) ≤ (pre'.length : Int) := by omega
        have g4 : (pre'.length : Int) < (l.length : Int) := by omega
        have g5 : rd l (pre'.length : Int) = y := by rw [← h, List.append_assoc]; exact getD_mid _ _ _ _
        have gl : (pre' ++ [y]).getLast? = some y := by simp
        rw [gl]
        simp only [g1, g2, g3, g4, g5, ↓reduceIte, risFrom, hx, and_self, decide_true, Bool.true_and]
        by_cases hy : y < x
        · simp only [hy, show ¬ x ≤ y from by omega, ↓reduceIte, decide_true, Bool.true_and]; exact e'
        · simp only [hy, show x ≤ y from by omega, ↓reduceIte, decide_false, Bool.false_and]; exact Ev.now _
    · simp only [hx, ↓reduceIte]
      refine Ev.const ?_
      cases pre.getLast? <;> simp only [risFrom, hx, decide_false, Bool.false_and]
theorem IsInstrument_ev (l : List Int) (r : Int) (hl : l.length ≤ 1048576) : Ev (fun k => impl_IsInstrument.f k l r) (goodIns l r) := by
  have jT : Ev (fun k => impl_IsInstrument.j0 k true l r) false := by
    refine Ev.fuel ?_; simp only [impl_IsInstrument.j0, ↓reduceIte]; exact Ev.now _
  unfold impl_IsInstrument.f goodIns
  by_cases h1 : (l.length : Int) < 1
  · simp only [h1, ↓reduceIte, show ¬ (1 ≤ l.length ∧ l.length ≤ 20) from by omega, decide_false, Bool.false_and]; exact jT
  · by_cases h2 : (l.length : Int) > 20
    · simp only [h1, h2, ↓reduceIte, show ¬ (1 ≤ l.length ∧ l.length ≤ 20) from by omega, decide_false, Bool.false_and]; exact jT
    · by_cases h3 : r < 1
      · simp only [h1, h2, h3, ↓reduceIte, show ¬ (1 ≤ r ∧ r ≤ 20) from by omega, decide_false, Bool.and_false]; exact jT
      · by_cases h4 : r > 20
        · simp only [h1, h2, h3, h4, ↓reduceIte, show ¬ (1 ≤ r ∧ r ≤ 20) from by omega, decide_false, decide_true, Bool.and_false]; exact jT
        · simp only [h1, h2, h3, h4, ↓reduceIte, show (1 ≤ r ∧ r ≤ 20) from by omega, show (1 ≤ l.length ∧ l.length ≤ 20) from by omega, and_self, decide_true, decide_false, Bool.and_true, Bool.true_and]
          refine Ev.fuel ?_
          simp only [impl_IsInstrument.j0, Bool.false_eq_true, ↓reduceIte]
          exact IsInstrument_l0 l r hl l [] rfl
theorem risFrom_all (lo hi : Int) : ∀ (l : List Int) (p : Option Int), risFrom lo hi p l = true → ∀ x ∈ l, lo ≤ x ∧ x ≤ hi := by
  intro l
  induction l with
  | nil => intro p _ x hx; simp at hx
  | cons y l ih =>
    intro p h x hx
    have h' : (lo ≤ y ∧ y ≤ hi) ∧ risFrom lo hi (some y) l = true := by
      cases p <;> simp only [risFrom, Bool.and_eq_true, decide_eq_true_eq] at h
      · exact h
      · exact ⟨h.1, h.2.2⟩
    rcases List.mem_cons.1 hx with rfl | hx
    · exact h'.1
    · exact ih _ h'.2 x hx
theorem goodIns_iff (l : List Int) (r : Int) : goodIns l r = true ↔ (1 ≤ l.length ∧ l.length ≤ 20) ∧ risFrom 24 96 none l = true ∧ 1 ≤ r ∧ r ≤ 20 := by
  simp only [goodIns, Bool.and_eq_true, decide_eq_true_eq]
theorem goodIns_all {l : List Int} {r : Int} (h : goodIns l r = true) : ∀ x ∈ l, 24 ≤ x ∧ x ≤ 96 := risFrom_all 24 96 l _ ((goodIns_iff l r).1 h).2.1

/-! where a number stands -/
def idxFrom (v : Int) : List Int → Int → Int
  | [], _ => -1
  | x :: xs, i => if x = v then i else idxFrom v xs (i + 1)
theorem idxFrom_neg (v : Int) : ∀ (l : List Int) (i : Int), 0 ≤ i → (idxFrom v l i < 0 ↔ v ∉ l) := by
  intro l
  induction l with
  | nil => intro i h; simp [idxFrom]
  | cons x xs ih =>
    intro i h
    simp only [idxFrom, List.mem_cons, not_or]
    by_cases hx : x = v
    · subst hx; simp; omega
    · rw [if_neg hx, ih (i + 1) (by omega)]
      exact ⟨fun q => ⟨fun e => hx e.symm, q⟩, fun q => q.2⟩
theorem idxFrom_ge (v : Int) : ∀ (l : List Int) (i : Int), 0 ≤ i → -1 ≤ idxFrom v l i ∧ idxFrom v l i < i + l.length ∨ idxFrom v l i = -1 := by
  intro l
  induction l with
  | nil => intro i h; simp [idxFrom]
  | cons x xs ih =>
    intro i h
    simp only [idxFrom, List.length_cons]
    split
    · left; omega
    · have := ih (i + 1) (by omega)
      omega
theorem Index_l0 (l : List Int) (v : Int) (hl : l.length ≤ 1048576) : ∀ (suf pre : List Int), pre ++ suf = l →
    Ev (fun k => slices_Index_int_int.l0 k l v l.length pre.length) (idxFrom v suf pre.length) := by
  intro suf
  induction suf with
  | nil =>
    intro pre h
    have hn : ¬ ((pre.length : Int) < (l.length : Int)) := by rw [← h]; simp
    refine Ev.fuel ?_
    simp only [slices_Index_int_int.l0, hn, ↓reduceIte, idxFrom]
    exact Ev.now _
  | cons x suf ih =>
    intro pre h
    have hlen : l.length = pre.length + (suf.length + 1) := by rw [← h]; simp
    have h1 : (pre.length : Int) < (l.length : Int) := by omega
    have h2 : (0 : Int) ≤ (pre.length : Int) := by omega
    have h3 : rd l (pre.length : Int) = x := by rw [← h]; exact getD_mid _ _ _ _
    refine Ev.fuel ?_
    by_cases hx : x = v
    · subst hx
      simp only [slices_Index_int_int.l0, h1, h2, h3, ↓reduceIte, idxFrom]; exact Ev.now _
    · have hx' : ¬ v = x := fun e => hx e.symm
      simp only [slices_Index_int_int.l0, h1, h2, h3, ↓reduceIte, idxFrom, hx, hx', wn pre.length (by omega)]
      simpa using ih (pre ++ [x]) (by rw [← h]; simp)
theorem Index_ev (l : List Int) (v : Int) (hl : l.length ≤ 1048576) : Ev (fun k => slices_Index_int_int.f k l v) (idxFrom v l 0) := by
  unfold slices_Index_int_int.f
  exact Index_l0 l v hl l [] rfl
theorem Contains_ev (l : List Int) (v : Int) (hl : l.length ≤ 1048576) : Ev (fun k => slices_Contains_int_int.f k l v) (decide (v ∈ l)) := by
  unfold slices_Contains_int_int.f
  refine Ev.bind (Index_ev l v hl) (Ev.const ?_)
  have := idxFrom_neg v l 0 (by omega)
  exact dec_eq ⟨fun h => by by_cases q : v ∈ l; exact q; exact absurd (this.2 q) (by omega), fun h => by by_cases q : idxFrom v l 0 < 0; exact absurd h (this.1 q); omega⟩
theorem inTrack_l0 (l : List Int) (v : Int) (hl : l.length ≤ 1048576) : ∀ (suf pre : List Int), pre ++ suf = l →
    Ev (fun k => spec_inTrack.l0 k v l l.length pre.length) (idxFrom v suf pre.length) := by
  intro suf
  induction suf with
  | nil =>
    intro pre h
    have hn : ¬ ((pre.length : Int) < (l.length : Int)) := by rw [← h]; simp
    refine Ev.fuel ?_
    simp only [spec_inTrack.l0, hn, ↓reduceIte, idxFrom]
    exact Ev.now _
  | cons x suf ih =>
    intro pre h
    have hlen : l.length = pre.length + (suf.length + 1) := by rw [← h]; simp
    have h1 : (pre.length : Int) < (l.length : Int) := by omega
    have h2 : (0 : Int) ≤ (pre.length : Int) := by omega
    have h3 : rd l (pre.length : Int) = x := by rw [← h]; exact getD_mid _ _ _ _
    refine Ev.fuel ?_
    by_cases hx : x = v
    · simp only [spec_inTrack.l0, h1, h2, h3, ↓reduceIte, idxFrom, hx]; exact Ev.now _
    · simp only [spec_inTrack.l0, h1, h2, h3, ↓reduceIte, idxFrom, hx, wn pre.length (by omega)]
      simpa using ih (pre ++ [x]) (by rw [← h]; simp)
theorem inTrack_ev (l : List Int) (r v : Int) (hl : l.length ≤ 1048576) : Ev (fun k => spec_inTrack.f k l r v) (idxFrom v l 0) := by
  unfold spec_inTrack.f
  exact inTrack_l0 l v hl l [] rfl
end Go.Proofs.Ytbfehdhncncgdaa.I
end
section
/- Plain facts on scores: which notes are a score, for the reference and for the program. No condition. -/
set_option linter.unusedVariables false
set_option linter.unusedSimpArgs false
namespace Go.Proofs.Ytbfehdhncncgdaa.I
open Go.RowKit Go.Proofs.YtbfehdhncncgdaaW.PrintWords Go.Proofs.YtbfehdhncncgdaaW.PrintLast Go.Proofs.YtbfehdhncncgdaaW.PrintMore

def noteB (x : S57) : Bool := decide (24 ≤ x.f0 ∧ x.f0 ≤ 96 ∧ 0 ≤ x.f1 ∧ x.f1 ≤ 999 ∧ 1 ≤ x.f2 ∧ x.f2 ≤ 99)
def noteLt (a b : S57) : Bool := decide (a.f1 < b.f1 ∨ a.f1 = b.f1 ∧ a.f0 < b.f0)
def meetB (a b : S57) : Bool := decide (a.f0 = b.f0 ∧ a.f1 < b.f1 + b.f2 ∧ b.f1 < a.f1 + a.f2)
def meetI (x y : S57) : Bool := decide (y.f0 = x.f0 ∧ y.f1 + y.f2 > x.f1)
theorem noteB_iff (x : S57) : noteB x = true ↔ (24 ≤ x.f0 ∧ x.f0 ≤ 96 ∧ 0 ≤ x.f1 ∧ x.f1 ≤ 999 ∧ 1 ≤ x.f2 ∧ x.f2 ≤ 99) := by simp [noteB]
theorem noteLt_iff (a b : S57) : noteLt a b = true ↔ (a.f1 < b.f1 ∨ a.f1 = b.f1 ∧ a.f0 < b.f0) := by simp [noteLt]
theorem ntNote_eq (x : S57) : spec_ntNote.f x.f0 x.f1 x.f2 = some (noteB x) := by
  unfold spec_ntNote.f noteB
  simp only [ntPitch_eq, l1In_eq, Option.bind_some, decide_eq_true_eq]
  (repeat' split) <;> (first | exact dec_eq (by omega) | exact dec_f (by omega))
theorem IsNote_eq (x : S57) : impl_IsNote.f x.f0 x.f1 x.f2 = some (noteB x) := by
  unfold impl_IsNote.f noteB
  (repeat' split) <;> (first | exact dec_eq (by omega) | exact dec_f (by omega))
theorem ntBefore_eq (a b : S57) : spec_ntBefore.f a.f0 a.f1 a.f2 b.f0 b.f1 b.f2 = some (noteLt a b) := by
  unfold spec_ntBefore.f noteLt
  (repeat' split) <;> (first | exact dec_eq (by omega) | exact dec_f (by omega) | exact dec_t (by omega))
theorem noteLess_eq (a b : S57) : impl_noteLess.f a.f0 a.f1 a.f2 b.f0 b.f1 b.f2 = some (noteLt a b) := by
  unfold impl_noteLess.f noteLt
  (repeat' split) <;> (first | exact dec_eq (by omega) | exact dec_f (by omega) | exact dec_t (by omega))
theorem ntMeet_eq {a b : S57} (ha : noteB a = true) (hb : noteB b = true) : spec_ntMeet.f a.f0 a.f1 a.f2 b.f0 b.f1 b.f2 = some (meetB a b) := by
  have h1 := (noteB_iff a).1 ha
  have h2 := (noteB_iff b).1 hb
  unfold spec_ntMeet.f meetB
  rw [w_id (x := b.f1 + b.f2) (by omega) (by omega), w_id (x := a.f1 + a.f2) (by omega) (by omega)]
  (repeat' split) <;> (first | exact dec_eq (by omega) | exact dec_f (by omega) | exact dec_t (by omega))
theorem noteEnd_eq {y : S57} (hy : noteB y = true) : impl_noteEnd.f y.f0 y.f1 y.f2 = some (y.f1 + y.f2) := by
  have h2 := (noteB_iff y).1 hy
  unfold impl_noteEnd.f
  rw [w_id (by omega) (by omega)]

/-- Behind these notes, are the next ones a score? -/
def scoreFrom (m : S57 → S57 → Bool) : List S57 → List S57 → Bool
  | _, [] => true
  | pre, x :: xs => noteB x && ((match pre.getLast? with | none => true | some y => noteLt y x) && (!(pre.any (m x)) && scoreFrom m (pre ++ [x]) xs))
def goodScore (l : List S57) : Bool := scoreFrom meetB [] l && decide (l.length ≤ 30)

/-- Notes, each no later than the last one. -/
def InOrder (pre : List S57) : Prop := (∀ y ∈ pre, noteB y = true) ∧ ∀ z, pre.getLast? = some z → ∀ y ∈ pre, y.f1 ≤ z.f1
theorem InOrder.nil : InOrder [] := ⟨by simp, by simp⟩
theorem InOrder.snoc {pre : List S57} (h : InOrder pre) {x : S57} (hx : noteB x = true) (hl : ∀ z, pre.getLast? = some z → noteLt z x = true) : InOrder (pre ++ [x]) := by
  refine ⟨fun y hy => ?_, fun z hz y hy => ?_⟩
  · rcases List.mem_append.1 hy with hy | hy
    · exact h.1 y hy
    · rw [List.mem_singleton.1 hy]; exact hx
  · have : z = x := by simpa using hz.symm
    subst this
    rcases List.mem_append.1 hy with hy | hy
    · rcases nil_or_snoc pre with rfl | ⟨p, q, rfl⟩
      · simp at hy
      · have h1 := h.2 q (by simp) y hy
        have h2 := (noteLt_iff q z).1 (hl q (by simp))
        omega
    · rw [List.mem_singleton.1 hy]; exact Int.le_refl _
theorem meet_same {pre : List S57} (h : InOrder pre) {x : S57} (hx : noteB x = true) (hl : ∀ z, pre.getLast? = some z → noteLt z x = true) : pre.any (meetI x) = pre.any (meetB x) := by
  rw [Bool.eq_iff_iff, List.any_eq_true, List.any_eq_true]
  refine ⟨fun ⟨y, hy, hm⟩ => ⟨y, hy, ?_⟩, fun ⟨y, hy, hm⟩ => ⟨y, hy, ?_⟩⟩
  · have h1 := (noteB_iff x).1 hx
    have h3 := (h.snoc hx hl).2 x (by simp) y (by simp [hy])
    simp only [meetI, meetB, decide_eq_true_eq] at hm ⊢
    omega
  · simp only [meetI, meetB, decide_eq_true_eq] at hm ⊢
    omega
theorem scoreFrom_same : ∀ (suf pre : List S57), InOrder pre → scoreFrom meetI pre suf = scoreFrom meetB pre suf := by
  intro suf
  induction suf with
  | nil => intro pre _; rfl
  | cons x xs ih =>
    intro pre h
    simp only [scoreFrom]
    by_cases hx : noteB x = true
    · by_cases hl : ∀ z, pre.getLast? = some z → noteLt z x = true
      · rw [meet_same h hx hl, ih _ (h.snoc hx hl)]
      · have : (match pre.getLast? with | none => true | some y => noteLt y x) = false := by
          cases hp : pre.getLast? with
          | none => exact absurd (fun z hz => by rw [hp] at hz; cases hz) hl
          | some z =>
            cases hq : noteLt z x with
            | false => exact hq
            | true => exact absurd (fun w hw => by rw [hp] at hw; cases hw; exact hq) hl
        rw [this]; simp
    · simp [Bool.eq_false_iff.mpr hx]

theorem ntGood_l1 (l : List S57) (hl : l.length ≤ 1048576) (x : S57) (hx : noteB x = true) (ni : Int) (p : List S57) (hp : ∀ y ∈ p, noteB y = true) (hpl : p.length ≤ 1048576) (r : Bool)
    (hr : Ev (fun k => spec_ntGood.l0 k l l l.length (wrap64 (ni + 1))) r) : ∀ (suf pre : List S57), pre ++ suf = p →
    Ev (fun k => spec_ntGood.l1 k l l l.length ni p p.length pre.length x.f0 x.f1 x.f2) (!(suf.any (meetB x)) && r) := by
  intro suf
  induction suf with
  | nil =>
    intro pre h
    have hn : ¬ ((pre.length : Int) < (p.length : Int)) := by rw [← h]; simp
    refine Ev.fuel ?_
    simp only [spec_ntGood.l1, hn, ↓reduceIte, List.any_nil, Bool.not_false, Bool.true_and]
    exact hr
  | cons y suf ih =>
    intro pre h
    have hlen : p.length = pre.length + (suf.length + 1) := by rw [← h]; simp
    have h1 : (pre.length : Int) < (p.length : Int) := by omega
    have h2 : (0 : Int) ≤ (pre.length : Int) := by omega
    have h3 : rd_T57 p (pre.length : Int) = y := by rw [← h]; exact getD_mid _ _ _ _
    have hy : noteB y = true := hp y (by rw [← h]; simp)
    refine Ev.fuel ?_
    simp only [spec_ntGood.l1, h1, h2, h3, ↓reduceIte, ntMeet_eq hx hy, Option.bind_some, wn pre.length (by omega), List.any_cons]
    by_cases hm : meetB x y = true
    · simp only [hm, ↓reduceIte, Bool.true_or, Bool.not_true, Bool.false_and]; exact Ev.now _
    · simp only [hm, ↓reduceIte, Bool.false_or, Bool.false_eq_true]
      simpa using ih (pre ++ [y]) (by rw [← h]; simp)
theorem ntGood_l0 (l : List S57) (hl : l.length ≤ 1048576) : ∀ (suf pre : List S57), pre ++ suf = l → (∀ y ∈ pre, noteB y = true) →
    Ev (fun k => spec_ntGood.l0 k l l l.length pre.length) (scoreFrom meetB pre suf && decide (l.length ≤ 30)) := by
  intro suf
  induction suf with
  | nil =>
    intro pre h _
    have hn : ¬ ((pre.length : Int) < (l.length : Int)) := by rw [← h]; simp
    refine Ev.fuel ?_
    simp only [spec_ntGood.l0, hn, ↓reduceIte, scoreFrom, Bool.true_and]
    exact Ev.const (dec_eq (by omega))
  | cons x suf ih =>
    intro pre h hpre
    have hlen : l.length = pre.length + (suf.length + 1) := by rw [← h]; simp
    have h1 : (pre.length : Int) < (l.length : Int) := by omega
    have h2 : (0 : Int) ≤ (pre.length : Int) := by omega
    have h3 : rd_T57 l (pre.length : Int) = x := by rw [← h]; exact getD_mid _ _ _ _
    have jT : Ev (fun k => spec_ntGood.j1 k l pre.length l l.length pre.length true x.f0 x.f1 x.f2) false := by
      refine Ev.fuel ?_; simp only [spec_ntGood.j1, ↓reduceIte]; exact Ev.now _
    refine Ev.fuel ?_
    simp only [spec_ntGood.l0, h1, h2, h3, ↓reduceIte, ntNote_eq, Option.bind_some, scoreFrom]
    by_cases hx : noteB x = true
    · have jF : Ev (fun k => spec_ntGood.j1 k l pre.length l l.length pre.length false x.f0 x.f1 x.f2) (!(pre.any (meetB x)) && (scoreFrom meetB (pre ++ [x]) suf && decide (l.length ≤ 30))) := by
        have c1 : (pre.length : Int) ≤ (l.length : Int) := by omega
        have tk : l.take ((pre.length : Int)).toNat = pre := by rw [← h]; simp
        refine Ev.fuel ?_
        simp only [spec_ntGood.j1, Bool.false_eq_true, ↓reduceIte, h2, c1, tk, Option.bind_some]
        have e := ih (pre ++ [x]) (by rw [← h]; simp) (fun y hy => by
          rcases List.mem_append.1 hy with hy | hy
          · exact hpre y hy
          · rw [List.mem_singleton.1 hy]; exact hx)
        refine ntGood_l1 l hl x hx _ pre hpre (by omega) _ ?_ pre [] rfl
        rw [wn pre.length (by omega)]
        simpa using e
      simp only [hx, ↓reduceIte, Bool.true_and]
      rcases nil_or_snoc pre with rfl | ⟨pre', y, rfl⟩
      · simp only [List.length_nil, Int.natCast_zero, Int.lt_irrefl, gt_iff_lt, ↓reduceIte, List.getLast?_nil, Bool.true_and]
        simpa using jF
      · have hc : (pre' ++ [y]).length = pre'.length + 1 := by simp
        have g1 : ((pre' ++ [y]).length : Int) > 0 := by omega
        have g2 : wrap64 (((pre' ++ [y]).length : Int) - 1) = (pre'.length : Int) := by rw [w_id (by omega) (by omega)]; omega
        have g3 : (0 : Int) ≤ (pre'.length : Int) := by omega
        have g4 : (pre'.length : Int) < (l.length : Int) := by omega
        have g5 : rd_T57 l (pre'.length : Int) = y := by rw [← h, List.append_assoc]; exact getD_mid _ _ _ _
        have gl : (pre' ++ [y]).getLast? = some y := by simp
        simp only [g1, g2, g3, g4, g5, gl, ↓reduceIte, ntBefore_eq, Option.bind_some]
        by_cases hy : noteLt y x = true
        · simp only [hy, Bool.not_true, Bool.true_and, Bool.and_assoc]; exact jF
        · simp only [Bool.eq_false_iff.mpr hy, Bool.not_false, Bool.false_and]; exact jT
    · simp only [Bool.eq_false_iff.mpr hx, Bool.false_eq_true, ↓reduceIte, Bool.false_and]; exact jT
theorem ntGood_ev (l : List S57) (hl : l.length ≤ 1048576) : Ev (fun k => spec_ntGood.f k l) (goodScore l) := by
  unfold spec_ntGood.f
  exact ntGood_l0 l hl l [] rfl (by simp)

theorem IsScore_l1 (l : List S57) (hl : l.length ≤ 1048576) (x : S57) (ni : Int) (p : List S57) (hp : ∀ y ∈ p, noteB y = true) (hpl : p.length ≤ 1048576) (r : Bool)
    (hr : Ev (fun k => impl_IsScore.l0 k l l l.length (wrap64 (ni + 1))) r) : ∀ (suf pre : List S57), pre ++ suf = p →
    Ev (fun k => impl_IsScore.l1 k l l l.length ni p p.length pre.length x.f0 x.f1 x.f2) (!(suf.any (meetI x)) && r) := by
  intro suf
  induction suf with
  | nil =>
    intro pre h
    have hn : ¬ ((pre.length : Int) < (p.length : Int)) := by rw [← h]; simp
    refine Ev.fuel ?_
    simp only [impl_IsScore.l1, hn, ↓reduceIte, List.any_nil, Bool.not_false, Bool.true_and]
    exact hr
  | cons y suf ih =>
    intro pre h
    have hlen : p.length = pre.length + (suf.length + 1) := by rw [← h]; simp
    have h1 : (pre.length : Int) < (p.length : Int) := by omega
    have h2 : (0 : Int) ≤ (pre.length : Int) := by omega
    have h3 : rd_T57 p (pre.length : Int) = y := by rw [← h]; exact getD_mid _ _ _ _
    have hy : noteB y = true := hp y (by rw [← h]; simp)
    have e : Ev (fun k => impl_IsScore.l1 k l l l.length ni p p.length ((pre.length + 1 : Nat) : Int) x.f0 x.f1 x.f2) (!(suf.any (meetI x)) && r) := by simpa using ih (pre ++ [y]) (by rw [← h]; simp)
    refine Ev.fuel ?_
    simp only [impl_IsScore.l1, h1, h2, h3, ↓reduceIte, noteEnd_eq hy, Option.bind_some, wn pre.length (by omega), List.any_cons]
    by_cases hm : y.f0 = x.f0
    · by_cases hq : y.f1 + y.f2 > x.f1
      · simp only [hm, hq, ↓reduceIte, show meetI x y = true from by simp only [meetI, decide_eq_true_eq]; omega, Bool.true_or, Bool.not_true, Bool.false_and]; exact Ev.now _
      · simp only [hm, hq, ↓reduceIte, show meetI x y = false from by simp only [meetI, decide_eq_false_iff_not]; omega, Bool.false_or]; exact e
    · simp only [hm, ↓reduceIte, show meetI x y = false from by simp only [meetI, decide_eq_false_iff_not]; omega, Bool.false_or]; exact e
theorem IsScore_l0 (l : List S57) (hl : l.length ≤ 1048576) : ∀ (suf pre : List S57), pre ++ suf = l → (∀ y ∈ pre, noteB y = true) →
    Ev (fun k => impl_IsScore.l0 k l l l.length pre.length) (scoreFrom meetI pre suf) := by
  intro suf
  induction suf with
  | nil =>
    intro pre h _
    have hn : ¬ ((pre.length : Int) < (l.length : Int)) := by rw [← h]; simp
    refine Ev.fuel ?_
    simp only [impl_IsScore.l0, hn, ↓reduceIte, scoreFrom]
    exact Ev.now _
  | cons x suf ih =>
    intro pre h hpre
    have hlen : l.length = pre.length + (suf.length + 1) := by rw [← h]; simp
    have h1 : (pre.length : Int) < (l.length : Int) := by omega
    have h2 : (0 : Int) ≤ (pre.length : Int) := by omega
    have h3 : rd_T57 l (pre.length : Int) = x := by rw [← h]; exact getD_mid _ _ _ _
    have jT : Ev (fun k => impl_IsScore.j1 k l pre.length l l.length pre.length true x.f0 x.f1 x.f2) false := by
      refine Ev.fuel ?_; simp only [impl_IsScore.j1, ↓reduceIte]; exact Ev.now _
    refine Ev.fuel ?_
    simp only [impl_IsScore.l0, h1, h2, h3, ↓reduceIte, IsNote_eq, Option.bind_some, scoreFrom]
    by_cases hx : noteB x = true
    · have jF : Ev (fun k => impl_IsScore.j1 k l pre.length l l.length pre.length false x.f0 x.f1 x.f2) (!(pre.any (meetI x)) && scoreFrom meetI (pre ++ [x]) suf) := by
        have c1 : (pre.length : Int) ≤ (l.length : Int) := by omega
        have tk : l.take ((pre.length : Int)).toNat = pre := by rw [← h]; simp
        refine Ev.fuel ?_
        simp only [impl_IsScore.j1, Bool.false_eq_true, ↓reduceIte, h2, c1, tk, Option.bind_some]
        have e := ih (pre ++ [x]) (by rw [← h]; simp) (fun y hy => by
          rcases List.mem_append.1 hy with hy | hy
          · exact hpre y hy
          · rw [List.mem_singleton.1 hy]; exact hx)
        refine IsScore_l1 l hl x _ pre hpre (by omega) _ ?_ pre [] rfl
        rw [wn pre.length (by omega)]
        simpa using e
      simp only [hx, ↓reduceIte, Bool.true_and]
      rcases nil_or_snoc pre with rfl | ⟨pre', y, rfl⟩
      · simp only [List.length_nil, Int.natCast_zero, Int.lt_irrefl, gt_iff_lt, ↓reduceIte, List.getLast?_nil, Bool.true_and]
        simpa using jF
      · have hc : (pre' ++ [y]).length = pre'.length + 1 := by simp
        have g1 : ((pre' ++ [y]).length : Int) > 0 := by omega
        have g2 : wrap64 (((pre' ++ [y]).length : Int) - 1) = (pre'.length : Int) := by rw [w_id (by omega) (by omega)]; omega
        have g3 : (0 : Int) ≤ (pre'.length : Int) := by omega
        have g4 : (pre'.length : Int) < (l.length : Int) := by omega
        have g5 : rd_T57 l (pre'.length : Int) = y := by rw [← h, List.append_assoc]; exact getD_mid _ _ _ _
        have gl : (pre' ++ [y]).getLast? = some y := by simp
        simp only [g1, g2, g3, g4, g5, gl, ↓reduceIte, noteLess_eq, Option.bind_some]
        by_cases hy : noteLt y x = true
        · simp only [hy, Bool.not_true, Bool.true_and]; exact jF
        · simp only [Bool.eq_false_iff.mpr hy, Bool.not_false, Bool.false_and]; exact jT
    · simp only [Bool.eq_false_iff.mpr hx, Bool.false_eq_true, ↓reduceIte, Bool.false_and]; exact jT
theorem IsScore_ev (l : List S57) (hl : l.length ≤ 1048576) : Ev (fun k => impl_IsScore.f k l) (goodScore l) := by
  unfold impl_IsScore.f goodScore
  by_cases h : (l.length : Int) > 30
  · simp only [h, ↓reduceIte, show ¬ l.length ≤ 30 from by omega, decide_false, Bool.and_false]; exact Ev.now _
  · simp only [h, ↓reduceIte, show l.length ≤ 30 from by omega, decide_true, Bool.and_true]
    rw [← scoreFrom_same l [] InOrder.nil]
    exact IsScore_l0 l hl l [] rfl (by simp)
theorem scoreFrom_all (m : S57 → S57 → Bool) : ∀ (l pre : List S57), scoreFrom m pre l = true → ∀ x ∈ l, noteB x = true := by
  intro l
  induction l with
  | nil => intro pre _ x hx; simp at hx
  | cons y l ih =>
    intro pre h x hx
    simp only [scoreFrom, Bool.and_eq_true] at h
    rcases List.mem_cons.1 hx with rfl | hx
    · exact h.1
    · exact ih _ h.2.2.2 x hx
theorem goodScore_all {l : List S57} (h : goodScore l = true) : ∀ x ∈ l, noteB x = true := by
  simp only [goodScore, Bool.and_eq_true] at h
  exact scoreFrom_all _ l _ h.1
theorem goodScore_len {l : List S57} (h : goodScore l = true) : l.length ≤ 30 := by
  simp only [goodScore, Bool.and_eq_true, decide_eq_true_eq] at h
  exact h.2
end Go.Proofs.Ytbfehdhncncgdaa.I
end
section
/- Plain facts on scores: notes put in order, by the program and by the reference. No condition. -/
set_option linter.unusedVariables false
set_option linter.unusedSimpArgs false
namespace Go.Proofs.Ytbfehdhncncgdaa.I
open Go.RowKit Go.Proofs.YtbfehdhncncgdaaW.PrintWords Go.Proofs.YtbfehdhncncgdaaW.PrintLast Go.Proofs.YtbfehdhncncgdaaW.PrintMore

theorem noteLt_ltB (a b : S57) : noteLt a b = SNote.ltB a b := by
  unfold noteLt SNote.ltB
  split
  · rw [decide_eq_decide]; omega
  · rw [decide_eq_decide]; omega
theorem nltB_iff (a b : S57) : SNote.ltB a b = true ↔ (a.f1 < b.f1 ∨ a.f1 = b.f1 ∧ a.f0 < b.f0) := by rw [← noteLt_ltB]; exact noteLt_iff a b
theorem scoreFrom_iff : ∀ (l pre : List S57), scoreFrom meetB pre l = true ↔
    ((∀ x ∈ l, noteB x = true) ∧ SA.Rising SNote.ltB l ∧ (∀ y, pre.getLast? = some y → ∀ x ∈ l, SNote.ltB y x = true) ∧ l.Pairwise (fun y x => meetB x y = false) ∧ ∀ y ∈ pre, ∀ x ∈ l, meetB x y = false) := by
  intro l
  induction l with
  | nil =>
    intro pre
    simp [scoreFrom, SA.Rising]
  | cons x xs ih =>
    intro pre
    have hlast : (pre ++ [x]).getLast? = some x := by simp
    simp only [scoreFrom, Bool.and_eq_true, ih (pre ++ [x]), hlast, Bool.not_eq_true', List.any_eq_false]
    constructor
    · rintro ⟨h1, h2, h3, h4, h5, h6, h7, h8⟩
      have h3' : ∀ y ∈ pre, meetB x y = false := fun y hy => by simpa using h3 y hy
      have h6' : ∀ z ∈ xs, SNote.ltB x z = true := h6 x rfl
      refine ⟨fun z hz => ?_, List.pairwise_cons.2 ⟨h6', h5⟩, fun y hy z hz => ?_, List.pairwise_cons.2 ⟨fun z hz => h8 x (by simp) z hz, h7⟩, fun y hy z hz => ?_⟩
      · rcases List.mem_cons.1 hz with rfl | hz
        · exact h1
        · exact h4 z hz
      · rw [hy] at h2
        have hyx : SNote.ltB y x = true := by rw [← noteLt_ltB]; exact h2
        rcases List.mem_cons.1 hz with rfl | hz
        · exact hyx
        · exact SNote.swo.trans _ _ _ hyx (h6' z hz)
      · rcases List.mem_cons.1 hz with rfl | hz
        · exact h3' y hy
        · exact h8 y (by simp [hy]) z hz
    · rintro ⟨h1, h2, h3, h4, h5⟩
      obtain ⟨q1, q2⟩ := List.pairwise_cons.1 h2
      obtain ⟨q3, q4⟩ := List.pairwise_cons.1 h4
      refine ⟨h1 x List.mem_cons_self, ?_, fun y hy => ?_, fun z hz => h1 z (List.mem_cons_of_mem _ hz), q2, fun y hy z hz => ?_, q4, fun y hy z hz => ?_⟩
      · cases hp : pre.getLast? with
        | none => rfl
        | some y =>
          show noteLt y x = true
          rw [noteLt_ltB]; exact h3 y hp x List.mem_cons_self
      · simpa using h5 y hy x List.mem_cons_self
      · cases hy; exact q1 z hz
      · rcases List.mem_append.1 hy with hy | hy
        · exact h5 y hy z (List.mem_cons_of_mem _ hz)
        · simp only [List.mem_singleton] at hy; subst hy; exact q3 z hz
theorem goodScore_iff (l : List S57) : goodScore l = true ↔ ((∀ x ∈ l, noteB x = true) ∧ SA.Rising SNote.ltB l ∧ l.Pairwise (fun y x => meetB x y = false) ∧ l.length ≤ 30) := by
  unfold goodScore
  rw [Bool.and_eq_true, scoreFrom_iff, decide_eq_true_eq]
  constructor
  · rintro ⟨⟨h1, h2, _, h4, _⟩, h5⟩
    exact ⟨h1, h2, h4, h5⟩
  · rintro ⟨h1, h2, h3, h4⟩
    exact ⟨⟨h1, h2, fun y hy => by simp at hy, h3, fun y hy => by cases hy⟩, h4⟩
def scoreRes (l : List S57) : List S57 × Bool := if goodScore (SA.isort SNote.ltB l) = true then (SA.isort SNote.ltB l, true) else ([], false)
theorem scoreRes_len (l : List S57) : (scoreRes l).1.length ≤ 1048576 := by
  unfold scoreRes
  split
  · rename_i h
    have := ((goodScore_iff _).1 h).2.2.2
    show (SA.isort SNote.ltB l).length ≤ _
    omega
  · simp
theorem scoreRes_good (l : List S57) : goodScore (scoreRes l).1 = true := by
  unfold scoreRes
  split
  · assumption
  · rfl
theorem srt_good (l : List S57) : goodScore (SNote.srt l) = goodScore (SA.isort SNote.ltB l) := by
  by_cases h : goodScore (SA.isort SNote.ltB l) = true
  · have e : SNote.srt l = SA.isort SNote.ltB l := SA.srt_isort_rising SNote.ltB SNote.swo l (.inr ((goodScore_iff _).1 h).2.1)
    rw [e]
  · by_cases h' : goodScore (SNote.srt l) = true
    · have e : SNote.srt l = SA.isort SNote.ltB l := SA.srt_isort_rising SNote.ltB SNote.swo l (.inl ((goodScore_iff _).1 h').2.1)
      rw [e]
    · rw [Bool.eq_false_iff.2 h, Bool.eq_false_iff.2 h']
theorem srt_of_good (l : List S57) (h : goodScore (SNote.srt l) = true) : SNote.srt l = SA.isort SNote.ltB l := SA.srt_isort_rising SNote.ltB SNote.swo l (.inl ((goodScore_iff _).1 h).2.1)
theorem scoreRes_srt (l : List S57) : scoreRes l = if goodScore (SNote.srt l) = true then (SNote.srt l, true) else ([], false) := by
  unfold scoreRes
  rw [← srt_good]
  by_cases h : goodScore (SNote.srt l) = true
  · rw [if_pos h, if_pos h, srt_of_good l h]
  · rw [if_neg h, if_neg h]
theorem nisort_rising (l : List S57) (h : SA.Rising SNote.ltB l) : SA.isort SNote.ltB l = l :=
  (SA.asc_rising SNote.ltB SNote.swo _ _ (SA.isort_perm SNote.ltB l).symm h (SA.isort_asc SNote.ltB SNote.swo l)).symm
theorem ntSorted_ev (l : List S57) (hl : l.length ≤ 1048576) : Ev (fun k => spec_ntSorted.f k l) (scoreRes l) := by
  unfold spec_ntSorted.f SNote.sortedF
  simp only [hl, ↓reduceIte]
  refine Ev.bind (ntGood_ev _ (by rw [SA.isort_length]; exact hl)) ?_
  unfold scoreRes
  by_cases hg : goodScore (SA.isort SNote.ltB l) = true
  · simp only [hg, ↓reduceIte]; exact Ev.now _
  · simp only [hg, Bool.false_eq_true, ↓reduceIte]; exact Ev.now _
theorem srtN_len (l : List S57) : (SNote.srt l).length = l.length := SA.srtL_length SNote.ltB SNote.swo l
theorem sortedNotes_eq (l : List S57) (hl : l.length ≤ 1048576) : impl_sortedNotes.f l = some (SNote.srt l) := by
  unfold impl_sortedNotes.f SNote.ofF
  rw [if_pos hl]
end Go.Proofs.Ytbfehdhncncgdaa.I
end
section
/- Plain facts on sets of numbers in order, notes that sound at a step, and the most voices. No condition. -/
set_option linter.unusedVariables false
set_option linter.unusedSimpArgs false
namespace Go.Proofs.Ytbfehdhncncgdaa.I
open Go.RowKit Go.Proofs.YtbfehdhncncgdaaW.PrintWords Go.Proofs.YtbfehdhncncgdaaW.PrintLast Go.Proofs.YtbfehdhncncgdaaW.PrintMore

/-! a number put into an increasing list -/
def put (n : Int) : List Int → List Int
  | [] => [n]
  | x :: xs => if x < n then x :: put n xs else if x = n then x :: xs else n :: x :: xs
theorem put_len (n : Int) : ∀ l : List Int, (put n l).length ≤ l.length + 1 := by
  intro l
  induction l with
  | nil => simp [put]
  | cons x xs ih => simp only [put]; (repeat' split) <;> simp <;> omega
theorem put_mem (n y : Int) : ∀ l : List Int, y ∈ put n l ↔ y = n ∨ y ∈ l := by
  intro l
  induction l with
  | nil => simp [put]
  | cons x xs ih =>
    simp only [put]
    split
    · simp only [List.mem_cons, ih]; exact ⟨fun h => by rcases h with h | h | h; exact Or.inr (Or.inl h); exact Or.inl h; exact Or.inr (Or.inr h), fun h => by rcases h with h | h | h; exact Or.inr (Or.inl h); exact Or.inl h; exact Or.inr (Or.inr h)⟩
    · split
      · rename_i h; subst h; simp
      · simp
def Rises (l : List Int) : Prop := l.Pairwise (· < ·)
theorem put_rises (n : Int) : ∀ l : List Int, Rises l → Rises (put n l) := by
  intro l
  induction l with
  | nil => intro _; simp [put, Rises]
  | cons x xs ih =>
    intro h
    have h' := List.pairwise_cons.1 h
    simp only [put]
    split
    · rename_i hx
      refine List.pairwise_cons.2 ⟨fun y hy => ?_, ih h'.2⟩
      rcases (put_mem n y xs).1 hy with rfl | hy
      · exact hx
      · exact h'.1 y hy
    · split
      · exact h
      · refine List.pairwise_cons.2 ⟨fun y hy => ?_, h⟩
        rcases List.mem_cons.1 hy with rfl | hy
        · omega
        · have := h'.1 y hy; omega
theorem put_len_new (n : Int) : ∀ l : List Int, Rises l → n ∉ l → (put n l).length = l.length + 1 := by
  intro l
  induction l with
  | nil => intro _ _; simp [put]
  | cons x xs ih =>
    intro h hn
    have h' := List.pairwise_cons.1 h
    simp only [List.mem_cons, not_or] at hn
    simp only [put]
    split
    · simp only [List.length_cons, ih h'.2 hn.2]
    · rw [if_neg (fun e => hn.1 e.symm)]; simp
theorem l1Put_l0 (l : List Int) (n : Int) (hl : l.length ≤ 1048576) : ∀ (suf pre : List Int), pre ++ suf = l → Ev (fun k => spec_l1Put.l0 k l n pre.length) (pre ++ put n suf) := by
  intro suf
  induction suf with
  | nil =>
    intro pre h
    have hp : pre = l := by simpa using h
    have hn : ¬ ((pre.length : Int) < (l.length : Int)) := by rw [hp]; omega
    have h2 : (0 : Int) ≤ (pre.length : Int) := by omega
    have h3 : (pre.length : Int) ≤ (l.length : Int) := by rw [hp]; omega
    have tk : l.take ((pre.length : Int)).toNat = pre := by rw [← hp]; simp
    have dr : l.drop ((pre.length : Int)).toNat = [] := by rw [← hp]; simp
    have hpl : pre.length ≤ 1048576 := by rw [hp]; exact hl
    have q1 : 0 + pre.length < 17592186044416 := by omega
    have q2 : pre.length < 17592186044416 := by omega
    have q3 : pre.length + 1 + 0 < 17592186044416 := by omega
    refine Ev.fuel ?_
    simp only [spec_l1Put.l0, hn, h2, h3, tk, dr, ↓reduceIte, Option.bind_some, List.length_nil, List.nil_append, List.length_append, List.length_singleton, q1, q2, q3]
    refine Ev.const ?_
    simp [put]
    omega
  | cons x suf ih =>
    intro pre h
    have hlen : l.length = pre.length + (suf.length + 1) := by rw [← h]; simp
    have h1 : (pre.length : Int) < (l.length : Int) := by omega
    have h2 : (0 : Int) ≤ (pre.length : Int) := by omega
    have h4 : rd l (pre.length : Int) = x := by rw [← h]; exact getD_mid _ _ _ _
    have h3 : (pre.length : Int) ≤ (l.length : Int) := by omega
    have tk : l.take ((pre.length : Int)).toNat = pre := by rw [← h]; simp
    have dr : l.drop ((pre.length : Int)).toNat = x :: suf := by rw [← h]; simp
    have q1 : 0 + pre.length < 17592186044416 := by omega
    have q2 : pre.length < 17592186044416 := by omega
    have q3 : pre.length + 1 + (suf.length + 1) < 17592186044416 := by omega
    refine Ev.fuel ?_
    by_cases hx : x < n
    · simp only [spec_l1Put.l0, h1, h2, h4, hx, ↓reduceIte, wn pre.length (by omega), put]
      simpa using ih (pre ++ [x]) (by rw [← h]; simp)
    · by_cases he : x = n
      · subst he
        simp only [spec_l1Put.l0, h1, h2, h4, hx, ↓reduceIte, put]
        exact Ev.const (by rw [h])
      · simp only [spec_l1Put.l0, h1, h2, h3, h4, hx, he, tk, dr, ↓reduceIte, Option.bind_some, List.length_nil, List.nil_append, List.length_append, List.length_singleton, List.length_cons, q1, q2, q3, put]
        exact Ev.const (by simp; omega)
theorem l1Put_ev (l : List Int) (n : Int) (hl : l.length ≤ 1048576) : Ev (fun k => spec_l1Put.f k l n) (put n l) := by
  unfold spec_l1Put.f
  exact l1Put_l0 l n hl l [] rfl

/-! notes that sound -/
def soundB (t : Int) (y : S57) : Bool := decide (y.f1 ≤ t ∧ t < y.f1 + y.f2)
def atSet (t : Int) : List S57 → List Int → List Int
  | [], acc => acc
  | y :: ys, acc => atSet t ys (if soundB t y = true then put y.f0 acc else acc)
def countAt (t : Int) (s : List S57) : Nat := (s.filter (soundB t)).length
/-- No two notes of one pitch sound in one step. -/
def Apart (s : List S57) : Prop := s.Pairwise fun y x => meetI x y = false
theorem atSet_len (t : Int) : ∀ (s : List S57) (acc : List Int), Rises acc → Apart s → (∀ y ∈ s, soundB t y = true → y.f0 ∉ acc) →
    (atSet t s acc).length = acc.length + countAt t s ∧ Rises (atSet t s acc) := by
  intro s
  induction s with
  | nil => intro acc h _ _; simp [atSet, countAt, h]
  | cons y ys ih =>
    intro acc h ha hn
    have ha' := List.pairwise_cons.1 ha
    simp only [atSet, countAt, List.filter_cons]
    by_cases hy : soundB t y = true
    · simp only [hy, ↓reduceIte, List.length_cons]
      have h1 := put_len_new y.f0 acc h (hn y (by simp) hy)
      obtain ⟨e1, e2⟩ := ih (put y.f0 acc) (put_rises _ _ h) ha'.2 (fun z hz hsz hm => by
        rcases (put_mem _ _ _).1 hm with he | hm
        · have hq := ha'.1 z hz
          simp only [soundB, decide_eq_true_eq] at hy hsz
          simp only [meetI, decide_eq_false_iff_not] at hq
          exact hq ⟨he.symm, by omega⟩
        · exact hn z (by simp [hz]) hsz hm)
      refine ⟨?_, e2⟩
      rw [e1, h1]
      unfold countAt
      omega
    · simp only [hy, Bool.false_eq_true, ↓reduceIte]
      exact ih acc h ha'.2 (fun z hz => hn z (by simp [hz]))
def mostOf (s : List S57) : List S57 → Int → Int
  | [], m => m
  | x :: xs, m => mostOf s xs (if m > (countAt x.f1 s : Int) then m else (countAt x.f1 s : Int))
theorem countAt_le (t : Int) (s : List S57) : countAt t s ≤ s.length := List.length_filter_le _ _
/-! a score's notes are apart -/
theorem scoreFrom_apart : ∀ (l pre : List S57), scoreFrom meetI pre l = true → Apart pre → Apart (pre ++ l) := by
  intro l
  induction l with
  | nil => intro pre _ h; simpa using h
  | cons y l ih =>
    intro pre h ha
    simp only [scoreFrom, Bool.and_eq_true] at h
    have e := ih (pre ++ [y]) h.2.2.2 (by
      refine List.pairwise_append.2 ⟨ha, by simp, fun a haa b hb => ?_⟩
      rw [List.mem_singleton.1 hb]
      have := h.2.2.1
      simp only [Bool.not_eq_true', List.any_eq_false] at this
      simpa using this a haa)
    simpa using e
theorem goodScore_apart {l : List S57} (h : goodScore l = true) : Apart l := by
  simp only [goodScore, Bool.and_eq_true] at h
  have := scoreFrom_apart l [] (by rw [scoreFrom_same l [] InOrder.nil]; exact h.1) (by simp [Apart])
  simpa using this
end Go.Proofs.Ytbfehdhncncgdaa.I
end
section
/- Plain facts on fast repeats, and on what an instrument can play of a score. No condition. -/
set_option linter.unusedVariables false
set_option linter.unusedSimpArgs false
namespace Go.Proofs.Ytbfehdhncncgdaa.I
open Go.RowKit Go.Proofs.YtbfehdhncncgdaaW.PrintWords Go.Proofs.YtbfehdhncncgdaaW.PrintLast Go.Proofs.YtbfehdhncncgdaaW.PrintMore

theorem getD_app {α : Type} (l t : List α) (z : α) (n : Nat) (h : n < l.length) : (l ++ t).getD n z = l.getD n z := by
  rw [List.getD_eq_getElem?_getD, List.getD_eq_getElem?_getD, List.getElem?_append_left h]
/-- The last note of a pitch, in a list told backwards: its index and its start. -/
def lastR (p : Int) : List S57 → Option (Nat × Int)
  | [] => none
  | y :: ys => if y.f0 = p then some (ys.length, y.f1) else lastR p ys
theorem lastR_some (p : Int) : ∀ (r : List S57) (i : Nat) (t : Int), lastR p r = some (i, t) → i < r.length ∧ (rd_T57 r.reverse (i : Int)).f1 = t ∧ (rd_T57 r.reverse (i : Int)).f0 = p := by
  intro r
  induction r with
  | nil => intro i t h; simp [lastR] at h
  | cons y ys ih =>
    intro i t h
    simp only [lastR] at h
    by_cases hy : y.f0 = p
    · rw [if_pos hy] at h
      simp only [Option.some.injEq, Prod.mk.injEq] at h
      obtain ⟨rfl, rfl⟩ := h
      have e : rd_T57 (y :: ys).reverse ((ys.length : Nat) : Int) = y := by
        rw [List.reverse_cons, show ys.length = ys.reverse.length by simp]
        exact getD_mid _ _ _ _
      rw [e]
      exact ⟨by simp, rfl, hy⟩
    · rw [if_neg hy] at h
      obtain ⟨h1, h2, h3⟩ := ih i t h
      have e : rd_T57 (y :: ys).reverse (i : Int) = rd_T57 ys.reverse (i : Int) := by
        unfold rd_T57
        rw [List.reverse_cons, getD_app _ _ _ _ (by simpa using h1)]
      rw [e]
      exact ⟨by simp only [List.length_cons]; omega, h2, h3⟩
def fastOne (rep : Int) (r : List S57) (x : S57) : List (List Int) :=
  match lastR x.f0 r with
  | none => []
  | some (i, t) => if x.f1 - t < rep then [[(i : Int), (r.length : Int)]] else []
def fastFrom (rep : Int) : List S57 → List S57 → List (List Int)
  | _, [] => []
  | r, x :: xs => fastOne rep r x ++ fastFrom rep (x :: r) xs
theorem fastOne_len (rep : Int) (r : List S57) (x : S57) : (fastOne rep r x).length ≤ 1 := by
  unfold fastOne
  split
  · simp
  · split <;> simp
def idxOr (o : Option (Nat × Int)) : Int := match o with | none => -1 | some (i, _) => (i : Int)
theorem inLast_l0 (s : List S57) (hs : s.length ≤ 1000) (i : Nat) (hi : i < s.length) (p : Int) (hp : (rd_T57 s (i : Int)).f0 = p) : ∀ (r : List S57) (t : List S57), r.reverse ++ t = s →
    Ev (fun k => spec_inLast.l0 k s (i : Int) ((r.length : Int) - 1)) (idxOr (lastR p r)) := by
  intro r
  induction r with
  | nil =>
    intro t h
    refine Ev.fuel ?_
    simp only [spec_inLast.l0, List.length_nil, Int.natCast_zero, Int.zero_sub, show ¬ ((-1 : Int) ≥ 0) from by decide, ↓reduceIte, lastR, idxOr]
    exact Ev.now _
  | cons y ys ih =>
    intro t h
    have hlen : s.length = ys.length + 1 + t.length := by rw [← h]; simp; omega
    have e1 : (((y :: ys).length : Nat) : Int) - 1 = (ys.length : Int) := by simp only [List.length_cons]; omega
    have h1 : (ys.length : Int) ≥ 0 := by omega
    have h1' : (0 : Int) ≤ (ys.length : Int) := by omega
    have h2 : (ys.length : Int) < (s.length : Int) := by omega
    have h3 : (0 : Int) ≤ (i : Int) := by omega
    have h4 : (i : Int) < (s.length : Int) := by omega
    have h5 : rd_T57 s (ys.length : Int) = y := by
      rw [← h, List.reverse_cons, List.append_assoc, show ys.length = ys.reverse.length by simp]
      exact getD_mid _ _ _ _
    refine Ev.fuel ?_
    rw [e1]
    simp only [spec_inLast.l0, h1, h1', h2, h3, h4, h5, hp, ↓reduceIte, lastR]
    by_cases hy : y.f0 = p
    · simp only [hy, ↓reduceIte, idxOr]; exact Ev.now _
    · simp only [hy, ↓reduceIte]
      rw [w_id (x := (ys.length : Int) - 1) (by omega) (by omega)]
      exact ih (y :: t) (by rw [← h]; simp)
theorem inFast_l0 (s : List S57) (rep : Int) (hs : s.length ≤ 1000) (hn : ∀ x ∈ s, noteB x = true) : ∀ (suf r : List S57) (acc : List (List Int)), r.reverse ++ suf = s → acc.length ≤ r.length →
    Ev (fun k => spec_inFast.l0 k s rep acc s s.length r.length) (acc ++ fastFrom rep r suf) := by
  intro suf
  induction suf with
  | nil =>
    intro r acc h ha
    have hn : ¬ ((r.length : Int) < (s.length : Int)) := by rw [← h]; simp
    refine Ev.fuel ?_
    simp only [spec_inFast.l0, hn, ↓reduceIte]
    exact Ev.const (by simp [fastFrom])
  | cons x suf ih =>
    intro r acc h ha
    have hlen : s.length = r.length + (suf.length + 1) := by rw [← h]; simp
    have h1 : (r.length : Int) < (s.length : Int) := by omega
    have h2 : (0 : Int) ≤ (r.length : Int) := by omega
    have h3 : rd_T57 s (r.length : Int) = x := by rw [← h, show r.length = r.reverse.length by simp]; exact getD_mid _ _ _ _
    have hx := (noteB_iff x).1 (hn x (by rw [← h]; simp))
    have h4 : acc.length < 5864062014805 := by omega
    have e : ∀ acc, acc.length ≤ r.length + 1 → Ev (fun k => spec_inFast.l0 k s rep acc s s.length ((r.length + 1 : Nat) : Int)) (acc ++ fastFrom rep (x :: r) suf) := fun acc ha => by
      simpa using ih (x :: r) acc (by rw [← h]; simp) (by simpa using ha)
    refine Ev.fuel ?_
    simp only [spec_inFast.l0, h1, h2, h3, ↓reduceIte, wn r.length (by omega), fastFrom]
    have el : Ev (fun k => spec_inLast.f k s (r.length : Int)) (idxOr (lastR x.f0 r)) := by
      unfold spec_inLast.f
      rw [w_id (x := (r.length : Int) - 1) (by omega) (by omega)]
      exact inLast_l0 s hs r.length (by omega) x.f0 (by rw [h3]) r (x :: suf) h
    refine Ev.bind el ?_
    cases hq : lastR x.f0 r with
    | none =>
      simp only [idxOr, show ¬ ((-1 : Int) ≥ 0) from by decide, ↓reduceIte, fastOne, hq, List.nil_append]
      exact e acc (by omega)
    | some it =>
      obtain ⟨i, t⟩ := it
      obtain ⟨q1, q2, q3⟩ := lastR_some x.f0 r i t hq
      have g1 : (i : Int) ≥ 0 := by omega
      have g1' : (0 : Int) ≤ (i : Int) := by omega
      have g2 : (i : Int) < (s.length : Int) := by omega
      have g3 : rd_T57 s (i : Int) = rd_T57 r.reverse (i : Int) := by
        unfold rd_T57
        rw [← h, getD_app _ _ _ _ (by simpa using q1)]
      have hin : rd_T57 r.reverse (i : Int) ∈ s := by
        rw [← g3]
        unfold rd_T57
        rw [List.getD_eq_getElem?_getD, List.getElem?_eq_getElem (by omega)]
        exact List.getElem_mem _
      have hy := (noteB_iff _).1 (hn _ hin)
      rw [q2] at hy
      simp only [idxOr, g1, g1', g2, g3, q2, ↓reduceIte, w_id (x := x.f1 - t) (by omega) (by omega), fastOne, hq]
      by_cases hf : x.f1 - t < rep
      · simp only [hf, h4, ↓reduceIte]
        have e2 := e (acc ++ [[(i : Int), (r.length : Int)]]) (by simp; omega)
        simpa using e2
      · simp only [hf, ↓reduceIte, List.nil_append]
        exact e acc (by omega)
theorem inFast_ev (s : List S57) (rep : Int) (hs : s.length ≤ 1000) (hn : ∀ x ∈ s, noteB x = true) : Ev (fun k => spec_inFast.f k s rep) (fastFrom rep [] s) := by
  unfold spec_inFast.f
  exact inFast_l0 s rep hs hn s [] [] rfl (Nat.le_refl _)
theorem fast_l1 (s : List S57) (rep : Int) (hs : s.length ≤ 1000) (hn : ∀ x ∈ s, noteB x = true) (x : S57) (hx : noteB x = true) (n : Nat) (R : List S57) (hR : n = R.length) (acc : List (List Int)) (hacc : acc.length < 100000) (res : List (List Int))
    (hres : Ev (fun k => impl_fastRepeats.l0 k s rep (acc ++ fastOne rep R x) s s.length (wrap64 ((n : Int) + 1))) res) : ∀ (r t : List S57), r.reverse ++ t = s → lastR x.f0 r = lastR x.f0 R →
    Ev (fun k => impl_fastRepeats.l1 k s rep acc (n : Int) ((r.length : Int) - 1) s s.length (n : Int) x.f0 x.f1 x.f2) res := by
  intro r
  induction r with
  | nil =>
    intro t h hq
    refine Ev.fuel ?_
    simp only [impl_fastRepeats.l1, List.length_nil, Int.natCast_zero, Int.zero_sub, show ¬ ((-1 : Int) ≥ 0) from by decide, ↓reduceIte]
    simp only [lastR] at hq
    simpa [fastOne, ← hq] using hres
  | cons y ys ih =>
    intro t h hq
    have hlen : s.length = ys.length + 1 + t.length := by rw [← h]; simp; omega
    have e1 : (((y :: ys).length : Nat) : Int) - 1 = (ys.length : Int) := by simp only [List.length_cons]; omega
    have h1 : (ys.length : Int) ≥ 0 := by omega
    have h1' : (0 : Int) ≤ (ys.length : Int) := by omega
    have h2 : (ys.length : Int) < (s.length : Int) := by omega
    have h5 : rd_T57 s (ys.length : Int) = y := by
      rw [← h, List.reverse_cons, List.append_assoc, show ys.length = ys.reverse.length by simp]
      exact getD_mid _ _ _ _
    have hyb := (noteB_iff y).1 (hn y (by rw [← h]; simp))
    have hxb := (noteB_iff x).1 hx
    have h4 : acc.length < 5864062014805 := by omega
    refine Ev.fuel ?_
    rw [e1]
    simp only [impl_fastRepeats.l1, h1, h1', h2, h5, ↓reduceIte, w_id (x := x.f1 - y.f1) (by omega) (by omega)]
    simp only [lastR] at hq
    by_cases hy : y.f0 = x.f0
    · simp only [hy, ↓reduceIte] at hq ⊢
      by_cases hf : x.f1 - y.f1 < rep
      · simp only [hf, h4, ↓reduceIte]
        simpa [fastOne, ← hq, hf, hR] using hres
      · simp only [hf, ↓reduceIte]
        simpa [fastOne, ← hq, hf, hR] using hres
    · simp only [hy, ↓reduceIte] at hq ⊢
      rw [w_id (x := (ys.length : Int) - 1) (by omega) (by omega)]
      exact ih (y :: t) (by rw [← h]; simp) hq
theorem fastRepeats_l0 (s : List S57) (rep : Int) (hs : s.length ≤ 1000) (hn : ∀ x ∈ s, noteB x = true) : ∀ (suf r : List S57) (acc : List (List Int)), r.reverse ++ suf = s → acc.length ≤ r.length →
    Ev (fun k => impl_fastRepeats.l0 k s rep acc s s.length r.length) (acc ++ fastFrom rep r suf) := by
  intro suf
  induction suf with
  | nil =>
    intro r acc h ha
    have hn : ¬ ((r.length : Int) < (s.length : Int)) := by rw [← h]; simp
    refine Ev.fuel ?_
    simp only [impl_fastRepeats.l0, hn, ↓reduceIte]
    exact Ev.const (by simp [fastFrom])
  | cons x suf ih =>
    intro r acc h ha
    have hlen : s.length = r.length + (suf.length + 1) := by rw [← h]; simp
    have h1 : (r.length : Int) < (s.length : Int) := by omega
    have h2 : (0 : Int) ≤ (r.length : Int) := by omega
    have h3 : rd_T57 s (r.length : Int) = x := by rw [← h, show r.length = r.reverse.length by simp]; exact getD_mid _ _ _ _
    have hx := hn x (by rw [← h]; simp)
    have h5 := fastOne_len rep r x
    have ec : (((x :: r).length : Nat) : Int) = ((r.length + 1 : Nat) : Int) := by simp
    refine Ev.fuel ?_
    simp only [impl_fastRepeats.l0, h1, h2, h3, ↓reduceIte, fastFrom]
    rw [w_id (x := (r.length : Int) - 1) (by omega) (by omega)]
    refine fast_l1 s rep hs hn x hx r.length r rfl acc (by omega) _ ?_ r (x :: suf) h rfl
    rw [wn r.length (by omega), ← List.append_assoc, ← ec]
    exact ih (x :: r) (acc ++ fastOne rep r x) (by rw [← h]; simp) (by simp only [List.length_append, List.length_cons]; omega)
theorem fastRepeats_ev (s : List S57) (rep : Int) (hs : s.length ≤ 1000) (hn : ∀ x ∈ s, noteB x = true) : Ev (fun k => impl_fastRepeats.f k s rep) (fastFrom rep [] s) := by
  unfold impl_fastRepeats.f
  exact fastRepeats_l0 s rep hs hn s [] [] rfl (Nat.le_refl _)
def missOf (l : List Int) : List S57 → List Int → List Int
  | [], acc => acc
  | y :: ys, acc => missOf l ys (if y.f0 ∈ l then acc else put y.f0 acc)
theorem missOf_nil (l : List Int) : ∀ (s : List S57) (acc : List Int), missOf l s acc = [] ↔ acc = [] ∧ ∀ y ∈ s, y.f0 ∈ l := by
  intro s
  induction s with
  | nil => intro acc; simp [missOf]
  | cons y ys ih =>
    intro acc
    simp only [missOf, ih, List.mem_cons, forall_eq_or_imp]
    by_cases hy : y.f0 ∈ l
    · simp [hy]
    · simp only [hy, ↓reduceIte, false_and, and_false, iff_false, not_and]
      intro hp
      exfalso
      have : y.f0 ∈ put y.f0 acc := (put_mem _ _ _).2 (Or.inl rfl)
      rw [hp] at this
      simp at this
theorem inMissing_l0 (l : List Int) (r : Int) (s : List S57) (hl : l.length ≤ 1048576) (hs : s.length ≤ 1000) : ∀ (suf pre : List S57) (acc : List Int), pre ++ suf = s → acc.length ≤ pre.length →
    Ev (fun k => spec_inMissing.l0 k acc s s.length pre.length l r) (missOf l suf acc) := by
  intro suf
  induction suf with
  | nil =>
    intro pre acc h ha
    have hn : ¬ ((pre.length : Int) < (s.length : Int)) := by rw [← h]; simp
    refine Ev.fuel ?_
    simp only [spec_inMissing.l0, hn, ↓reduceIte, missOf]
    exact Ev.now _
  | cons x suf ih =>
    intro pre acc h ha
    have hlen : s.length = pre.length + (suf.length + 1) := by rw [← h]; simp
    have h1 : (pre.length : Int) < (s.length : Int) := by omega
    have h2 : (0 : Int) ≤ (pre.length : Int) := by omega
    have h3 : rd_T57 s (pre.length : Int) = x := by rw [← h]; exact getD_mid _ _ _ _
    have iff := idxFrom_neg x.f0 l 0 (by omega)
    have e : ∀ acc, acc.length ≤ pre.length + 1 → Ev (fun k => spec_inMissing.l0 k acc s s.length ((pre.length + 1 : Nat) : Int) l r) (missOf l suf acc) := fun acc ha => by simpa using ih (pre ++ [x]) acc (by rw [← h]; simp) (by simpa using ha)
    refine Ev.fuel ?_
    simp only [spec_inMissing.l0, h1, h2, h3, ↓reduceIte, wn pre.length (by omega), missOf]
    refine Ev.bind (inTrack_ev l r x.f0 hl) ?_
    by_cases hm : x.f0 ∈ l
    · have : ¬ idxFrom x.f0 l 0 < 0 := fun q => iff.1 q hm
      simp only [this, hm, ↓reduceIte]
      exact e acc (by omega)
    · have : idxFrom x.f0 l 0 < 0 := iff.2 hm
      simp only [this, hm, ↓reduceIte]
      refine Ev.bind (l1Put_ev acc x.f0 (by omega)) ?_
      have := put_len x.f0 acc
      exact e _ (by omega)
theorem inMissing_ev (l : List Int) (r : Int) (s : List S57) (hl : l.length ≤ 1048576) (hs : s.length ≤ 1000) : Ev (fun k => spec_inMissing.f k l r s) (missOf l s []) := by
  unfold spec_inMissing.f
  exact inMissing_l0 l r s hl hs s [] [] rfl (Nat.le_refl _)
def playsB (l : List Int) (rep : Int) (s : List S57) : Bool := (s.all fun y => decide (y.f0 ∈ l)) && decide (fastFrom rep [] s = [])
theorem len0 {α : Type} (l : List α) : ((l.length : Int) == 0) = decide (l = []) := by
  cases l with
  | nil => rfl
  | cons x xs =>
    have : (((x :: xs).length : Nat) : Int) ≠ 0 := by simp only [List.length_cons]; omega
    rw [beq_eq_false_iff_ne.2 this]
    simp
theorem inPlays_ev (l : List Int) (r : Int) (s : List S57) (hl : l.length ≤ 1048576) (hs : s.length ≤ 1000) (hn : ∀ x ∈ s, noteB x = true) : Ev (fun k => spec_inPlays.f k l r s) (playsB l r s) := by
  unfold spec_inPlays.f
  refine Ev.bind (inMissing_ev l r s hl hs) ?_
  have hm := missOf_nil l s []
  by_cases h : missOf l s [] = []
  · have ha : (s.all fun y => decide (y.f0 ∈ l)) = true := by simpa using (hm.1 h).2
    simp only [h, List.length_nil, Int.natCast_zero, ↓reduceIte, playsB, ha, Bool.true_and]
    exact Ev.bind (inFast_ev s r hs hn) (Ev.const (by rw [len0]))
  · have ha : (s.all fun y => decide (y.f0 ∈ l)) = false := by
      cases hq : (s.all fun y => decide (y.f0 ∈ l)) with
      | false => rfl
      | true => exact absurd (hm.2 ⟨rfl, by simpa using hq⟩) h
    have h0 : ¬ (((missOf l s []).length : Int) = 0) := by
      have := List.length_pos_iff.2 h
      omega
    simp only [h0, ↓reduceIte, playsB, ha, Bool.false_and]
    exact Ev.now _
theorem canPlay_l0 (l : List Int) (r : Int) (s : List S57) (hl : l.length ≤ 1048576) (hs : s.length ≤ 1000) (hn : ∀ x ∈ s, noteB x = true) : ∀ (suf pre : List S57), pre ++ suf = s →
    Ev (fun k => impl_canPlay.l0 k s s s.length pre.length l r) ((suf.all fun y => decide (y.f0 ∈ l)) && decide (fastFrom r [] s = [])) := by
  intro suf
  induction suf with
  | nil =>
    intro pre h
    have hn' : ¬ ((pre.length : Int) < (s.length : Int)) := by rw [← h]; simp
    refine Ev.fuel ?_
    simp only [impl_canPlay.l0, hn', ↓reduceIte, List.all_nil, Bool.true_and]
    exact Ev.bind (fastRepeats_ev s r hs hn) (Ev.const (by rw [len0]))
  | cons x suf ih =>
    intro pre h
    have hlen : s.length = pre.length + (suf.length + 1) := by rw [← h]; simp
    have h1 : (pre.length : Int) < (s.length : Int) := by omega
    have h2 : (0 : Int) ≤ (pre.length : Int) := by omega
    have h3 : rd_T57 s (pre.length : Int) = x := by rw [← h]; exact getD_mid _ _ _ _
    refine Ev.fuel ?_
    simp only [impl_canPlay.l0, h1, h2, h3, ↓reduceIte, wn pre.length (by omega), List.all_cons]
    refine Ev.bind (Contains_ev l x.f0 hl) ?_
    by_cases hm : x.f0 ∈ l
    · simp only [hm, decide_true, ↓reduceIte, Bool.true_and]
      simpa using ih (pre ++ [x]) (by rw [← h]; simp)
    · simp only [hm, decide_false, Bool.false_eq_true, ↓reduceIte, Bool.false_and]
      exact Ev.now _
theorem canPlay_ev (l : List Int) (r : Int) (s : List S57) (hl : l.length ≤ 1048576) (hs : s.length ≤ 1000) (hn : ∀ x ∈ s, noteB x = true) : Ev (fun k => impl_canPlay.f k l r s) (playsB l r s) := by
  unfold impl_canPlay.f
  exact canPlay_l0 l r s hl hs hn s [] rfl
end Go.Proofs.Ytbfehdhncncgdaa.I
end
section
/- Plain facts on sheets: which holes are a sheet, and how long a track is open. No condition. -/
set_option linter.unusedVariables false
set_option linter.unusedSimpArgs false
namespace Go.Proofs.Ytbfehdhncncgdaa.I
open Go.RowKit Go.Proofs.YtbfehdhncncgdaaW.PrintWords Go.Proofs.YtbfehdhncncgdaaW.PrintLast Go.Proofs.YtbfehdhncncgdaaW.PrintMore

def holeB (x : S64) : Bool := decide (0 ≤ x.f0 ∧ x.f0 ≤ 19 ∧ 0 ≤ x.f1 ∧ x.f1 < x.f2 ∧ x.f2 ≤ 2000)
def holeLt (a b : S64) : Bool := decide (a.f1 < b.f1 ∨ a.f1 = b.f1 ∧ a.f0 < b.f0)
def touchB (x y : S64) : Bool := decide (x.f0 = y.f0 ∧ y.f2 ≥ x.f1)
theorem holeB_iff (x : S64) : holeB x = true ↔ (0 ≤ x.f0 ∧ x.f0 ≤ 19 ∧ 0 ≤ x.f1 ∧ x.f1 < x.f2 ∧ x.f2 ≤ 2000) := by simp [holeB]
theorem holeLt_iff (a b : S64) : holeLt a b = true ↔ (a.f1 < b.f1 ∨ a.f1 = b.f1 ∧ a.f0 < b.f0) := by simp [holeLt]
theorem l1In_h (a b c : Int) : spec_l1In.f a b c = some (decide (b ≤ a ∧ a ≤ c)) := by
  unfold spec_l1In.f
  by_cases h : a ≥ b
  · rw [if_pos h]; exact dec_eq (by omega)
  · rw [if_neg h]; exact dec_f (by omega)
theorem shHole_eq (t a b : Int) : spec_shHole.f t a b = some (holeB ⟨t, a, b⟩) := by
  unfold spec_shHole.f holeB
  simp only [l1In_h, Option.bind_some, decide_eq_true_eq]
  by_cases h1 : 0 ≤ t ∧ t ≤ 19
  · by_cases h2 : 0 ≤ a ∧ a ≤ 1999
    · simp only [h1.1, h1.2, h2.1, h2.2, and_self, ↓reduceIte, w_id (x := a + 1) (by omega) (by omega), true_and]
      exact dec_eq (by omega)
    · simp only [h1, h2, and_self, ↓reduceIte]; exact dec_f (by omega)
  · simp only [h1, ↓reduceIte]; exact dec_f (by omega)
theorem isTrackH_eq (a : Int) : impl_isTrack.f a = some (decide (0 ≤ a ∧ a ≤ 19)) := by
  unfold impl_isTrack.f
  split <;> (first | exact dec_eq (by omega) | exact dec_f (by omega))
theorem IsHole_eq (t a b : Int) : impl_IsHole.f t a b = some (holeB ⟨t, a, b⟩) := by
  unfold impl_IsHole.f holeB
  simp only [isTrackH_eq, Option.bind_some, decide_eq_true_eq]
  (repeat' split) <;> (first | exact dec_eq (by omega) | exact dec_f (by omega))
theorem shBefore_eq (a b : S64) : spec_shBefore.f a.f0 a.f1 a.f2 b.f0 b.f1 b.f2 = some (holeLt a b) := by
  unfold spec_shBefore.f holeLt
  (repeat' split) <;> (first | exact dec_eq (by omega) | exact dec_f (by omega) | exact dec_t (by omega))
theorem holeLess_eq (a b : S64) : impl_holeLess.f a.f0 a.f1 a.f2 b.f0 b.f1 b.f2 = some (holeLt a b) := by
  unfold impl_holeLess.f holeLt
  (repeat' split) <;> (first | exact dec_eq (by omega) | exact dec_f (by omega) | exact dec_t (by omega))
/-- Behind these holes, are the next ones a sheet? -/
def sheetFrom : List S64 → List S64 → Bool
  | _, [] => true
  | pre, x :: xs => holeB x && ((match pre.getLast? with | none => true | some y => holeLt y x) && (!(pre.any (touchB x)) && sheetFrom (pre ++ [x]) xs))
def goodSheet (l : List S64) : Bool := sheetFrom [] l && decide (l.length ≤ 60)
theorem shGood_l1 (l : List S64) (hl : l.length ≤ 1048576) (x : S64) (ni : Int) (p : List S64) (hpl : p.length ≤ 1048576) (r : Bool)
    (hr : Ev (fun k => spec_shGood.l0 k l l l.length (wrap64 (ni + 1))) r) : ∀ (suf pre : List S64), pre ++ suf = p →
    Ev (fun k => spec_shGood.l1 k l l l.length ni p p.length pre.length x.f0 x.f1 x.f2) (!(suf.any (touchB x)) && r) := by
  intro suf
  induction suf with
  | nil =>
    intro pre h
    have hn : ¬ ((pre.length : Int) < (p.length : Int)) := by rw [← h]; simp
    refine Ev.fuel ?_
    simp only [spec_shGood.l1, hn, ↓reduceIte, List.any_nil, Bool.not_false, Bool.true_and]
    exact hr
  | cons y suf ih =>
    intro pre h
    have hlen : p.length = pre.length + (suf.length + 1) := by rw [← h]; simp
    have h1 : (pre.length : Int) < (p.length : Int) := by omega
    have h2 : (0 : Int) ≤ (pre.length : Int) := by omega
    have h3 : rd_T64 p (pre.length : Int) = y := by rw [← h]; exact getD_mid _ _ _ _
    have e : Ev (fun k => spec_shGood.l1 k l l l.length ni p p.length ((pre.length + 1 : Nat) : Int) x.f0 x.f1 x.f2) (!(suf.any (touchB x)) && r) := by simpa using ih (pre ++ [y]) (by rw [← h]; simp)
    refine Ev.fuel ?_
    simp only [spec_shGood.l1, h1, h2, h3, ↓reduceIte, wn pre.length (by omega), List.any_cons]
    by_cases hm : x.f0 = y.f0
    · by_cases hq : y.f2 ≥ x.f1
      · rw [show touchB x y = true from by simp only [touchB, decide_eq_true_eq]; exact ⟨hm, hq⟩]
        simp only [hm, hq, ↓reduceIte, Bool.true_or, Bool.not_true, Bool.false_and]; exact Ev.now _
      · rw [show touchB x y = false from by simp only [touchB, decide_eq_false_iff_not]; omega]
        rw [hm] at e ⊢
        simp only [hq, ↓reduceIte, Bool.false_or]; exact e
    · rw [show touchB x y = false from by simp only [touchB, decide_eq_false_iff_not]; omega]
      simp only [hm, ↓reduceIte, Bool.false_or]; exact e
theorem shGood_l0 (l : List S64) (hl : l.length ≤ 1048576) : ∀ (suf pre : List S64), pre ++ suf = l →
    Ev (fun k => spec_shGood.l0 k l l l.length pre.length) (sheetFrom pre suf && decide (l.length ≤ 60)) := by
  intro suf
  induction suf with
  | nil =>
    intro pre h
    have hn : ¬ ((pre.length : Int) < (l.length : Int)) := by rw [← h]; simp
    refine Ev.fuel ?_
    simp only [spec_shGood.l0, hn, ↓reduceIte, sheetFrom, Bool.true_and]
    exact Ev.const (dec_eq (by omega))
  | cons x suf ih =>
    intro pre h
    have hlen : l.length = pre.length + (suf.length + 1) := by rw [← h]; simp
    have h1 : (pre.length : Int) < (l.length : Int) := by omega
    have h2 : (0 : Int) ≤ (pre.length : Int) := by omega
    have h3 : rd_T64 l (pre.length : Int) = x := by rw [← h]; exact getD_mid _ _ _ _
    have jT : Ev (fun k => spec_shGood.j1 k l pre.length l l.length pre.length true x.f0 x.f1 x.f2) false := by
      refine Ev.fuel ?_; simp only [spec_shGood.j1, ↓reduceIte]; exact Ev.now _
    refine Ev.fuel ?_
    simp only [spec_shGood.l0, h1, h2, h3, ↓reduceIte, shHole_eq, Option.bind_some, sheetFrom]
    by_cases hx : holeB x = true
    · have jF : Ev (fun k => spec_shGood.j1 k l pre.length l l.length pre.length false x.f0 x.f1 x.f2) (!(pre.any (touchB x)) && (sheetFrom (pre ++ [x]) suf && decide (l.length ≤ 60))) := by
        have c1 : (pre.length : Int) ≤ (l.length : Int) := by omega
        have tk : l.take ((pre.length : Int)).toNat = pre := by rw [← h]; simp
        refine Ev.fuel ?_
        simp only [spec_shGood.j1, Bool.false_eq_true, ↓reduceIte, h2, c1, tk, Option.bind_some]
        have e := ih (pre ++ [x]) (by rw [← h]; simp)
        refine shGood_l1 l hl x _ pre (by omega) _ ?_ pre [] rfl
        rw [wn pre.length (by omega)]
        simpa using e
      simp only [hx, ↓reduceIte, Bool.true_and]
      rcases nil_or_snoc pre with rfl | ⟨pre', y, rfl⟩
      · simp only [List.length_nil, Int.natCast_zero, Int.lt_irrefl, gt_iff_lt, ↓reduceIte, List.getLast?_nil, Bool.true_and]
        simpa using jF
      · have hc : (pre' ++ [y]).length = pre'.length + 1 := by simp
        have g1 : ((pre' ++ [y]).length : Int) > 0 := by omega
        have g2 : wrap64 (((pre' ++ [y]).length : Int) - 1) = (pre'.length : Int) := by rw [w_id (by omega) (by omega)]; omega
        have g3 : (0 : Int) ≤ (pre'.length : Int) := by omega
        have g4 : (pre'.length : Int) < (l.length : Int) := by omega
        have g5 : rd_T64 l (pre'.length : Int) = y := by rw [← h, List.append_assoc]; exact getD_mid _ _ _ _
        have gl : (pre' ++ [y]).getLast? = some y := by simp
        simp only [g1, g2, g3, g4, g5, gl, ↓reduceIte, shBefore_eq, Option.bind_some]
        by_cases hy : holeLt y x = true
        · simp only [hy, Bool.not_true, Bool.true_and, Bool.and_assoc]; exact jF
        · simp only [Bool.eq_false_iff.mpr hy, Bool.not_false, Bool.false_and]; exact jT
    · simp only [Bool.eq_false_iff.mpr hx, Bool.false_eq_true, ↓reduceIte, Bool.false_and]; exact jT
theorem shGood_ev (l : List S64) (hl : l.length ≤ 1048576) : Ev (fun k => spec_shGood.f k l) (goodSheet l) := by
  unfold spec_shGood.f
  exact shGood_l0 l hl l [] rfl
theorem IsSheet_l1 (l : List S64) (hl : l.length ≤ 1048576) (x : S64) (ni : Int) (p : List S64) (hpl : p.length ≤ 1048576) (r : Bool)
    (hr : Ev (fun k => impl_IsSheet.l0 k l l l.length (wrap64 (ni + 1))) r) : ∀ (suf pre : List S64), pre ++ suf = p →
    Ev (fun k => impl_IsSheet.l1 k l l l.length ni p p.length pre.length x.f0 x.f1 x.f2) (!(suf.any (touchB x)) && r) := by
  intro suf
  induction suf with
  | nil =>
    intro pre h
    have hn : ¬ ((pre.length : Int) < (p.length : Int)) := by rw [← h]; simp
    refine Ev.fuel ?_
    simp only [impl_IsSheet.l1, hn, ↓reduceIte, List.any_nil, Bool.not_false, Bool.true_and]
    exact hr
  | cons y suf ih =>
    intro pre h
    have hlen : p.length = pre.length + (suf.length + 1) := by rw [← h]; simp
    have h1 : (pre.length : Int) < (p.length : Int) := by omega
    have h2 : (0 : Int) ≤ (pre.length : Int) := by omega
    have h3 : rd_T64 p (pre.length : Int) = y := by rw [← h]; exact getD_mid _ _ _ _
    have e : Ev (fun k => impl_IsSheet.l1 k l l l.length ni p p.length ((pre.length + 1 : Nat) : Int) x.f0 x.f1 x.f2) (!(suf.any (touchB x)) && r) := by simpa using ih (pre ++ [y]) (by rw [← h]; simp)
    refine Ev.fuel ?_
    simp only [impl_IsSheet.l1, h1, h2, h3, ↓reduceIte, wn pre.length (by omega), List.any_cons]
    by_cases hm : y.f0 = x.f0
    · by_cases hq : y.f2 ≥ x.f1
      · rw [show touchB x y = true from by simp only [touchB, decide_eq_true_eq]; exact ⟨hm.symm, hq⟩]
        simp only [hm, hq, ↓reduceIte, Bool.true_or, Bool.not_true, Bool.false_and]; exact Ev.now _
      · rw [show touchB x y = false from by simp only [touchB, decide_eq_false_iff_not]; omega]
        simp only [hm, hq, ↓reduceIte, Bool.false_or]; exact e
    · rw [show touchB x y = false from by simp only [touchB, decide_eq_false_iff_not]; omega]
      simp only [hm, ↓reduceIte, Bool.false_or]; exact e
theorem IsSheet_l0 (l : List S64) (hl : l.length ≤ 1048576) : ∀ (suf pre : List S64), pre ++ suf = l →
    Ev (fun k => impl_IsSheet.l0 k l l l.length pre.length) (sheetFrom pre suf) := by
  intro suf
  induction suf with
  | nil =>
    intro pre h
    have hn : ¬ ((pre.length : Int) < (l.length : Int)) := by rw [← h]; simp
    refine Ev.fuel ?_
    simp only [impl_IsSheet.l0, hn, ↓reduceIte, sheetFrom]
    exact Ev.now _
  | cons x suf ih =>
    intro pre h
    have hlen : l.length = pre.length + (suf.length + 1) := by rw [← h]; simp
    have h1 : (pre.length : Int) < (l.length : Int) := by omega
    have h2 : (0 : Int) ≤ (pre.length : Int) := by omega
    have h3 : rd_T64 l (pre.length : Int) = x := by rw [← h]; exact getD_mid _ _ _ _
    have jT : Ev (fun k => impl_IsSheet.j1 k l pre.length l l.length pre.length true x.f0 x.f1 x.f2) false := by
      refine Ev.fuel ?_; simp only [impl_IsSheet.j1, ↓reduceIte]; exact Ev.now _
    refine Ev.fuel ?_
    simp only [impl_IsSheet.l0, h1, h2, h3, ↓reduceIte, IsHole_eq, Option.bind_some, sheetFrom]
    by_cases hx : holeB x = true
    · have jF : Ev (fun k => impl_IsSheet.j1 k l pre.length l l.length pre.length false x.f0 x.f1 x.f2) (!(pre.any (touchB x)) && sheetFrom (pre ++ [x]) suf) := by
        have c1 : (pre.length : Int) ≤ (l.length : Int) := by omega
        have tk : l.take ((pre.length : Int)).toNat = pre := by rw [← h]; simp
        refine Ev.fuel ?_
        simp only [impl_IsSheet.j1, Bool.false_eq_true, ↓reduceIte, h2, c1, tk, Option.bind_some]
        have e := ih (pre ++ [x]) (by rw [← h]; simp)
        refine IsSheet_l1 l hl x _ pre (by omega) _ ?_ pre [] rfl
        rw [wn pre.length (by omega)]
        simpa using e
      simp only [hx, ↓reduceIte, Bool.true_and]
      rcases nil_or_snoc pre with rfl | ⟨pre', y, rfl⟩
      · simp only [List.length_nil, Int.natCast_zero, Int.lt_irrefl, gt_iff_lt, ↓reduceIte, List.getLast?_nil, Bool.true_and]
        simpa using jF
      · have hc : (pre' ++ [y]).length = pre'.length + 1 := by simp
        have g1 : ((pre' ++ [y]).length : Int) > 0 := by omega
        have g2 : wrap64 (((pre' ++ [y]).length : Int) - 1) = (pre'.length : Int) := by rw [w_id (by omega) (by omega)]; omega
        have g3 : (0 : Int) ≤ (pre'.length : Int) := by omega
        have g4 : (pre'.length : Int) < (l.length : Int) := by omega
        have g5 : rd_T64 l (pre'.length : Int) = y := by rw [← h, List.append_assoc]; exact getD_mid _ _ _ _
        have gl : (pre' ++ [y]).getLast? = some y := by simp
        simp only [g1, g2, g3, g4, g5, gl, ↓reduceIte, holeLess_eq, Option.bind_some]
        by_cases hy : holeLt y x = true
        · simp only [hy, Bool.not_true, Bool.true_and]; exact jF
        · simp only [Bool.eq_false_iff.mpr hy, Bool.not_false, Bool.false_and]; exact jT
    · simp only [Bool.eq_false_iff.mpr hx, Bool.false_eq_true, ↓reduceIte, Bool.false_and]; exact jT
theorem IsSheet_ev (l : List S64) (hl : l.length ≤ 1048576) : Ev (fun k => impl_IsSheet.f k l) (goodSheet l) := by
  unfold impl_IsSheet.f goodSheet
  by_cases h : (l.length : Int) > 60
  · simp only [h, ↓reduceIte, show ¬ l.length ≤ 60 from by omega, decide_false, Bool.and_false]; exact Ev.now _
  · simp only [h, ↓reduceIte, show l.length ≤ 60 from by omega, decide_true, Bool.and_true]
    exact IsSheet_l0 l hl l [] rfl
theorem sheetFrom_all : ∀ (l pre : List S64), sheetFrom pre l = true → ∀ x ∈ l, holeB x = true := by
  intro l
  induction l with
  | nil => intro pre _ x hx; simp at hx
  | cons y l ih =>
    intro pre h x hx
    simp only [sheetFrom, Bool.and_eq_true] at h
    rcases List.mem_cons.1 hx with rfl | hx
    · exact h.1
    · exact ih _ h.2.2.2 x hx
theorem goodSheet_all {l : List S64} (h : goodSheet l = true) : ∀ x ∈ l, holeB x = true := by
  simp only [goodSheet, Bool.and_eq_true] at h
  exact sheetFrom_all l _ h.1
theorem goodSheet_len {l : List S64} (h : goodSheet l = true) : l.length ≤ 60 := by
  simp only [goodSheet, Bool.and_eq_true, decide_eq_true_eq] at h
  exact h.2
end Go.Proofs.Ytbfehdhncncgdaa.I
end
section
/- Plain facts on sheets: holes put in order, by the program and by the reference. No condition. -/
set_option linter.unusedVariables false
set_option linter.unusedSimpArgs false
namespace Go.Proofs.Ytbfehdhncncgdaa.I
open Go.RowKit Go.Proofs.YtbfehdhncncgdaaW.PrintWords Go.Proofs.YtbfehdhncncgdaaW.PrintLast Go.Proofs.YtbfehdhncncgdaaW.PrintMore

theorem holeLt_ltB (a b : S64) : holeLt a b = SHole.ltB a b := by
  unfold holeLt SHole.ltB
  split
  · rw [decide_eq_decide]; omega
  · rw [decide_eq_decide]; omega
theorem ltB_iff (a b : S64) : SHole.ltB a b = true ↔ (a.f1 < b.f1 ∨ a.f1 = b.f1 ∧ a.f0 < b.f0) := by rw [← holeLt_ltB]; exact holeLt_iff a b
theorem ltB_false (a b : S64) : SHole.ltB a b = false ↔ ¬ (a.f1 < b.f1 ∨ a.f1 = b.f1 ∧ a.f0 < b.f0) := by
  rw [← ltB_iff]; simp
theorem touchB_false (x y : S64) : touchB x y = false ↔ ¬ (x.f0 = y.f0 ∧ y.f2 ≥ x.f1) := by unfold touchB; simp
theorem sheetFrom_iff : ∀ (l pre : List S64), sheetFrom pre l = true ↔
    ((∀ x ∈ l, holeB x = true) ∧ SA.Rising SHole.ltB l ∧ (∀ y, pre.getLast? = some y → ∀ x ∈ l, SHole.ltB y x = true) ∧ l.Pairwise (fun y x => touchB x y = false) ∧ ∀ y ∈ pre, ∀ x ∈ l, touchB x y = false) := by
  intro l
  induction l with
  | nil =>
    intro pre
    simp [sheetFrom, SA.Rising]
  | cons x xs ih =>
    intro pre
    have hlast : (pre ++ [x]).getLast? = some x := by simp
    simp only [sheetFrom, Bool.and_eq_true, ih (pre ++ [x]), hlast, Bool.not_eq_true', List.any_eq_false]
    constructor
    · rintro ⟨h1, h2, h3, h4, h5, h6, h7, h8⟩
      have h3' : ∀ y ∈ pre, touchB x y = false := fun y hy => by simpa using h3 y hy
      have h6' : ∀ z ∈ xs, SHole.ltB x z = true := h6 x rfl
      refine ⟨fun z hz => ?_, List.pairwise_cons.2 ⟨h6', h5⟩, fun y hy z hz => ?_, List.pairwise_cons.2 ⟨fun z hz => h8 x (by simp) z hz, h7⟩, fun y hy z hz => ?_⟩
      · rcases List.mem_cons.1 hz with rfl | hz
        · exact h1
        · exact h4 z hz
      · rw [hy] at h2
        have hyx : SHole.ltB y x = true := by rw [← holeLt_ltB]; exact h2
        rcases List.mem_cons.1 hz with rfl | hz
        · exact hyx
        · exact SHole.swo.trans _ _ _ hyx (h6' z hz)
      · rcases List.mem_cons.1 hz with rfl | hz
        · exact h3' y hy
        · exact h8 y (by simp [hy]) z hz
    · rintro ⟨h1, h2, h3, h4, h5⟩
      obtain ⟨q1, q2⟩ := List.pairwise_cons.1 h2
      obtain ⟨q3, q4⟩ := List.pairwise_cons.1 h4
      refine ⟨h1 x List.mem_cons_self, ?_, fun y hy => ?_, fun z hz => h1 z (List.mem_cons_of_mem _ hz), q2, fun y hy z hz => ?_, q4, fun y hy z hz => ?_⟩
      · cases hp : pre.getLast? with
        | none => rfl
        | some y =>
          show holeLt y x = true
          rw [holeLt_ltB]; exact h3 y hp x List.mem_cons_self
      · simpa using h5 y hy x List.mem_cons_self
      · cases hy; exact q1 z hz
      · rcases List.mem_append.1 hy with hy | hy
        · exact h5 y hy z (List.mem_cons_of_mem _ hz)
        · simp only [List.mem_singleton] at hy; subst hy; exact q3 z hz
theorem goodSheet_iff (l : List S64) : goodSheet l = true ↔ ((∀ x ∈ l, holeB x = true) ∧ SA.Rising SHole.ltB l ∧ l.Pairwise (fun y x => touchB x y = false) ∧ l.length ≤ 60) := by
  unfold goodSheet
  rw [Bool.and_eq_true, sheetFrom_iff, decide_eq_true_eq]
  constructor
  · rintro ⟨⟨h1, h2, _, h4, _⟩, h5⟩
    exact ⟨h1, h2, h4, h5⟩
  · rintro ⟨h1, h2, h3, h4⟩
    exact ⟨⟨h1, h2, fun y hy => by simp at hy, h3, fun y hy => by cases hy⟩, h4⟩
def sheetRes (l : List S64) : List S64 × Bool := if goodSheet (SA.isort SHole.ltB l) = true then (SA.isort SHole.ltB l, true) else ([], false)
theorem sheetRes_len (l : List S64) : (sheetRes l).1.length ≤ 1048576 := by
  unfold sheetRes
  split
  · rename_i h
    have := ((goodSheet_iff _).1 h).2.2.2
    show (SA.isort SHole.ltB l).length ≤ _
    omega
  · simp
theorem sheetRes_good (l : List S64) : goodSheet (sheetRes l).1 = true := by
  unfold sheetRes
  split
  · assumption
  · rfl
theorem sheetRes_srt (l : List S64) : sheetRes l = if goodSheet (SHole.srt l) = true then (SHole.srt l, true) else ([], false) := by
  unfold sheetRes
  by_cases h : goodSheet (SA.isort SHole.ltB l) = true
  · have e : SHole.srt l = SA.isort SHole.ltB l := SA.srt_isort_rising SHole.ltB SHole.swo l (.inr ((goodSheet_iff _).1 h).2.1)
    rw [e]
  · by_cases h' : goodSheet (SHole.srt l) = true
    · have e : SHole.srt l = SA.isort SHole.ltB l := SA.srt_isort_rising SHole.ltB SHole.swo l (.inl ((goodSheet_iff _).1 h').2.1)
      rw [e]
    · rw [if_neg h, if_neg h']
theorem isort_rising (l : List S64) (h : SA.Rising SHole.ltB l) : SA.isort SHole.ltB l = l :=
  (SA.asc_rising SHole.ltB SHole.swo _ _ (SA.isort_perm SHole.ltB l).symm h (SA.isort_asc SHole.ltB SHole.swo l)).symm
theorem sheetOf_ev (l : List S64) (hl : l.length ≤ 1048576) : Ev (fun k => impl_sheetOf.f k l) (sheetRes l) := by
  unfold impl_sheetOf.f SHole.ofF
  have hz : (SHole.srt l).length = l.length := SA.srtL_length SHole.ltB SHole.swo l
  rw [sheetRes_srt]
  by_cases h60 : l.length ≤ 60
  · simp only [h60, ↓reduceIte]
    refine Ev.bind (IsSheet_ev _ (by omega)) ?_
    by_cases hg : goodSheet (SHole.srt l) = true
    · simp only [hg, ↓reduceIte]; exact Ev.now _
    · simp only [hg, Bool.false_eq_true, ↓reduceIte]; exact Ev.now _
  · simp only [h60, ↓reduceIte]
    have hg : ¬ goodSheet (SHole.srt l) = true := fun h => h60 (by have := ((goodSheet_iff _).1 h).2.2.2; omega)
    simp only [hg, ↓reduceIte]
    exact Ev.now _
theorem set_midH {α : Type} (a b : List α) (x y : α) : (a ++ x :: b).set (((a.length : Nat) : Int)).toNat y = a ++ y :: b := by simp

/-- Two holes that do not meet on one track. -/
def apartH (x y : S64) : Prop := x.f0 = y.f0 → x.f2 < y.f1 ∨ y.f2 < x.f1
theorem apartH_symm {x y : S64} (h : apartH x y) : apartH y x := fun e => (h e.symm).symm
theorem good_apart {l : List S64} (h : goodSheet l = true) : l.Pairwise apartH := by
  have h' := (goodSheet_iff l).1 h
  refine h'.2.2.1.imp fun {y x} ht he => ?_
  rw [touchB_false] at ht
  omega
theorem apart_good {l : List S64} (h1 : ∀ x ∈ l, holeB x = true) (h2 : l.Pairwise apartH) (h3 : l.length ≤ 60) : goodSheet (SA.isort SHole.ltB l) = true := by
  have hp := SA.isort_perm SHole.ltB l
  have ha := SA.isort_asc SHole.ltB SHole.swo l
  have hap : (SA.isort SHole.ltB l).Pairwise apartH := hp.symm.pairwise h2 (fun h => apartH_symm h)
  have hb : ∀ x ∈ SA.isort SHole.ltB l, holeB x = true := fun x hx => h1 x (hp.subset hx)
  have hall : (SA.isort SHole.ltB l).Pairwise fun y x => SHole.ltB y x = true ∧ touchB x y = false := by
    refine List.Pairwise.imp_of_mem (R := fun y x => SHole.ltB x y = false ∧ apartH y x) ?_ (ha.and hap)
    rintro y x hy hx ⟨hlt, hapx⟩
    have by_ := (holeB_iff y).1 (hb y hy)
    have bx_ := (holeB_iff x).1 (hb x hx)
    rw [ltB_false] at hlt
    rw [ltB_iff, touchB_false]
    unfold apartH at hapx
    by_cases e : y.f0 = x.f0
    · have := hapx e; omega
    · omega
  rw [goodSheet_iff]
  exact ⟨hb, hall.imp fun h => h.1, hall.imp fun h => h.2, by rw [SA.isort_length]; exact h3⟩
end Go.Proofs.Ytbfehdhncncgdaa.I
end
section
/- Plain facts on notes laid out as holes. No condition. -/
set_option linter.unusedVariables false
set_option linter.unusedSimpArgs false
namespace Go.Proofs.Ytbfehdhncncgdaa.I
open Go.RowKit Go.Proofs.YtbfehdhncncgdaaW.PrintWords Go.Proofs.YtbfehdhncncgdaaW.PrintLast Go.Proofs.YtbfehdhncncgdaaW.PrintMore

/-- The hole of a note: track, From, To, and whether there is one. -/
def holeOf (l : List Int) (x : S57) : Int × Int × Int × Bool :=
  if holeB ⟨idxFrom x.f0 l 0, 2 * x.f1, 2 * (x.f1 + x.f2) - 1⟩ = true then (idxFrom x.f0 l 0, 2 * x.f1, 2 * (x.f1 + x.f2) - 1, true) else (0, 0, 0, false)
theorem holeFor_ev (l : List Int) (r : Int) (x : S57) (hl : l.length ≤ 1048576) (hx : noteB x = true) : Ev (fun k => impl_holeFor.f k l r x.f0 x.f1 x.f2) (holeOf l x) := by
  have h := (noteB_iff x).1 hx
  unfold impl_holeFor.f holeOf
  refine Ev.bind (Index_ev l x.f0 hl) ?_
  simp only [noteEnd_eq hx, Option.bind_some, w_id (x := 2 * x.f1) (by omega) (by omega), w_id (x := 2 * (x.f1 + x.f2)) (by omega) (by omega), w_id (x := 2 * (x.f1 + x.f2) - 1) (by omega) (by omega), IsHole_eq]
  by_cases hi : idxFrom x.f0 l 0 < 0
  · have : holeB ⟨idxFrom x.f0 l 0, 2 * x.f1, 2 * (x.f1 + x.f2) - 1⟩ = false := by
      cases hq : holeB ⟨idxFrom x.f0 l 0, 2 * x.f1, 2 * (x.f1 + x.f2) - 1⟩ with
      | false => rfl
      | true => have := (holeB_iff _).1 hq; simp only at this; omega
    simp only [hi, ↓reduceIte, this, Bool.false_eq_true]; exact Ev.now _
  · simp only [hi, ↓reduceIte]
    split <;> exact Ev.now _
theorem laNote_same (k : Nat) (l : List Int) (r a b c : Int) : impl_noteFor.f k l r a b c = spec_laNote.f k l r a b c := by
  have j : ∀ k g (l : List Int) r a b c, impl_noteFor.j0 k g l r a b c = spec_laNote.j0 k g l r a b c := by
    intro k g l r a b c
    cases k with
    | zero => rfl
    | succ k =>
      have eN := fun x y z => ntNote_eq ⟨x, y, z⟩
      have eI := fun x y z => IsNote_eq ⟨x, y, z⟩
      simp only at eN eI
      simp only [impl_noteFor.j0, spec_laNote.j0, eN, eI]
  unfold impl_noteFor.f spec_laNote.f
  simp only [j]
theorem laNote_ev (l : List Int) (r : Int) (a b c : Int) (ha : 0 ≤ a) : ∃ r0, Ev (fun k => spec_laNote.f k l r a b c) r0 := by
  have jT : ∀ g : Bool, ∃ r0, Ev (fun k => spec_laNote.j0 k g l r a b c) r0 ∨ ¬ a < (l.length : Int) := fun g => by
    by_cases hlt : a < (l.length : Int)
    · by_cases hg : g = true
      · exact ⟨(0, 0, 0, false), Or.inl (by refine Ev.fuel ?_; simp only [spec_laNote.j0, hg, ↓reduceIte]; exact Ev.now _)⟩
      · have eN := fun x y z => ntNote_eq ⟨x, y, z⟩
        simp only at eN
        by_cases hn : noteB ⟨rd l a, wrap64 (Int.tdiv b 2), wrap64 (wrap64 (Int.tdiv (wrap64 (c + 1)) 2) - wrap64 (Int.tdiv b 2))⟩ = true
        · exact ⟨(rd l a, wrap64 (Int.tdiv b 2), wrap64 (wrap64 (Int.tdiv (wrap64 (c + 1)) 2) - wrap64 (Int.tdiv b 2)), true), Or.inl (by refine Ev.fuel ?_; simp only [spec_laNote.j0, hg, ha, hlt, eN, hn, Option.bind_some, ↓reduceIte, Bool.false_eq_true]; exact Ev.now _)⟩
        · exact ⟨(0, 0, 0, false), Or.inl (by refine Ev.fuel ?_; simp only [spec_laNote.j0, hg, ha, hlt, eN, hn, Option.bind_some, ↓reduceIte, Bool.false_eq_true]; exact Ev.now _)⟩
    · exact ⟨(0, 0, 0, false), Or.inr hlt⟩
  have jF : Ev (fun k => spec_laNote.j0 k true l r a b c) (0, 0, 0, false) := by refine Ev.fuel ?_; simp only [spec_laNote.j0, ↓reduceIte]; exact Ev.now _
  unfold spec_laNote.f
  by_cases h1 : a ≥ (l.length : Int)
  · exact ⟨(0, 0, 0, false), by simp only [h1, ↓reduceIte]; exact jF⟩
  · by_cases h2 : Int.tmod b 2 = 0
    · obtain ⟨r0, h | h⟩ := jT (Int.tmod c 2 != 1)
      · exact ⟨r0, by simp only [h1, h2, ↓reduceIte]; exact h⟩
      · omega
    · exact ⟨(0, 0, 0, false), by simp only [h1, h2, ↓reduceIte]; exact jF⟩
end Go.Proofs.Ytbfehdhncncgdaa.I
end
section
/- Plain facts on sheets: a sheet that is put in order and moved is one that is moved and put in order. No condition. -/
set_option linter.unusedVariables false
set_option linter.unusedSimpArgs false
namespace Go.Proofs.Ytbfehdhncncgdaa.I
open Go.RowKit Go.Proofs.YtbfehdhncncgdaaW.PrintWords Go.Proofs.YtbfehdhncncgdaaW.PrintLast Go.Proofs.YtbfehdhncncgdaaW.PrintMore

def shiftH (b : Int) (x : S64) : S64 := ⟨x.f0, wrap64 (x.f1 + b), wrap64 (x.f2 + b)⟩
theorem shiftH_eq {b : Int} {x : S64} (hb : 0 ≤ b ∧ b ≤ 1000000) (hx : holeB x = true) : (shiftH b x).f0 = x.f0 ∧ (shiftH b x).f1 = x.f1 + b ∧ (shiftH b x).f2 = x.f2 + b := by
  have h := (holeB_iff x).1 hx
  unfold shiftH
  exact ⟨rfl, w_id (by omega) (by omega), w_id (by omega) (by omega)⟩
theorem shift_rising {l : List S64} {b : Int} (hb : 0 ≤ b ∧ b ≤ 1000000) (hl : ∀ x ∈ l, holeB x = true) : SA.Rising SHole.ltB (l.map (shiftH b)) ↔ SA.Rising SHole.ltB l := by
  unfold SA.Rising
  rw [List.pairwise_map]
  have key : ∀ x ∈ l, ∀ y ∈ l, (SHole.ltB (shiftH b x) (shiftH b y) = true ↔ SHole.ltB x y = true) := by
    intro x hx y hy
    obtain ⟨a0, a1, a2⟩ := shiftH_eq hb (hl x hx)
    obtain ⟨c0, c1, c2⟩ := shiftH_eq hb (hl y hy)
    rw [ltB_iff, ltB_iff, a0, a1, c0, c1]
    omega
  constructor
  · intro h
    exact List.Pairwise.imp_of_mem (fun hx hy hxy => (key _ hx _ hy).1 hxy) h
  · intro h
    exact List.Pairwise.imp_of_mem (fun hx hy hxy => (key _ hx _ hy).2 hxy) h
theorem isort_shift {l : List S64} {b : Int} (hb : 0 ≤ b ∧ b ≤ 1000000) (hl : ∀ x ∈ l, holeB x = true) (hr : SA.Rising SHole.ltB (SA.isort SHole.ltB l)) : SA.isort SHole.ltB (l.map (shiftH b)) = (SA.isort SHole.ltB l).map (shiftH b) := by
  have hp := SA.isort_perm SHole.ltB l
  have hr2 : SA.Rising SHole.ltB ((SA.isort SHole.ltB l).map (shiftH b)) := (shift_rising hb (fun x hx => hl x (hp.subset hx))).2 hr
  have hp2 : ((SA.isort SHole.ltB l).map (shiftH b)).Perm (SA.isort SHole.ltB (l.map (shiftH b))) := (hp.map _).trans (SA.isort_perm SHole.ltB _).symm
  exact (SA.asc_rising SHole.ltB SHole.swo _ _ hp2 hr2 (SA.isort_asc SHole.ltB SHole.swo _)).symm
theorem shift_res {l : List S64} {b : Int} (hb : 0 ≤ b ∧ b ≤ 1000000) (hl : ∀ x ∈ l, holeB x = true) :
    (if (sheetRes l).2 = true then sheetRes ((sheetRes l).1.map (shiftH b)) else ([], false)) = sheetRes (l.map (shiftH b)) := by
  by_cases hg : goodSheet (SA.isort SHole.ltB l) = true
  · have e : sheetRes l = (SA.isort SHole.ltB l, true) := by unfold sheetRes; rw [if_pos hg]
    have hr := ((goodSheet_iff _).1 hg).2.1
    have hp := SA.isort_perm SHole.ltB l
    rw [e]
    simp only [↓reduceIte]
    unfold sheetRes
    rw [isort_shift hb hl hr, isort_rising _ ((shift_rising hb (fun x hx => hl x (hp.subset hx))).2 hr)]
  · have e : sheetRes l = ([], false) := by unfold sheetRes; rw [if_neg hg]
    rw [e]
    simp only [Bool.false_eq_true, ↓reduceIte]
    unfold sheetRes
    rw [if_neg]
    intro hm
    have hap := good_apart hm
    have hlen := ((goodSheet_iff _).1 hm).2.2.2
    have hp := SA.isort_perm SHole.ltB (l.map (shiftH b))
    have hap2 : (l.map (shiftH b)).Pairwise apartH := hp.pairwise hap (fun h => apartH_symm h)
    rw [List.pairwise_map] at hap2
    rw [SA.isort_length, List.length_map] at hlen
    refine hg (apart_good hl ?_ hlen)
    refine List.Pairwise.imp_of_mem (R := fun x y => apartH (shiftH b x) (shiftH b y)) ?_ hap2
    intro x y hx hy hxy
    obtain ⟨a0, a1, a2⟩ := shiftH_eq hb (hl x hx)
    obtain ⟨c0, c1, c2⟩ := shiftH_eq hb (hl y hy)
    unfold apartH at hxy ⊢
    rw [a0, a1, a2, c0, c1, c2] at hxy
    intro h
    have := hxy h
    omega
theorem shift_zero {l : List S64} (hl : ∀ x ∈ l, holeB x = true) : l.map (shiftH 0) = l := by
  have : ∀ x ∈ l, shiftH 0 x = x := by
    intro x hx
    obtain ⟨a0, a1, a2⟩ := shiftH_eq (b := 0) (by omega) (hl x hx)
    rw [Int.add_zero] at a1 a2
    generalize shiftH 0 x = y at a0 a1 a2
    cases x; cases y; simp_all
  rw [List.map_congr_left this, List.map_id']
end Go.Proofs.Ytbfehdhncncgdaa.I
end
section
/- Plain facts on layouts: the reference's and the program's. No condition. -/
set_option linter.unusedVariables false
set_option linter.unusedSimpArgs false
namespace Go.Proofs.Ytbfehdhncncgdaa.I
open Go.RowKit Go.Proofs.YtbfehdhncncgdaaW.PrintWords Go.Proofs.YtbfehdhncncgdaaW.PrintLast Go.Proofs.YtbfehdhncncgdaaW.PrintMore

def layH (l : List Int) (x : S57) : S64 := ⟨(holeOf l x).1, (holeOf l x).2.1, (holeOf l x).2.2.1⟩
def layAll (l : List Int) (s : List S57) : Bool := s.all fun x => (holeOf l x).2.2.2
theorem layH_good {l : List Int} {x : S57} (h : (holeOf l x).2.2.2 = true) : holeB (layH l x) = true := by
  unfold layH
  unfold holeOf at h ⊢
  split at h
  · rename_i hb; rw [if_pos hb]; exact hb
  · cases h
theorem layAll_good {l : List Int} {s : List S57} (h : layAll l s = true) : ∀ y ∈ s.map (layH l), holeB y = true := by
  intro y hy
  obtain ⟨x, hx, rfl⟩ := List.mem_map.1 hy
  exact layH_good (List.all_eq_true.1 h x hx)
theorem layOut_l0 (l : List Int) (r : Int) (s : List S57) (hl : l.length ≤ 1048576) (hs : s.length ≤ 1000) (hn : ∀ x ∈ s, noteB x = true) : ∀ (suf pre : List S57), pre ++ suf = s →
    Ev (fun k => impl_layOut.l0 k (pre.map (layH l)) s s.length pre.length l r) (if layAll l suf = true then sheetRes (s.map (layH l)) else ([], false)) := by
  intro suf
  induction suf with
  | nil =>
    intro pre h
    have hc : ¬ ((pre.length : Int) < (s.length : Int)) := by rw [← h]; simp
    refine Ev.fuel ?_
    simp only [impl_layOut.l0, hc, ↓reduceIte]
    have e : pre = s := by rw [← h]; simp
    rw [e]
    exact Ev.bind (sheetOf_ev _ (by simp; omega)) (Ev.now _)
  | cons x suf ih =>
    intro pre h
    have hlen : s.length = pre.length + (suf.length + 1) := by rw [← h]; simp
    have c1 : (pre.length : Int) < (s.length : Int) := by omega
    have c2 : (0 : Int) ≤ (pre.length : Int) := by omega
    have c3 : rd_T57 s (pre.length : Int) = x := by rw [← h]; exact getD_mid _ _ _ _
    have c4 : (pre.map (layH l)).length < 5864062014805 := by simp; omega
    have hx := hn x (by rw [← h]; simp)
    refine Ev.fuel ?_
    simp only [impl_layOut.l0, c1, c2, c3, ↓reduceIte]
    refine Ev.bind (holeFor_ev l r x hl hx) ?_
    by_cases ht : (holeOf l x).2.2.2 = true
    · have e := ih (pre ++ [x]) (by rw [← h]; simp)
      have e2 : layAll l (x :: suf) = layAll l suf := by unfold layAll; simp [ht]
      rw [e2]
      simp only [ht, ↓reduceIte, c4, wn pre.length (by omega)]
      have e' : Ev (fun k => impl_layOut.l0 k ((pre.map (layH l)) ++ [layH l x]) s s.length ((pre.length + 1 : Nat) : Int) l r) (if layAll l suf = true then sheetRes (s.map (layH l)) else ([], false)) := by simpa using e
      exact e'
    · have e2 : layAll l (x :: suf) = false := by unfold layAll; simp [ht]
      rw [e2]
      simp only [ht, Bool.false_eq_true, ↓reduceIte]
      exact Ev.now _
def layRes (l : List Int) (r : Int) (s : List S57) : List S64 × Bool := if playsB l r s = true then (if layAll l s = true then sheetRes (s.map (layH l)) else ([], false)) else ([], false)
theorem layRes_len (l : List Int) (r : Int) (s : List S57) : (layRes l r s).1.length ≤ 1048576 := by
  unfold layRes
  split
  · split
    · exact sheetRes_len _
    · simp
  · simp
theorem layOut_ev (l : List Int) (r : Int) (s : List S57) (hl : l.length ≤ 1048576) (hs : s.length ≤ 1000) (hn : ∀ x ∈ s, noteB x = true) :
    Ev (fun k => impl_layOut.f k l r s) (layRes l r s) := by
  unfold impl_layOut.f layRes
  refine Ev.bind (canPlay_ev l r s hl hs hn) ?_
  by_cases hp : playsB l r s = true
  · simp only [hp, ↓reduceIte]
    exact layOut_l0 l r s hl hs hn s [] rfl
  · simp only [hp, Bool.false_eq_true, ↓reduceIte]
    exact Ev.now _
/-- The reference's, from a step on: the program's, moved. -/
theorem layRes_from (l : List Int) (r b : Int) (s : List S57) (hb : 0 ≤ b ∧ b ≤ 1000000) :
    (if playsB l r s = true then (if layAll l s = true then sheetRes (s.map fun x => shiftH b (layH l x)) else ([], false)) else ([], false)) = (if (layRes l r s).2 = true then sheetRes ((layRes l r s).1.map (shiftH b)) else ([], false)) := by
  unfold layRes
  by_cases hp : playsB l r s = true
  · simp only [hp, ↓reduceIte]
    by_cases ha : layAll l s = true
    · simp only [ha, ↓reduceIte]
      have := shift_res hb (layAll_good ha)
      rw [List.map_map] at this
      exact this.symm
    · simp only [ha, Bool.false_eq_true, ↓reduceIte]
  · simp only [hp, Bool.false_eq_true, ↓reduceIte]
theorem layRes_zero (l : List Int) (r : Int) (s : List S57) :
    (if playsB l r s = true then (if layAll l s = true then sheetRes (s.map fun x => shiftH 0 (layH l x)) else ([], false)) else ([], false)) = layRes l r s := by
  unfold layRes
  by_cases ha : layAll l s = true
  · have := shift_zero (layAll_good ha)
    rw [List.map_map] at this
    have e : (s.map fun x => shiftH 0 (layH l x)) = s.map (layH l) := this
    rw [e]
  · simp only [ha, Bool.false_eq_true, ↓reduceIte]
end Go.Proofs.Ytbfehdhncncgdaa.I
end
section
/- Plain facts on a sheet read back. No condition. -/
set_option linter.unusedVariables false
set_option linter.unusedSimpArgs false
namespace Go.Proofs.Ytbfehdhncncgdaa.I
open Go.RowKit Go.Proofs.YtbfehdhncncgdaaW.PrintWords Go.Proofs.YtbfehdhncncgdaaW.PrintLast Go.Proofs.YtbfehdhncncgdaaW.PrintMore

theorem scoreOf_ev (o : List S57) (h : o.length ≤ 1048576) : Ev (fun k => impl_scoreOf.f k (SNote.srt o)) (scoreRes o) := by
  unfold impl_scoreOf.f
  refine Ev.bind (IsScore_ev _ (by rw [srtN_len]; exact h)) ?_
  rw [scoreRes_srt]
  by_cases hg : goodScore (SNote.srt o) = true
  · simp only [hg, ↓reduceIte]; exact Ev.now _
  · simp only [hg, Bool.false_eq_true, ↓reduceIte]; exact Ev.now _
theorem read_l0 (l : List Int) (r : Int) (s : List S64) (hl : l.length ≤ 1048576) (hs : s.length ≤ 60) (hn : ∀ x ∈ s, holeB x = true) : ∀ (suf pre : List S64) (o : List S57), pre ++ suf = s → o.length ≤ pre.length →
    ∃ r0 r1, r0.length ≤ 1048576 ∧ Ev (fun k => spec_laNotes.l0 k o s s.length pre.length l r) (r0, r1) ∧ Ev (fun k => impl_readBack.l0 k o s s.length pre.length l r) (r0, r1) := by
  intro suf
  induction suf with
  | nil =>
    intro pre o h ho
    have hn : ¬ ((pre.length : Int) < (s.length : Int)) := by rw [← h]; simp
    have he : s.length = pre.length := by rw [← h]; simp
    have hp : pre.length ≤ 60 := by omega
    refine ⟨(scoreRes o).1, (scoreRes o).2, scoreRes_len o, Ev.fuel ?_, Ev.fuel ?_⟩
    · simp only [spec_laNotes.l0, hn, ↓reduceIte]
      exact Ev.bind (ntSorted_ev o (by omega)) (Ev.now _)
    · simp only [impl_readBack.l0, hn, ↓reduceIte, sortedNotes_eq o (by omega), Option.bind_some]
      exact Ev.bind (scoreOf_ev o (by omega)) (Ev.now _)
  | cons x suf ih =>
    intro pre o h ho
    have hlen : s.length = pre.length + (suf.length + 1) := by rw [← h]; simp
    have c1 : (pre.length : Int) < (s.length : Int) := by omega
    have c2 : (0 : Int) ≤ (pre.length : Int) := by omega
    have c3 : rd_T64 s (pre.length : Int) = x := by rw [← h]; exact getD_mid _ _ _ _
    have hx := (holeB_iff x).1 (hn x (by rw [← h]; simp))
    have q1 : o.length < 5864062014805 := by omega
    obtain ⟨t, et⟩ := laNote_ev l r x.f0 x.f1 x.f2 hx.1
    by_cases ht : t.2.2.2 = true
    · obtain ⟨r0, r1, b0, e1, e2⟩ := ih (pre ++ [x]) (o ++ [⟨t.1, t.2.1, t.2.2.1⟩]) (by rw [← h]; simp) (by simp; omega)
      have ec : ((pre ++ [x]).length : Int) = ((pre.length + 1 : Nat) : Int) := by simp
      rw [ec] at e1 e2
      refine ⟨r0, r1, b0, Ev.fuel ?_, Ev.fuel ?_⟩
      · simp only [spec_laNotes.l0, c1, c2, c3, q1, ↓reduceIte, wn pre.length (by omega)]
        refine Ev.bind et ?_
        simp only [ht, ↓reduceIte]
        exact e1
      · simp only [impl_readBack.l0, c1, c2, c3, q1, ↓reduceIte, wn pre.length (by omega), laNote_same]
        refine Ev.bind et ?_
        simp only [ht, ↓reduceIte]
        exact e2
    · refine ⟨[], false, by simp, Ev.fuel ?_, Ev.fuel ?_⟩
      · simp only [spec_laNotes.l0, c1, c2, c3, q1, ↓reduceIte, wn pre.length (by omega)]
        refine Ev.bind et ?_
        simp only [ht, Bool.false_eq_true, ↓reduceIte]; exact Ev.now _
      · simp only [impl_readBack.l0, c1, c2, c3, q1, ↓reduceIte, wn pre.length (by omega), laNote_same]
        refine Ev.bind et ?_
        simp only [ht, Bool.false_eq_true, ↓reduceIte]; exact Ev.now _
theorem laAsked_ev (l : List Int) (r : Int) (s : List S64) (hl : l.length ≤ 1048576) (hs : s.length ≤ 1048576) : Ev (fun k => spec_laAsked.f k l r s) (goodIns l r && goodSheet s) := by
  unfold spec_laAsked.f
  refine Ev.bind (inGood_ev l r hl) ?_
  by_cases h : goodIns l r = true
  · simp only [h, ↓reduceIte, Bool.true_and]
    exact Ev.bind (shGood_ev s hs) (Ev.now _)
  · simp only [Bool.eq_false_iff.mpr h, Bool.false_eq_true, ↓reduceIte, Bool.false_and]; exact Ev.now _
end Go.Proofs.Ytbfehdhncncgdaa.I
end
