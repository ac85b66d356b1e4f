import Derived.Test.YtlhhjdlaljmppaaGreatT0
import Derived.Test.YtlhhjdlaljmppaaGreatT3
import Derived.Test.YtlhhjdlaljmppaaGreatT4
import Derived.Test.YtlhhjdlaljmppaaGreatT6
import Derived.Test.YtlhhjdlaljmppaaGreatTQB
import Derived.Test.YtlhhjdlaljmppaaGreatT5
import Derived.Test.YtlhhjdlaljmppaaGreatT8
import Derived.Test.YtlhhjdlaljmppaaGreatT9
import Derived.Test.YtlhhjdlaljmppaaGreatT10
import Derived.Test.YtlhhjdlaljmppaaGreatT14
import Derived.Test.YtlhhjdlaljmppaaGreatT16
import Derived.Test.YtlhhjdlaljmppaaGreatT1
import Derived.Test.YtlhhjdlaljmppaaGreatTIA
import Derived.Test.YtlhhjdlaljmppaaGreatTIB
import Derived.Test.YtlhhjdlaljmppaaGreatT12
import Derived.Test.YtlhhjdlaljmppaaGreatT11
import Derived.Test.YtlhhjdlaljmppaaGreatT13
import Derived.Test.YtlhhjdlaljmppaaGreatT15
import Derived.Test.YtlhhjdlaljmppaaGreatT17
import Derived.Test.YtlhhjdlaljmppaaGreatT18
import Derived.Test.YtlhhjdlaljmppaaGreatT19
import Derived.Test.YtlhhjdlaljmppaaGreatT2
import Derived.Test.YtlhhjdlaljmppaaGreatT7
import Derived.Test.YtlhhjdlaljmppaaGreatT20
section
/- Plain facts on instruments: which are valid, where a pitch stands, the nearest and the folded pitch. No condition. -/
set_option linter.unusedVariables false
set_option linter.unusedSimpArgs false
namespace Go.Proofs.YtlhhjdlaljmppaaGreat.T
open Go.RowKit Go.Proofs.YtlhhjdlaljmppaaGreatW.PrintWords Go.Proofs.YtlhhjdlaljmppaaGreatW.PrintLast Go.Proofs.YtlhhjdlaljmppaaGreatW.PrintMore

theorem l1In_eq (a b c : Int) : spec_l1In.f a b c = some (decide (b ≤ a ∧ a ≤ c)) := by
  unfold spec_l1In.f
  by_cases h : a ≥ b
  · rw [if_pos h]; exact dec_eq (by omega)
  · rw [if_neg h]; exact dec_f (by omega)
theorem ntPitch_eq (a : Int) : spec_ntPitch.f a = some (decide (24 ≤ a ∧ a ≤ 96)) := by unfold spec_ntPitch.f; rw [l1In_eq]; rfl
theorem isPitch_eq (a : Int) : impl_isPitch.f a = some (decide (24 ≤ a ∧ a ≤ 96)) := by
  unfold impl_isPitch.f
  split <;> (first | exact dec_eq (by omega) | exact dec_f (by omega))
def risFrom (lo hi : Int) : Option Int → List Int → Bool
  | _, [] => true
  | none, x :: xs => decide (lo ≤ x ∧ x ≤ hi) && risFrom lo hi (some x) xs
  | some y, x :: xs => decide (lo ≤ x ∧ x ≤ hi) && (decide (y < x) && risFrom lo hi (some x) xs)
theorem rising_l0 (l : List Int) (lo hi : Int) (hl : l.length ≤ 1048576) : ∀ (suf pre : List Int), pre ++ suf = l →
    Ev (fun k => spec_l1Rising.l0 k l lo hi l l.length pre.length) (risFrom lo hi pre.getLast? suf) := by
  intro suf
  induction suf with
  | nil =>
    intro pre h
    have hn : ¬ ((pre.length : Int) < (l.length : Int)) := by rw [← h]; simp
    refine Ev.fuel ?_
    simp only [spec_l1Rising.l0, hn, ↓reduceIte]
    refine Ev.const ?_
    cases pre.getLast? <;> rfl
  | cons x suf ih =>
    intro pre h
    have hlen : l.length = pre.length + (suf.length + 1) := by rw [← h]; simp
    have h1 : (pre.length : Int) < (l.length : Int) := by omega
    have h2 : (0 : Int) ≤ (pre.length : Int) := by omega
    have h3 : rd l (pre.length : Int) = x := by rw [← h]; exact getD_mid _ _ _ _
    have e' : Ev (fun k => spec_l1Rising.l0 k l lo hi l l.length ((pre.length + 1 : Nat) : Int)) (risFrom lo hi (some x) suf) := by simpa using ih (pre ++ [x]) (by rw [← h]; simp)
    refine Ev.fuel ?_
    simp only [spec_l1Rising.l0, h1, h2, h3, ↓reduceIte, l1In_eq, Option.bind_some, decide_eq_true_eq, wn pre.length (by omega)]
    by_cases hx : lo ≤ x ∧ x ≤ hi
    · simp only [hx, and_self, ↓reduceIte]
      rcases nil_or_snoc pre with rfl | ⟨pre', y, rfl⟩
      · simp only [List.length_nil, Int.natCast_zero, Int.lt_irrefl, gt_iff_lt, ↓reduceIte, List.getLast?_nil, risFrom, hx, and_self, decide_true, Bool.true_and]
        exact e'
      · have hc : (pre' ++ [y]).length = pre'.length + 1 := by simp
        have g1 : ((pre' ++ [y]).length : Int) > 0 := by omega
        have g2 : wrap64 (((pre' ++ [y]).length : Int) - 1) = (pre'.length : Int) := by rw [w_id (by omega) (by omega)]; omega
        have g3 : (0 : Int) ≤ (pre'.length : Int) := by omega
        have g4 : (pre'.length : Int) < (l.length : Int) := by omega
        have g5 : rd l (pre'.length : Int) = y := by rw [← h, List.append_assoc]; exact getD_mid _ _ _ _
        have gl : (pre' ++ [y]).getLast? = some y := by simp
        rw [gl]
        simp only [g1, g2, g3, g4, g5, ↓reduceIte, risFrom, hx, and_self, decide_true, Bool.true_and]
        by_cases hy : y < x
        · simp only [hy, show ¬ y ≥ x from by omega, ↓reduceIte, decide_true, Bool.true_and]; exact e'
        · simp only [hy, show y ≥ x from by omega, ↓reduceIte, decide_false, Bool.false_and]; exact Ev.now _
    · simp only [hx, ↓reduceIte]
      refine Ev.const ?_
      cases pre.getLast? <;> simp only [risFrom, hx, decide_false, Bool.false_and]
theorem rising_ev (l : List Int) (lo hi : Int) (hl : l.length ≤ 1048576) : Ev (fun k => spec_l1Rising.f k l lo hi) (risFrom lo hi none l) := by
  unfold spec_l1Rising.f
  exact rising_l0 l lo hi hl l [] rfl
def goodIns (l : List Int) (r : Int) : Bool := decide (1 ≤ l.length ∧ l.length ≤ 20) && (risFrom 24 96 none l && decide (1 ≤ r ∧ r ≤ 20))
theorem inGood_ev (l : List Int) (r : Int) (hl : l.length ≤ 1048576) : Ev (fun k => spec_inGood.f k l r) (goodIns l r) := by
  unfold spec_inGood.f goodIns
  simp only [l1In_eq, Option.bind_some, decide_eq_true_eq]
  by_cases h : (1 : Int) ≤ (l.length : Int) ∧ (l.length : Int) ≤ 20
  · have h' : 1 ≤ l.length ∧ l.length ≤ 20 := by omega
    simp only [h, h', and_self, ↓reduceIte, decide_true, Bool.true_and]
    refine Ev.bind (rising_ev l 24 96 hl) ?_
    by_cases hr : risFrom 24 96 none l = true
    · simp only [hr, ↓reduceIte, Bool.true_and]; exact Ev.now _
    · simp only [hr, ↓reduceIte, Bool.false_eq_true, Bool.false_and]; exact Ev.now _
  · have h' : ¬ (1 ≤ l.length ∧ l.length ≤ 20) := by omega
    simp only [h, h', ↓reduceIte, decide_false, Bool.false_and]; exact Ev.now _
theorem IsInstrument_l0 (l : List Int) (r : Int) (hl : l.length ≤ 1048576) : ∀ (suf pre : List Int), pre ++ suf = l →
    Ev (fun k => impl_IsInstrument.l0 k l l.length pre.length l r) (risFrom 24 96 pre.getLast? suf) := by
  intro suf
  induction suf with
  | nil =>
    intro pre h
    have hn : ¬ ((pre.length : Int) < (l.length : Int)) := by rw [← h]; simp
    refine Ev.fuel ?_
    simp only [impl_IsInstrument.l0, hn, ↓reduceIte]
    refine Ev.const ?_
    cases pre.getLast? <;> rfl
  | cons x suf ih =>
    intro pre h
    have hlen : l.length = pre.length + (suf.length + 1) := by rw [← h]; simp
    have h1 : (pre.length : Int) < (l.length : Int) := by omega
    have h2 : (0 : Int) ≤ (pre.length : Int) := by omega
    have h3 : rd l (pre.length : Int) = x := by rw [← h]; exact getD_mid _ _ _ _
    have e' : Ev (fun k => impl_IsInstrument.l0 k l l.length ((pre.length + 1 : Nat) : Int) l r) (risFrom 24 96 (some x) suf) := by simpa using ih (pre ++ [x]) (by rw [← h]; simp)
    refine Ev.fuel ?_
    simp only [impl_IsInstrument.l0, h1, h2, h3, ↓reduceIte, isPitch_eq, Option.bind_some, decide_eq_true_eq, wn pre.length (by omega)]
    by_cases hx : 24 ≤ x ∧ x ≤ 96
    · simp only [hx, and_self, ↓reduceIte]
      rcases nil_or_snoc pre with rfl | ⟨pre', y, rfl⟩
      · simp only [List.length_nil, Int.natCast_zero, Int.lt_irrefl, gt_iff_lt, ↓reduceIte, List.getLast?_nil, risFrom, hx, and_self, decide_true, Bool.true_and]
        exact e'
      · have hc : (pre' ++ [y]).length = pre'.length + 1 := by simp
        have g1 : ((pre' ++ [y]).length : Int) > 0 := by omega
        have g2 : wrap64 (((pre' ++ [y]).length : Int) - 1) = (pre'.length : Int) := by rw [w_id (by omega) (by omega)]; omega
        have g3 : (0 : Int) ≤ (pre'.length : Int) := by omega
        have g4 : (pre'.length : Int) < (l.length : Int) := by omega
        have g5 : rd l (pre'.length : Int) = y := by rw [← h, List.append_assoc]; exact getD_mid _ _ _ _
        have gl : (pre' ++ [y]).getLast? = some y := by simp
        rw [gl]
        simp only [g1, g2, g3, g4, g5, ↓reduceIte, risFrom, hx, and_self, decide_true, Bool.true_and]
        by_cases hy : y < x
        · simp only [hy, show ¬ x ≤ y from by omega, ↓reduceIte, decide_true, Bool.true_and]; exact e'
        · simp only [hy, show x ≤ y from by omega, ↓reduceIte, decide_false, Bool.false_and]; exact Ev.now _
    · simp only [hx, ↓reduceIte]
      refine Ev.const ?_
      cases pre.getLast? <;> simp only [risFrom, hx, decide_false, Bool.false_and]
theorem IsInstrument_ev (l : List Int) (r : Int) (hl : l.length ≤ 1048576) : Ev (fun k => impl_IsInstrument.f k l r) (goodIns l r) := by
  have jT : Ev (fun k => impl_IsInstrument.j0 k true l r) false := by
    refine Ev.fuel ?_; simp only [impl_IsInstrument.j0, ↓reduceIte]; exact Ev.now _
  unfold impl_IsInstrument.f goodIns
  by_cases h1 : (l.length : Int) < 1
  · simp only [h1, ↓reduceIte, show ¬ (1 ≤ l.length ∧ l.length ≤ 20) from by omega, decide_false, Bool.false_and]; exact jT
  · by_cases h2 : (l.length : Int) > 20
    · simp only [h1, h2, ↓reduceIte, show ¬ (1 ≤ l.length ∧ l.length ≤ 20) from by omega, decide_false, Bool.false_and]; exact jT
    · by_cases h3 : r < 1
      · simp only [h1, h2, h3, ↓reduceIte, show ¬ (1 ≤ r ∧ r ≤ 20) from by omega, decide_false, Bool.and_false]; exact jT
      · by_cases h4 : r > 20
        · simp only [h1, h2, h3, h4, ↓reduceIte, show ¬ (1 ≤ r ∧ r ≤ 20) from by omega, decide_false, decide_true, Bool.and_false]; exact jT
        · simp only [h1, h2, h3, h4, ↓reduceIte, show (1 ≤ r ∧ r ≤ 20) from by omega, show (1 ≤ l.length ∧ l.length ≤ 20) from by omega, and_self, decide_true, decide_false, Bool.and_true, Bool.true_and]
          refine Ev.fuel ?_
          simp only [impl_IsInstrument.j0, Bool.false_eq_true, ↓reduceIte]
          exact IsInstrument_l0 l r hl l [] rfl
theorem risFrom_all (lo hi : Int) : ∀ (l : List Int) (p : Option Int), risFrom lo hi p l = true → ∀ x ∈ l, lo ≤ x ∧ x ≤ hi := by
  intro l
  induction l with
  | nil => intro p _ x hx; simp at hx
  | cons y l ih =>
    intro p h x hx
    have h' : (lo ≤ y ∧ y ≤ hi) ∧ risFrom lo hi (some y) l = true := by
      cases p <;> simp only [risFrom, Bool.and_eq_true, decide_eq_true_eq] at h
      · exact h
      · exact ⟨h.1, h.2.2⟩
    rcases List.mem_cons.1 hx with rfl | hx
    · exact h'.1
    · exact ih _ h'.2 x hx
theorem goodIns_iff (l : List Int) (r : Int) : goodIns l r = true ↔ (1 ≤ l.length ∧ l.length ≤ 20) ∧ risFrom 24 96 none l = true ∧ 1 ≤ r ∧ r ≤ 20 := by
  simp only [goodIns, Bool.and_eq_true, decide_eq_true_eq]
theorem goodIns_all {l : List Int} {r : Int} (h : goodIns l r = true) : ∀ x ∈ l, 24 ≤ x ∧ x ≤ 96 := risFrom_all 24 96 l _ ((goodIns_iff l r).1 h).2.1

/-! where a number stands -/
def idxFrom (v : Int) : List Int → Int → Int
  | [], _ => -1
  | x :: xs, i => if x = v then i else idxFrom v xs (i + 1)
theorem idxFrom_neg (v : Int) : ∀ (l : List Int) (i : Int), 0 ≤ i → (idxFrom v l i < 0 ↔ v ∉ l) := by
  intro l
  induction l with
  | nil => intro i h; simp [idxFrom]
  | cons x xs ih =>
    intro i h
    simp only [idxFrom, List.mem_cons, not_or]
    by_cases hx : x = v
    · subst hx; simp; omega
    · rw [if_neg hx, ih (i + 1) (by omega)]
      exact ⟨fun q => ⟨fun e => hx e.symm, q⟩, fun q => q.2⟩
theorem idxFrom_ge (v : Int) : ∀ (l : List Int) (i : Int), 0 ≤ i → -1 ≤ idxFrom v l i ∧ idxFrom v l i < i + l.length ∨ idxFrom v l i = -1 := by
  intro l
  induction l with
  | nil => intro i h; simp [idxFrom]
  | cons x xs ih =>
    intro i h
    simp only [idxFrom, List.length_cons]
    split
    · left; omega
    · have := ih (i + 1) (by omega)
      omega
theorem Index_l0 (l : List Int) (v : Int) (hl : l.length ≤ 1048576) : ∀ (suf pre : List Int), pre ++ suf = l →
    Ev (fun k => slices_Index_int_int.l0 k l v l.length pre.length) (idxFrom v suf pre.length) := by
  intro suf
  induction suf with
  | nil =>
    intro pre h
    have hn : ¬ ((pre.length : Int) < (l.length : Int)) := by rw [← h]; simp
    refine Ev.fuel ?_
    simp only [slices_Index_int_int.l0, hn, ↓reduceIte, idxFrom]
    exact Ev.now _
  | cons x suf ih =>
    intro pre h
    have hlen : l.length = pre.length + (suf.length + 1) := by rw [← h]; simp
    have h1 : (pre.length : Int) < (l.length : Int) := by omega
    have h2 : (0 : Int) ≤ (pre.length : Int) := by omega
    have h3 : rd l (pre.length : Int) = x := by rw [← h]; exact getD_mid _ _ _ _
    refine Ev.fuel ?_
    by_cases hx : x = v
    · subst hx
      simp only [slices_Index_int_int.l0, h1, h2, h3, ↓reduceIte, idxFrom]; exact Ev.now _
    · have hx' : ¬ v = x := fun e => hx e.symm
      simp only [slices_Index_int_int.l0, h1, h2, h3, ↓reduceIte, idxFrom, hx, hx', wn pre.length (by omega)]
      simpa using ih (pre ++ [x]) (by rw [← h]; simp)
theorem Index_ev (l : List Int) (v : Int) (hl : l.length ≤ 1048576) : Ev (fun k => slices_Index_int_int.f k l v) (idxFrom v l 0) := by
  unfold slices_Index_int_int.f
  exact Index_l0 l v hl l [] rfl
theorem Contains_ev (l : List Int) (v : Int) (hl : l.length ≤ 1048576) : Ev (fun k => slices_Contains_int_int.f k l v) (decide (v ∈ l)) := by
  unfold slices_Contains_int_int.f
  refine Ev.bind (Index_ev l v hl) (Ev.const ?_)
  have := idxFrom_neg v l 0 (by omega)
  exact dec_eq ⟨fun h => by by_cases q : v ∈ l; exact q; exact absurd (this.2 q) (by omega), fun h => by by_cases q : idxFrom v l 0 < 0; exact absurd h (this.1 q); omega⟩
end Go.Proofs.YtlhhjdlaljmppaaGreat.T
end
section
/- Plain facts on scores: which notes are a score, for the reference and for the program. No condition. -/
set_option linter.unusedVariables false
set_option linter.unusedSimpArgs false
namespace Go.Proofs.YtlhhjdlaljmppaaGreat.T
open Go.RowKit Go.Proofs.YtlhhjdlaljmppaaGreatW.PrintWords Go.Proofs.YtlhhjdlaljmppaaGreatW.PrintLast Go.Proofs.YtlhhjdlaljmppaaGreatW.PrintMore

def noteB (x : S47) : Bool := decide (24 ≤ x.f0 ∧ x.f0 ≤ 96 ∧ 0 ≤ x.f1 ∧ x.f1 ≤ 999 ∧ 1 ≤ x.f2 ∧ x.f2 ≤ 99)
def noteLt (a b : S47) : Bool := decide (a.f1 < b.f1 ∨ a.f1 = b.f1 ∧ a.f0 < b.f0)
def meetB (a b : S47) : Bool := decide (a.f0 = b.f0 ∧ a.f1 < b.f1 + b.f2 ∧ b.f1 < a.f1 + a.f2)
def meetI (x y : S47) : Bool := decide (y.f0 = x.f0 ∧ y.f1 + y.f2 > x.f1)
theorem noteB_iff (x : S47) : noteB x = true ↔ (24 ≤ x.f0 ∧ x.f0 ≤ 96 ∧ 0 ≤ x.f1 ∧ x.f1 ≤ 999 ∧ 1 ≤ x.f2 ∧ x.f2 ≤ 99) := by simp [noteB]
theorem noteLt_iff (a b : S47) : noteLt a b = true ↔ (a.f1 < b.f1 ∨ a.f1 = b.f1 ∧ a.f0 < b.f0) := by simp [noteLt]
theorem ntNote_eq (x : S47) : spec_ntNote.f x.f0 x.f1 x.f2 = some (noteB x) := by
  unfold spec_ntNote.f noteB
  simp only [ntPitch_eq, l1In_eq, Option.bind_some, decide_eq_true_eq]
  (repeat' split) <;> (first | exact dec_eq (by omega) | exact dec_f (by omega))
theorem IsNote_eq (x : S47) : impl_IsNote.f x.f0 x.f1 x.f2 = some (noteB x) := by
  unfold impl_IsNote.f noteB
  (repeat' split) <;> (first | exact dec_eq (by omega) | exact dec_f (by omega))
theorem ntBefore_eq (a b : S47) : spec_ntBefore.f a.f0 a.f1 a.f2 b.f0 b.f1 b.f2 = some (noteLt a b) := by
  unfold spec_ntBefore.f noteLt
  (repeat' split) <;> (first | exact dec_eq (by omega) | exact dec_f (by omega) | exact dec_t (by omega))
theorem noteLess_eq (a b : S47) : impl_noteLess.f a.f0 a.f1 a.f2 b.f0 b.f1 b.f2 = some (noteLt a b) := by
  unfold impl_noteLess.f noteLt
  (repeat' split) <;> (first | exact dec_eq (by omega) | exact dec_f (by omega) | exact dec_t (by omega))
theorem ntMeet_eq {a b : S47} (ha : noteB a = true) (hb : noteB b = true) : spec_ntMeet.f a.f0 a.f1 a.f2 b.f0 b.f1 b.f2 = some (meetB a b) := by
  have h1 := (noteB_iff a).1 ha
  have h2 := (noteB_iff b).1 hb
  unfold spec_ntMeet.f meetB
  rw [w_id (x := b.f1 + b.f2) (by omega) (by omega), w_id (x := a.f1 + a.f2) (by omega) (by omega)]
  (repeat' split) <;> (first | exact dec_eq (by omega) | exact dec_f (by omega) | exact dec_t (by omega))
theorem noteEnd_eq {y : S47} (hy : noteB y = true) : impl_noteEnd.f y.f0 y.f1 y.f2 = some (y.f1 + y.f2) := by
  have h2 := (noteB_iff y).1 hy
  unfold impl_noteEnd.f
  rw [w_id (by omega) (by omega)]

/-- Behind these notes, are the next ones a score? -/
def scoreFrom (m : S47 → S47 → Bool) : List S47 → List S47 → Bool
  | _, [] => true
  | pre, x :: xs => noteB x && ((match pre.getLast? with | none => true | some y => noteLt y x) && (!(pre.any (m x)) && scoreFrom m (pre ++ [x]) xs))
def goodScore (l : List S47) : Bool := scoreFrom meetB [] l && decide (l.length ≤ 30)

/-- Notes, each no later than the last one. -/
def InOrder (pre : List S47) : Prop := (∀ y ∈ pre, noteB y = true) ∧ ∀ z, pre.getLast? = some z → ∀ y ∈ pre, y.f1 ≤ z.f1
theorem InOrder.nil : InOrder [] := ⟨by simp, by simp⟩
theorem InOrder.snoc {pre : List S47} (h : InOrder pre) {x : S47} (hx : noteB x = true) (hl : ∀ z, pre.getLast? = some z → noteLt z x = true) : InOrder (pre ++ [x]) := by
  refine ⟨fun y hy => ?_, fun z hz y hy => ?_⟩
  · rcases List.mem_append.1 hy with hy | hy
    · exact h.1 y hy
    · rw [List.mem_singleton.1 hy]; exact hx
  · have : z = x := by simpa using hz.symm
    subst this
    rcases List.mem_append.1 hy with hy | hy
    · rcases nil_or_snoc pre with rfl | ⟨p, q, rfl⟩
      · simp at hy
      · have h1 := h.2 q (by simp) y hy
        have h2 := (noteLt_iff q z).1 (hl q (by simp))
        omega
    · rw [List.mem_singleton.1 hy]; exact Int.le_refl _
theorem meet_same {pre : List S47} (h : InOrder pre) {x : S47} (hx : noteB x = true) (hl : ∀ z, pre.getLast? = some z → noteLt z x = true) : pre.any (meetI x) = pre.any (meetB x) := by
  rw [Bool.eq_iff_iff, List.any_eq_true, List.any_eq_true]
  refine ⟨fun ⟨y, hy, hm⟩ => ⟨y, hy, ?_⟩, fun ⟨y, hy, hm⟩ => ⟨y, hy, ?_⟩⟩
  · have h1 := (noteB_iff x).1 hx
    have h3 := (h.snoc hx hl).2 x (by simp) y (by simp [hy])
    simp only [meetI, meetB, decide_eq_true_eq] at hm ⊢
    omega
  · simp only [meetI, meetB, decide_eq_true_eq] at hm ⊢
    omega
theorem scoreFrom_same : ∀ (suf pre : List S47), InOrder pre → scoreFrom meetI pre suf = scoreFrom meetB pre suf := by
  intro suf
  induction suf with
  | nil => intro pre _; rfl
  | cons x xs ih =>
    intro pre h
    simp only [scoreFrom]
    by_cases hx : noteB x = true
    · by_cases hl : ∀ z, pre.getLast? = some z → noteLt z x = true
      · rw [meet_same h hx hl, ih _ (h.snoc hx hl)]
      · have : (match pre.getLast? with | none => true | some y => noteLt y x) = false := by
          cases hp : pre.getLast? with
          | none => exact absurd (fun z hz => by rw [hp] at hz; cases hz) hl
          | some z =>
            cases hq : noteLt z x with
            | false => exact hq
            | true => exact absurd (fun w hw => by rw [hp] at hw; cases hw; exact hq) hl
        rw [this]; simp
    · simp [Bool.eq_false_iff.mpr hx]

theorem ntGood_l1 (l : List S47) (hl : l.length ≤ 1048576) (x : S47) (hx : noteB x = true) (ni : Int) (p : List S47) (hp : ∀ y ∈ p, noteB y = true) (hpl : p.length ≤ 1048576) (r : Bool)
    (hr : Ev (fun k => spec_ntGood.l0 k l l l.length (wrap64 (ni + 1))) r) : ∀ (suf pre : List S47), pre ++ suf = p →
    Ev (fun k => spec_ntGood.l1 k l l l.length ni p p.length pre.length x.f0 x.f1 x.f2) (!(suf.any (meetB x)) && r) := by
  intro suf
  induction suf with
  | nil =>
    intro pre h
    have hn : ¬ ((pre.length : Int) < (p.length : Int)) := by rw [← h]; simp
    refine Ev.fuel ?_
    simp only [spec_ntGood.l1, hn, ↓reduceIte, List.any_nil, Bool.not_false, Bool.true_and]
    exact hr
  | cons y suf ih =>
    intro pre h
    have hlen : p.length = pre.length + (suf.length + 1) := by rw [← h]; simp
    have h1 : (pre.length : Int) < (p.length : Int) := by omega
    have h2 : (0 : Int) ≤ (pre.length : Int) := by omega
    have h3 : rd_T47 p (pre.length : Int) = y := by rw [← h]; exact getD_mid _ _ _ _
    have hy : noteB y = true := hp y (by rw [← h]; simp)
    refine Ev.fuel ?_
    simp only [spec_ntGood.l1, h1, h2, h3, ↓reduceIte, ntMeet_eq hx hy, Option.bind_some, wn pre.length (by omega), List.any_cons]
    by_cases hm : meetB x y = true
    · simp only [hm, ↓reduceIte, Bool.true_or, Bool.not_true, Bool.false_and]; exact Ev.now _
    · simp only [hm, ↓reduceIte, Bool.false_or, Bool.false_eq_true]
      simpa using ih (pre ++ [y]) (by rw [← h]; simp)
theorem ntGood_l0 (l : List S47) (hl : l.length ≤ 1048576) : ∀ (suf pre : List S47), pre ++ suf = l → (∀ y ∈ pre, noteB y = true) →
    Ev (fun k => spec_ntGood.l0 k l l l.length pre.length) (scoreFrom meetB pre suf && decide (l.length ≤ 30)) := by
  intro suf
  induction suf with
  | nil =>
    intro pre h _
    have hn : ¬ ((pre.length : Int) < (l.length : Int)) := by rw [← h]; simp
    refine Ev.fuel ?_
    simp only [spec_ntGood.l0, hn, ↓reduceIte, scoreFrom, Bool.true_and]
    exact Ev.const (dec_eq (by omega))
  | cons x suf ih =>
    intro pre h hpre
    have hlen : l.length = pre.length + (suf.length + 1) := by rw [← h]; simp
    have h1 : (pre.length : Int) < (l.length : Int) := by omega
    have h2 : (0 : Int) ≤ (pre.length : Int) := by omega
    have h3 : rd_T47 l (pre.length : Int) = x := by rw [← h]; exact getD_mid _ _ _ _
    have jT : Ev (fun k => spec_ntGood.j1 k l pre.length l l.length pre.length true x.f0 x.f1 x.f2) false := by
      refine Ev.fuel ?_; simp only [spec_ntGood.j1, ↓reduceIte]; exact Ev.now _
    refine Ev.fuel ?_
    simp only [spec_ntGood.l0, h1, h2, h3, ↓reduceIte, ntNote_eq, Option.bind_some, scoreFrom]
    by_cases hx : noteB x = true
    · have jF : Ev (fun k => spec_ntGood.j1 k l pre.length l l.length pre.length false x.f0 x.f1 x.f2) (!(pre.any (meetB x)) && (scoreFrom meetB (pre ++ [x]) suf && decide (l.length ≤ 30))) := by
        have c1 : (pre.length : Int) ≤ (l.length : Int) := by omega
        have tk : l.take ((pre.length : Int)).toNat = pre := by rw [← h]; simp
        refine Ev.fuel ?_
        simp only [spec_ntGood.j1, Bool.false_eq_true, ↓reduceIte, h2, c1, tk, Option.bind_some]
        have e := ih (pre ++ [x]) (by rw [← h]; simp) (fun y hy => by
          rcases List.mem_append.1 hy with hy | hy
          · exact hpre y hy
          · rw [List.mem_singleton.1 hy]; exact hx)
        refine ntGood_l1 l hl x hx _ pre hpre (by omega) _ ?_ pre [] rfl
        rw [wn pre.length (by omega)]
        simpa using e
      simp only [hx, ↓reduceIte, Bool.true_and]
      rcases nil_or_snoc pre with rfl | ⟨pre', y, rfl⟩
      · simp only [List.length_nil, Int.natCast_zero, Int.lt_irrefl, gt_iff_lt, ↓reduceIte, List.getLast?_nil, Bool.true_and]
        simpa using jF
      · have hc : (pre' ++ [y]).length = pre'.length + 1 := by simp
        have g1 : ((pre' ++ [y]).length : Int) > 0 := by omega
        have g2 : wrap64 (((pre' ++ [y]).length : Int) - 1) = (pre'.length : Int) := by rw [w_id (by omega) (by omega)]; omega
        have g3 : (0 : Int) ≤ (pre'.length : Int) := by omega
        have g4 : (pre'.length : Int) < (l.length : Int) := by omega
        have g5 : rd_T47 l (pre'.length : Int) = y := by rw [← h, List.append_assoc]; exact getD_mid _ _ _ _
        have gl : (pre' ++ [y]).getLast? = some y := by simp
        simp only [g1, g2, g3, g4, g5, gl, ↓reduceIte, ntBefore_eq, Option.bind_some]
        by_cases hy : noteLt y x = true
        · simp only [hy, Bool.not_true, Bool.true_and, Bool.and_assoc]; exact jF
        · simp only [Bool.eq_false_iff.mpr hy, Bool.not_false, Bool.false_and]; exact jT
    · simp only [Bool.eq_false_iff.mpr hx, Bool.false_eq_true, ↓reduceIte, Bool.false_and]; exact jT
theorem ntGood_ev (l : List S47) (hl : l.length ≤ 1048576) : Ev (fun k => spec_ntGood.f k l) (goodScore l) := by
  unfold spec_ntGood.f
  exact ntGood_l0 l hl l [] rfl (by simp)

theorem IsScore_l1 (l : List S47) (hl : l.length ≤ 1048576) (x : S47) (ni : Int) (p : List S47) (hp : ∀ y ∈ p, noteB y = true) (hpl : p.length ≤ 1048576) (r : Bool)
    (hr : Ev (fun k => impl_IsScore.l0 k l l l.length (wrap64 (ni + 1))) r) : ∀ (suf pre : List S47), pre ++ suf = p →
    Ev (fun k => impl_IsScore.l1 k l l l.length ni p p.length pre.length x.f0 x.f1 x.f2) (!(suf.any (meetI x)) && r) := by
  intro suf
  induction suf with
  | nil =>
    intro pre h
    have hn : ¬ ((pre.length : Int) < (p.length : Int)) := by rw [← h]; simp
    refine Ev.fuel ?_
    simp only [impl_IsScore.l1, hn, ↓reduceIte, List.any_nil, Bool.not_false, Bool.true_and]
    exact hr
  | cons y suf ih =>
    intro pre h
    have hlen : p.length = pre.length + (suf.length + 1) := by rw [← h]; simp
    have h1 : (pre.length : Int) < (p.length : Int) := by omega
    have h2 : (0 : Int) ≤ (pre.length : Int) := by omega
    have h3 : rd_T47 p (pre.length : Int) = y := by rw [← h]; exact getD_mid _ _ _ _
    have hy : noteB y = true := hp y (by rw [← h]; simp)
    have e : Ev (fun k => impl_IsScore.l1 k l l l.length ni p p.length ((pre.length + 1 : Nat) : Int) x.f0 x.f1 x.f2) (!(suf.any (meetI x)) && r) := by simpa using ih (pre ++ [y]) (by rw [← h]; simp)
    refine Ev.fuel ?_
    simp only [impl_IsScore.l1, h1, h2, h3, ↓reduceIte, noteEnd_eq hy, Option.bind_some, wn pre.length (by omega), List.any_cons]
    by_cases hm : y.f0 = x.f0
    · by_cases hq : y.f1 + y.f2 > x.f1
      · simp only [hm, hq, ↓reduceIte, show meetI x y = true from by simp only [meetI, decide_eq_true_eq]; omega, Bool.true_or, Bool.not_true, Bool.false_and]; exact Ev.now _
      · simp only [hm, hq, ↓reduceIte, show meetI x y = false from by simp only [meetI, decide_eq_false_iff_not]; omega, Bool.false_or]; exact e
    · simp only [hm, ↓reduceIte, show meetI x y = false from by simp only [meetI, decide_eq_false_iff_not]; omega, Bool.false_or]; exact e
theorem IsScore_l0 (l : List S47) (hl : l.length ≤ 1048576) : ∀ (suf pre : List S47), pre ++ suf = l → (∀ y ∈ pre, noteB y = true) →
    Ev (fun k => impl_IsScore.l0 k l l l.length pre.length) (scoreFrom meetI pre suf) := by
  intro suf
  induction suf with
  | nil =>
    intro pre h _
    have hn : ¬ ((pre.length : Int) < (l.length : Int)) := by rw [← h]; simp
    refine Ev.fuel ?_
    simp only [impl_IsScore.l0, hn, ↓reduceIte, scoreFrom]
    exact Ev.now _
  | cons x suf ih =>
    intro pre h hpre
    have hlen : l.length = pre.length + (suf.length + 1) := by rw [← h]; simp
    have h1 : (pre.length : Int) < (l.length : Int) := by omega
    have h2 : (0 : Int) ≤ (pre.length : Int) := by omega
    have h3 : rd_T47 l (pre.length : Int) = x := by rw [← h]; exact getD_mid _ _ _ _
    have jT : Ev (fun k => impl_IsScore.j1 k l pre.length l l.length pre.length true x.f0 x.f1 x.f2) false := by
      refine Ev.fuel ?_; simp only [impl_IsScore.j1, ↓reduceIte]; exact Ev.now _
    refine Ev.fuel ?_
    simp only [impl_IsScore.l0, h1, h2, h3, ↓reduceIte, IsNote_eq, Option.bind_some, scoreFrom]
    by_cases hx : noteB x = true
    · have jF : Ev (fun k => impl_IsScore.j1 k l pre.length l l.length pre.length false x.f0 x.f1 x.f2) (!(pre.any (meetI x)) && scoreFrom meetI (pre ++ [x]) suf) := by
        have c1 : (pre.length : Int) ≤ (l.length : Int) := by omega
        have tk : l.take ((pre.length : Int)).toNat = pre := by rw [← h]; simp
        refine Ev.fuel ?_
        simp only [impl_IsScore.j1, Bool.false_eq_true, ↓reduceIte, h2, c1, tk, Option.bind_some]
        have e := ih (pre ++ [x]) (by rw [← h]; simp) (fun y hy => by
          rcases List.mem_append.1 hy with hy | hy
          · exact hpre y hy
          · rw [List.mem_singleton.1 hy]; exact hx)
        refine IsScore_l1 l hl x _ pre hpre (by omega) _ ?_ pre [] rfl
        rw [wn pre.length (by omega)]
        simpa using e
      simp only [hx, ↓reduceIte, Bool.true_and]
      rcases nil_or_snoc pre with rfl | ⟨pre', y, rfl⟩
      · simp only [List.length_nil, Int.natCast_zero, Int.lt_irrefl, gt_iff_lt, ↓reduceIte, List.getLast?_nil, Bool.true_and]
        simpa using jF
      · have hc : (pre' ++ [y]).length = pre'.length + 1 := by simp
        have g1 : ((pre' ++ [y]).length : Int) > 0 := by omega
        have g2 : wrap64 (((pre' ++ [y]).length : Int) - 1) = (pre'.length : Int) := by rw [w_id (by omega) (by omega)]; omega
        have g3 : (0 : Int) ≤ (pre'.length : Int) := by omega
        have g4 : (pre'.length : Int) < (l.length : Int) := by omega
        have g5 : rd_T47 l (pre'.length : Int) = y := by rw [← h, List.append_assoc]; exact getD_mid _ _ _ _
        have gl : (pre' ++ [y]).getLast? = some y := by simp
        simp only [g1, g2, g3, g4, g5, gl, ↓reduceIte, noteLess_eq, Option.bind_some]
        by_cases hy : noteLt y x = true
        · simp only [hy, Bool.not_true, Bool.true_and]; exact jF
        · simp only [Bool.eq_false_iff.mpr hy, Bool.not_false, Bool.false_and]; exact jT
    · simp only [Bool.eq_false_iff.mpr hx, Bool.false_eq_true, ↓reduceIte, Bool.false_and]; exact jT
theorem IsScore_ev (l : List S47) (hl : l.length ≤ 1048576) : Ev (fun k => impl_IsScore.f k l) (goodScore l) := by
  unfold impl_IsScore.f goodScore
  by_cases h : (l.length : Int) > 30
  · simp only [h, ↓reduceIte, show ¬ l.length ≤ 30 from by omega, decide_false, Bool.and_false]; exact Ev.now _
  · simp only [h, ↓reduceIte, show l.length ≤ 30 from by omega, decide_true, Bool.and_true]
    rw [← scoreFrom_same l [] InOrder.nil]
    exact IsScore_l0 l hl l [] rfl (by simp)
theorem scoreFrom_all (m : S47 → S47 → Bool) : ∀ (l pre : List S47), scoreFrom m pre l = true → ∀ x ∈ l, noteB x = true := by
  intro l
  induction l with
  | nil => intro pre _ x hx; simp at hx
  | cons y l ih =>
    intro pre h x hx
    simp only [scoreFrom, Bool.and_eq_true] at h
    rcases List.mem_cons.1 hx with rfl | hx
    · exact h.1
    · exact ih _ h.2.2.2 x hx
theorem goodScore_all {l : List S47} (h : goodScore l = true) : ∀ x ∈ l, noteB x = true := by
  simp only [goodScore, Bool.and_eq_true] at h
  exact scoreFrom_all _ l _ h.1
theorem goodScore_len {l : List S47} (h : goodScore l = true) : l.length ≤ 30 := by
  simp only [goodScore, Bool.and_eq_true, decide_eq_true_eq] at h
  exact h.2
theorem inAsked_ev (l : List Int) (r : Int) (s : List S47) (hl : l.length ≤ 1048576) (hs : s.length ≤ 1048576) : Ev (fun k => spec_inAsked.f k l r s) (goodIns l r && goodScore s) := by
  unfold spec_inAsked.f
  refine Ev.bind (inGood_ev l r hl) ?_
  by_cases h : goodIns l r = true
  · simp only [h, ↓reduceIte, Bool.true_and]; exact Ev.bind (ntGood_ev s hs) (Ev.now _)
  · simp only [Bool.eq_false_iff.mpr h, Bool.false_eq_true, ↓reduceIte, Bool.false_and]; exact Ev.now _
end Go.Proofs.YtlhhjdlaljmppaaGreat.T
end
section
/- Plain facts on scores: notes put in order, by the program and by the reference. No condition. -/
set_option linter.unusedVariables false
set_option linter.unusedSimpArgs false
namespace Go.Proofs.YtlhhjdlaljmppaaGreat.T
open Go.RowKit Go.Proofs.YtlhhjdlaljmppaaGreatW.PrintWords Go.Proofs.YtlhhjdlaljmppaaGreatW.PrintLast Go.Proofs.YtlhhjdlaljmppaaGreatW.PrintMore

theorem noteLt_ltB (a b : S47) : noteLt a b = SNote.ltB a b := by
  unfold noteLt SNote.ltB
  split
  · rw [decide_eq_decide]; omega
  · rw [decide_eq_decide]; omega
theorem nltB_iff (a b : S47) : SNote.ltB a b = true ↔ (a.f1 < b.f1 ∨ a.f1 = b.f1 ∧ a.f0 < b.f0) := by rw [← noteLt_ltB]; exact noteLt_iff a b
theorem scoreFrom_iff : ∀ (l pre : List S47), scoreFrom meetB pre l = true ↔
    ((∀ x ∈ l, noteB x = true) ∧ SA.Rising SNote.ltB l ∧ (∀ y, pre.getLast? = some y → ∀ x ∈ l, SNote.ltB y x = true) ∧ l.Pairwise (fun y x => meetB x y = false) ∧ ∀ y ∈ pre, ∀ x ∈ l, meetB x y = false) := by
  intro l
  induction l with
  | nil =>
    intro pre
    simp [scoreFrom, SA.Rising]
  | cons x xs ih =>
    intro pre
    have hlast : (pre ++ [x]).getLast? = some x := by simp
    simp only [scoreFrom, Bool.and_eq_true, ih (pre ++ [x]), hlast, Bool.not_eq_true', List.any_eq_false]
    constructor
    · rintro ⟨h1, h2, h3, h4, h5, h6, h7, h8⟩
      have h3' : ∀ y ∈ pre, meetB x y = false := fun y hy => by simpa using h3 y hy
      have h6' : ∀ z ∈ xs, SNote.ltB x z = true := h6 x rfl
      refine ⟨fun z hz => ?_, List.pairwise_cons.2 ⟨h6', h5⟩, fun y hy z hz => ?_, List.pairwise_cons.2 ⟨fun z hz => h8 x (by simp) z hz, h7⟩, fun y hy z hz => ?_⟩
      · rcases List.mem_cons.1 hz with rfl | hz
        · exact h1
        · exact h4 z hz
      · rw [hy] at h2
        have hyx : SNote.ltB y x = true := by rw [← noteLt_ltB]; exact h2
        rcases List.mem_cons.1 hz with rfl | hz
        · exact hyx
        · exact SNote.swo.trans _ _ _ hyx (h6' z hz)
      · rcases List.mem_cons.1 hz with rfl | hz
        · exact h3' y hy
        · exact h8 y (by simp [hy]) z hz
    · rintro ⟨h1, h2, h3, h4, h5⟩
      obtain ⟨q1, q2⟩ := List.pairwise_cons.1 h2
      obtain ⟨q3, q4⟩ := List.pairwise_cons.1 h4
      refine ⟨h1 x List.mem_cons_self, ?_, fun y hy => ?_, fun z hz => h1 z (List.mem_cons_of_mem _ hz), q2, fun y hy z hz => ?_, q4, fun y hy z hz => ?_⟩
      · cases hp : pre.getLast? with
        | none => rfl
        | some y =>
          show noteLt y x = true
          rw [noteLt_ltB]; exact h3 y hp x List.mem_cons_self
      · simpa using h5 y hy x List.mem_cons_self
      · cases hy; exact q1 z hz
      · rcases List.mem_append.1 hy with hy | hy
        · exact h5 y hy z (List.mem_cons_of_mem _ hz)
        · simp only [List.mem_singleton] at hy; subst hy; exact q3 z hz
theorem goodScore_iff (l : List S47) : goodScore l = true ↔ ((∀ x ∈ l, noteB x = true) ∧ SA.Rising SNote.ltB l ∧ l.Pairwise (fun y x => meetB x y = false) ∧ l.length ≤ 30) := by
  unfold goodScore
  rw [Bool.and_eq_true, scoreFrom_iff, decide_eq_true_eq]
  constructor
  · rintro ⟨⟨h1, h2, _, h4, _⟩, h5⟩
    exact ⟨h1, h2, h4, h5⟩
  · rintro ⟨h1, h2, h3, h4⟩
    exact ⟨⟨h1, h2, fun y hy => by simp at hy, h3, fun y hy => by cases hy⟩, h4⟩
def scoreRes (l : List S47) : List S47 × Bool := if goodScore (SA.isort SNote.ltB l) = true then (SA.isort SNote.ltB l, true) else ([], false)
theorem scoreRes_len (l : List S47) : (scoreRes l).1.length ≤ 1048576 := by
  unfold scoreRes
  split
  · rename_i h
    have := ((goodScore_iff _).1 h).2.2.2
    show (SA.isort SNote.ltB l).length ≤ _
    omega
  · simp
theorem scoreRes_good (l : List S47) : goodScore (scoreRes l).1 = true := by
  unfold scoreRes
  split
  · assumption
  · rfl
theorem srt_good (l : List S47) : goodScore (SNote.srt l) = goodScore (SA.isort SNote.ltB l) := by
  by_cases h : goodScore (SA.isort SNote.ltB l) = true
  · have e : SNote.srt l = SA.isort SNote.ltB l := SA.srt_isort_rising SNote.ltB SNote.swo l (.inr ((goodScore_iff _).1 h).2.1)
    rw [e]
  · by_cases h' : goodScore (SNote.srt l) = true
    · have e : SNote.srt l = SA.isort SNote.ltB l := SA.srt_isort_rising SNote.ltB SNote.swo l (.inl ((goodScore_iff _).1 h').2.1)
      rw [e]
    · rw [Bool.eq_false_iff.2 h, Bool.eq_false_iff.2 h']
theorem srt_of_good (l : List S47) (h : goodScore (SNote.srt l) = true) : SNote.srt l = SA.isort SNote.ltB l := SA.srt_isort_rising SNote.ltB SNote.swo l (.inl ((goodScore_iff _).1 h).2.1)
theorem scoreRes_srt (l : List S47) : scoreRes l = if goodScore (SNote.srt l) = true then (SNote.srt l, true) else ([], false) := by
  unfold scoreRes
  rw [← srt_good]
  by_cases h : goodScore (SNote.srt l) = true
  · rw [if_pos h, if_pos h, srt_of_good l h]
  · rw [if_neg h, if_neg h]
theorem nisort_rising (l : List S47) (h : SA.Rising SNote.ltB l) : SA.isort SNote.ltB l = l :=
  (SA.asc_rising SNote.ltB SNote.swo _ _ (SA.isort_perm SNote.ltB l).symm h (SA.isort_asc SNote.ltB SNote.swo l)).symm
theorem ntSorted_ev (l : List S47) (hl : l.length ≤ 1048576) : Ev (fun k => spec_ntSorted.f k l) (scoreRes l) := by
  unfold spec_ntSorted.f SNote.sortedF
  simp only [hl, ↓reduceIte]
  refine Ev.bind (ntGood_ev _ (by rw [SA.isort_length]; exact hl)) ?_
  unfold scoreRes
  by_cases hg : goodScore (SA.isort SNote.ltB l) = true
  · simp only [hg, ↓reduceIte]; exact Ev.now _
  · simp only [hg, Bool.false_eq_true, ↓reduceIte]; exact Ev.now _
theorem srtN_len (l : List S47) : (SNote.srt l).length = l.length := SA.srtL_length SNote.ltB SNote.swo l
theorem sortedNotes_eq (l : List S47) (hl : l.length ≤ 1048576) : impl_sortedNotes.f l = some (SNote.srt l) := by
  unfold impl_sortedNotes.f SNote.ofF
  rw [if_pos hl]
theorem cloneNotes_eq (l : List S47) (hl : l.length ≤ 1048576) : impl_Note.f l = some l := by
  unfold impl_Note.f SNote.cloneF
  rw [if_pos hl]
end Go.Proofs.YtlhhjdlaljmppaaGreat.T
end
section
/- Plain facts on the nearest pitch and the folded one. No condition. -/
set_option linter.unusedVariables false
set_option linter.unusedSimpArgs false
namespace Go.Proofs.YtlhhjdlaljmppaaGreat.T
open Go.RowKit Go.Proofs.YtlhhjdlaljmppaaGreatW.PrintWords Go.Proofs.YtlhhjdlaljmppaaGreatW.PrintLast Go.Proofs.YtlhhjdlaljmppaaGreatW.PrintMore

def ab (n : Int) : Int := if n > -n then n else -n
theorem ab_cases (n : Int) : 0 ≤ n ∧ ab n = n ∨ n < 0 ∧ ab n = -n := by unfold ab; split <;> omega
theorem l1Abs_eq {n : Int} (h0 : -1000000 ≤ n) (h1 : n ≤ 1000000) : spec_l1Abs.f n = some (ab n) := by
  unfold spec_l1Abs.f spec_l1Most.f ab
  rw [w_id (by omega) (by omega)]
  split <;> rfl
theorem distance_eq {a b : Int} (ha : 0 ≤ a ∧ a ≤ 1000) (hb : 0 ≤ b ∧ b ≤ 1000) : impl_distance.f a b = some (ab (a - b)) := by
  unfold impl_distance.f ab mx
  rw [w_id (x := a - b) (by omega) (by omega), w_id (x := b - a) (by omega) (by omega)]
  congr 1
  (repeat' split) <;> omega
def near (m p : Int) : List Int → Int → Int
  | [], b => b
  | x :: xs, b => near m p xs (if Int.tmod (x - p) m = 0 then (if b < 0 then x else if ab (x - p) < ab (b - p) then x else b) else b)
theorem trNearest_l0 (l : List Int) (m p : Int) (hl : l.length ≤ 1048576) (ha : ∀ x ∈ l, 24 ≤ x ∧ x ≤ 96) (hm : m ≠ 0) (hp : 24 ≤ p ∧ p ≤ 96) : ∀ (suf pre : List Int) (b : Int), pre ++ suf = l → (b = -1 ∨ 24 ≤ b ∧ b ≤ 96) →
    Ev (fun k => spec_trNearest.l0 k p m b l l.length pre.length) (near m p suf b) := by
  intro suf
  induction suf with
  | nil =>
    intro pre b h hb
    have hn : ¬ ((pre.length : Int) < (l.length : Int)) := by rw [← h]; simp
    refine Ev.fuel ?_
    simp only [spec_trNearest.l0, hn, ↓reduceIte, near]
    exact Ev.now _
  | cons x suf ih =>
    intro pre b h hb
    have hlen : l.length = pre.length + (suf.length + 1) := by rw [← h]; simp
    have c1 : (pre.length : Int) < (l.length : Int) := by omega
    have c2 : (0 : Int) ≤ (pre.length : Int) := by omega
    have c3 : rd l (pre.length : Int) = x := by rw [← h]; exact getD_mid _ _ _ _
    have hx := ha x (by rw [← h]; simp)
    have w1 : wrap64 (x - p) = x - p := w_id (by omega) (by omega)
    have w2 : wrap64 (b - p) = b - p := w_id (by omega) (by omega)
    have e : ∀ b, (b = -1 ∨ 24 ≤ b ∧ b ≤ 96) → Ev (fun k => spec_trNearest.l0 k p m b l l.length ((pre.length + 1 : Nat) : Int)) (near m p suf b) := fun b hb => by simpa using ih (pre ++ [x]) b (by rw [← h]; simp) hb
    refine Ev.fuel ?_
    simp only [spec_trNearest.l0, c1, c2, c3, hm, ↓reduceIte, wn pre.length (by omega), w1, w2, near]
    by_cases ht : Int.tmod (x - p) m = 0
    · simp only [ht, ↓reduceIte]
      by_cases hn : b < 0
      · simp only [hn, ↓reduceIte]; exact e _ (Or.inr hx)
      · simp only [hn, ↓reduceIte, l1Abs_eq (n := x - p) (by omega) (by omega), l1Abs_eq (n := b - p) (by omega) (by omega), Option.bind_some]
        by_cases hd : ab (x - p) < ab (b - p)
        · simp only [hd, ↓reduceIte]; exact e _ (Or.inr hx)
        · simp only [hd, ↓reduceIte]; exact e _ hb
    · simp only [ht, ↓reduceIte]; exact e _ hb
theorem trNearest_ev (l : List Int) (r m p : Int) (hl : l.length ≤ 1048576) (ha : ∀ x ∈ l, 24 ≤ x ∧ x ≤ 96) (hm : m ≠ 0) (hp : 24 ≤ p ∧ p ≤ 96) : Ev (fun k => spec_trNearest.f k l r p m) (near m p l (-1)) := by
  unfold spec_trNearest.f
  exact trNearest_l0 l m p hl ha hm hp l [] (-1) rfl (Or.inl rfl)
theorem near_range (m p : Int) : ∀ (l : List Int) (b : Int), (∀ x ∈ l, 24 ≤ x ∧ x ≤ 96) → (b = -1 ∨ 24 ≤ b ∧ b ≤ 96) → near m p l b = -1 ∨ 24 ≤ near m p l b ∧ near m p l b ≤ 96 := by
  intro l
  induction l with
  | nil => intro b _ hb; exact hb
  | cons x xs ih =>
    intro b ha hb
    have hx := ha x (by simp)
    refine ih _ (fun y hy => ha y (by simp [hy])) ?_
    (repeat' split) <;> omega
def nearP (p : Int) : List Int → Int → Int
  | [], b => b
  | x :: xs, b => nearP p xs (if ab (x - p) < ab (b - p) then x else b)
theorem near_one (p : Int) : ∀ (l : List Int) (b : Int), 0 ≤ b → (∀ x ∈ l, 24 ≤ x) → near 1 p l b = nearP p l b := by
  intro l
  induction l with
  | nil => intro b _ _; rfl
  | cons x xs ih =>
    intro b hb ha
    have hx := ha x (by simp)
    simp only [near, nearP, Int.tmod_one, ↓reduceIte, show ¬ b < 0 from by omega]
    exact ih _ (by split <;> omega) (fun y hy => ha y (by simp [hy]))
theorem implNear_l0 (l : List Int) (p : Int) (hl : l.length ≤ 1048576) (ha : ∀ x ∈ l, 24 ≤ x ∧ x ≤ 96) (hp : 24 ≤ p ∧ p ≤ 96) : ∀ (suf pre : List Int) (b : Int), pre ++ suf = l → 24 ≤ b ∧ b ≤ 96 →
    Ev (fun k => impl_NearestPitch.l0 k p b l l.length pre.length) (nearP p suf b, true) := by
  intro suf
  induction suf with
  | nil =>
    intro pre b h hb
    have hn : ¬ ((pre.length : Int) < (l.length : Int)) := by rw [← h]; simp
    refine Ev.fuel ?_
    simp only [impl_NearestPitch.l0, hn, ↓reduceIte, nearP]
    exact Ev.now _
  | cons x suf ih =>
    intro pre b h hb
    have hlen : l.length = pre.length + (suf.length + 1) := by rw [← h]; simp
    have c1 : (pre.length : Int) < (l.length : Int) := by omega
    have c2 : (0 : Int) ≤ (pre.length : Int) := by omega
    have c3 : rd l (pre.length : Int) = x := by rw [← h]; exact getD_mid _ _ _ _
    have hx := ha x (by rw [← h]; simp)
    have e : ∀ b, 24 ≤ b ∧ b ≤ 96 → Ev (fun k => impl_NearestPitch.l0 k p b l l.length ((pre.length + 1 : Nat) : Int)) (nearP p suf b, true) := fun b hb => by simpa using ih (pre ++ [x]) b (by rw [← h]; simp) hb
    refine Ev.fuel ?_
    simp only [impl_NearestPitch.l0, c1, c2, c3, ↓reduceIte, wn pre.length (by omega), nearP, distance_eq (a := x) (b := p) ⟨by omega, by omega⟩ ⟨by omega, by omega⟩, distance_eq (a := b) (b := p) ⟨by omega, by omega⟩ ⟨by omega, by omega⟩, Option.bind_some]
    by_cases hd : ab (x - p) < ab (b - p)
    · simp only [hd, ↓reduceIte]; exact e _ hx
    · simp only [hd, ↓reduceIte]; exact e _ hb
theorem nearLaw_ev (l : List Int) (r p : Int) (hl : l.length ≤ 1048576) : ∃ r0 r1, Ev (fun k => spec_NearestPitch.f k l r p) (r0, r1) ∧ Ev (fun k => impl_NearestPitch.f k l r p) (r0, r1) := by
  unfold spec_NearestPitch.f impl_NearestPitch.f
  have jT : ∀ g : Bool, g = true → Ev (fun k => impl_NearestPitch.j0 k p g l r) (0, false) := fun g hg => by
    refine Ev.fuel ?_; simp only [impl_NearestPitch.j0, hg, ↓reduceIte]; exact Ev.now _
  by_cases hg : goodIns l r = true
  · by_cases hp : 24 ≤ p ∧ p ≤ 96
    · have ha := goodIns_all hg
      have hlen := ((goodIns_iff l r).1 hg).1
      obtain ⟨x, xs, rfl⟩ : ∃ x xs, l = x :: xs := by
        cases l with
        | nil => simp at hlen
        | cons x xs => exact ⟨x, xs, rfl⟩
      have hx := ha x (by simp)
      have same : near 1 p (x :: xs) (-1) = nearP p (x :: xs) x := by
        simp only [near, nearP, Int.tmod_one, ↓reduceIte, show ((-1 : Int) < 0) from by decide, Int.lt_irrefl]
        exact near_one p xs x (by omega) (fun y hy => (ha y (by simp [hy])).1)
      refine ⟨nearP p (x :: xs) x, true, ?_, ?_⟩
      · refine Ev.bind (inGood_ev _ r hl) ?_
        simp only [hg, ↓reduceIte, ntPitch_eq, Option.bind_some, hp, and_self, decide_true]
        refine Ev.bind (trNearest_ev _ r 1 p hl ha (by omega) hp) ?_
        rw [same]
        exact Ev.now _
      · refine Ev.bind (IsInstrument_ev _ r hl) ?_
        simp only [hg, ↓reduceIte, isPitch_eq, Option.bind_some, hp, and_self, decide_true, Bool.not_true]
        refine Ev.fuel ?_
        have q : (0 : Int) < (((x :: xs).length : Nat) : Int) := by simp only [List.length_cons]; omega
        have q2 : rd (x :: xs) 0 = x := rfl
        simp only [impl_NearestPitch.j0, Bool.false_eq_true, ↓reduceIte, q, q2]
        exact implNear_l0 (x :: xs) p hl ha hp (x :: xs) [] x rfl hx
    · refine ⟨0, false, ?_, ?_⟩
      · refine Ev.bind (inGood_ev l r hl) ?_
        simp only [hg, ↓reduceIte, ntPitch_eq, Option.bind_some, hp, decide_false, Bool.false_eq_true]
        exact Ev.now _
      · refine Ev.bind (IsInstrument_ev l r hl) ?_
        simp only [hg, ↓reduceIte, isPitch_eq, Option.bind_some, hp, decide_false, Bool.not_false]
        exact jT _ rfl
  · refine ⟨0, false, ?_, ?_⟩
    · refine Ev.bind (inGood_ev l r hl) ?_
      simp only [hg, Bool.false_eq_true, ↓reduceIte]
      exact Ev.now _
    · refine Ev.bind (IsInstrument_ev l r hl) ?_
      simp only [hg, Bool.false_eq_true, ↓reduceIte]
      exact jT _ rfl
def foldF (p : Int) : List Int → Int → Int
  | [], b => b
  | x :: xs, b => foldF p xs (if Int.tmod (x - p) 12 = 0 then (if b = 0 then x else if ab (x - p) < ab (b - p) then x else b) else b)
theorem foldPitch_l0 (l : List Int) (p : Int) (hl : l.length ≤ 1048576) (ha : ∀ x ∈ l, 24 ≤ x ∧ x ≤ 96) (hp : 24 ≤ p ∧ p ≤ 96) : ∀ (suf pre : List Int) (b : Int), pre ++ suf = l → (b = 0 ∨ 24 ≤ b ∧ b ≤ 96) →
    Ev (fun k => impl_foldPitch.l0 k p b l l.length pre.length) (foldF p suf b) := by
  intro suf
  induction suf with
  | nil =>
    intro pre b h hb
    have hn : ¬ ((pre.length : Int) < (l.length : Int)) := by rw [← h]; simp
    refine Ev.fuel ?_
    simp only [impl_foldPitch.l0, hn, ↓reduceIte, foldF]
    exact Ev.now _
  | cons x suf ih =>
    intro pre b h hb
    have hlen : l.length = pre.length + (suf.length + 1) := by rw [← h]; simp
    have c1 : (pre.length : Int) < (l.length : Int) := by omega
    have c2 : (0 : Int) ≤ (pre.length : Int) := by omega
    have c3 : rd l (pre.length : Int) = x := by rw [← h]; exact getD_mid _ _ _ _
    have hx := ha x (by rw [← h]; simp)
    have w1 : wrap64 (x - p) = x - p := w_id (by omega) (by omega)
    have e : ∀ b, (b = 0 ∨ 24 ≤ b ∧ b ≤ 96) → Ev (fun k => impl_foldPitch.l0 k p b l l.length ((pre.length + 1 : Nat) : Int)) (foldF p suf b) := fun b hb => by simpa using ih (pre ++ [x]) b (by rw [← h]; simp) hb
    refine Ev.fuel ?_
    simp only [impl_foldPitch.l0, c1, c2, c3, ↓reduceIte, wn pre.length (by omega), w1, foldF]
    by_cases ht : Int.tmod (x - p) 12 = 0
    · simp only [ht, ↓reduceIte]
      by_cases hn : b = 0
      · simp only [hn, ↓reduceIte]; exact e _ (Or.inr hx)
      · simp only [hn, ↓reduceIte, distance_eq (a := x) (b := p) ⟨by omega, by omega⟩ ⟨by omega, by omega⟩, distance_eq (a := b) (b := p) ⟨by omega, by omega⟩ ⟨by omega, by omega⟩, Option.bind_some]
        by_cases hd : ab (x - p) < ab (b - p)
        · simp only [hd, ↓reduceIte]; exact e _ (Or.inr hx)
        · simp only [hd, ↓reduceIte]; exact e _ hb
    · simp only [ht, ↓reduceIte]; exact e _ hb
theorem foldPitch_ev (l : List Int) (r p : Int) (hl : l.length ≤ 1048576) (ha : ∀ x ∈ l, 24 ≤ x ∧ x ≤ 96) (hp : 24 ≤ p ∧ p ≤ 96) : Ev (fun k => impl_foldPitch.f k l r p) (foldF p l 0) := by
  unfold impl_foldPitch.f
  exact foldPitch_l0 l p hl ha hp l [] 0 rfl (Or.inl rfl)
theorem fold_same (p : Int) : ∀ (l : List Int) (b c : Int), (∀ x ∈ l, 24 ≤ x ∧ x ≤ 96) → (b = -1 ∧ c = 0 ∨ 24 ≤ b ∧ b ≤ 96 ∧ c = b) →
    (near 12 p l b = -1 ∧ foldF p l c = 0 ∨ 24 ≤ near 12 p l b ∧ near 12 p l b ≤ 96 ∧ foldF p l c = near 12 p l b) := by
  intro l
  induction l with
  | nil => intro b c _ h; exact h
  | cons x xs ih =>
    intro b c ha h
    have hx := ha x (by simp)
    refine ih _ _ (fun y hy => ha y (by simp [hy])) ?_
    rcases h with ⟨rfl, rfl⟩ | ⟨h1, h2, rfl⟩
    · by_cases ht : Int.tmod (x - p) 12 = 0
      · rw [if_pos ht, if_pos ht, if_pos (show (-1 : Int) < 0 by decide), if_pos rfl]; exact Or.inr ⟨hx.1, hx.2, rfl⟩
      · rw [if_neg ht, if_neg ht]; exact Or.inl ⟨rfl, rfl⟩
    · by_cases ht : Int.tmod (x - p) 12 = 0
      · rw [if_pos ht, if_pos ht, if_neg (show ¬ c < 0 by omega), if_neg (show ¬ c = 0 by omega)]
        by_cases hd : ab (x - p) < ab (c - p)
        · rw [if_pos hd]; exact Or.inr ⟨hx.1, hx.2, rfl⟩
        · rw [if_neg hd]; exact Or.inr ⟨h1, h2, rfl⟩
      · rw [if_neg ht, if_neg ht]; exact Or.inr ⟨h1, h2, rfl⟩
theorem foldLaw_ev (l : List Int) (r p : Int) (hl : l.length ≤ 1048576) : ∃ r0 r1, Ev (fun k => spec_FoldPitch.f k l r p) (r0, r1) ∧ Ev (fun k => impl_FoldPitch.f k l r p) (r0, r1) := by
  unfold spec_FoldPitch.f impl_FoldPitch.f
  by_cases hg : goodIns l r = true
  · by_cases hp : 24 ≤ p ∧ p ≤ 96
    · have ha := goodIns_all hg
      have es := trNearest_ev l r 12 p hl ha (by omega) hp
      have ei := foldPitch_ev l r p hl ha hp
      rcases fold_same p l (-1) 0 ha (Or.inl ⟨rfl, rfl⟩) with ⟨h1, h2⟩ | ⟨h1, h2, h3⟩
      · rw [h1] at es
        rw [h2] at ei
        refine ⟨0, false, ?_, ?_⟩
        · refine Ev.bind (inGood_ev l r hl) ?_
          simp only [hg, ↓reduceIte, ntPitch_eq, Option.bind_some, hp, and_self, decide_true]
          refine Ev.bind es ?_
          simp only [show ((-1 : Int) < 0) from by decide, ↓reduceIte]
          exact Ev.now _
        · refine Ev.bind (IsInstrument_ev l r hl) ?_
          simp only [hg, ↓reduceIte, isPitch_eq, Option.bind_some, hp, and_self, decide_true]
          exact Ev.bind ei (Ev.const (by simp))
      · rw [h3] at ei
        refine ⟨near 12 p l (-1), true, ?_, ?_⟩
        · refine Ev.bind (inGood_ev l r hl) ?_
          simp only [hg, ↓reduceIte, ntPitch_eq, Option.bind_some, hp, and_self, decide_true]
          refine Ev.bind es ?_
          simp only [show ¬ near 12 p l (-1) < 0 from by omega, ↓reduceIte]
          exact Ev.bind es (Ev.now _)
        · refine Ev.bind (IsInstrument_ev l r hl) ?_
          simp only [hg, ↓reduceIte, isPitch_eq, Option.bind_some, hp, and_self, decide_true]
          refine Ev.bind ei (Ev.const ?_)
          have : (near 12 p l (-1) != 0) = true := by simp; omega
          rw [this]
    · refine ⟨0, false, ?_, ?_⟩
      · refine Ev.bind (inGood_ev l r hl) ?_
        simp only [hg, ↓reduceIte, ntPitch_eq, Option.bind_some, hp, decide_false, Bool.false_eq_true]
        exact Ev.now _
      · refine Ev.bind (IsInstrument_ev l r hl) ?_
        simp only [hg, ↓reduceIte, isPitch_eq, Option.bind_some, hp, decide_false, Bool.false_eq_true]
        exact Ev.now _
  · refine ⟨0, false, ?_, ?_⟩
    · refine Ev.bind (inGood_ev l r hl) ?_
      simp only [hg, Bool.false_eq_true, ↓reduceIte]
      exact Ev.now _
    · refine Ev.bind (IsInstrument_ev l r hl) ?_
      simp only [hg, Bool.false_eq_true, ↓reduceIte]
      exact Ev.now _
end Go.Proofs.YtlhhjdlaljmppaaGreat.T
end
section
/- Plain facts on folded scores. No condition. -/
set_option linter.unusedVariables false
set_option linter.unusedSimpArgs false
namespace Go.Proofs.YtlhhjdlaljmppaaGreat.T
open Go.RowKit Go.Proofs.YtlhhjdlaljmppaaGreatW.PrintWords Go.Proofs.YtlhhjdlaljmppaaGreatW.PrintLast Go.Proofs.YtlhhjdlaljmppaaGreatW.PrintMore

def foldTo (l : List Int) (p : Int) : Int := if 24 ≤ p ∧ p ≤ 96 then near 12 p l (-1) else -1
def foldS (l : List Int) (b : Int) : List S47 → List S47 → Int → List S47 × Int
  | [], o, c => (o, c)
  | x :: xs, o, c => if foldTo l (x.f0 + b) = -1 then foldS l b xs o (c + 1) else if goodScore (SNote.srt (o ++ [⟨foldTo l (x.f0 + b), x.f1, x.f2⟩])) = true then foldS l b xs (SNote.srt (o ++ [⟨foldTo l (x.f0 + b), x.f1, x.f2⟩])) c else foldS l b xs o (c + 1)
theorem bad_score (o : List S47) (x : S47) (h : noteB x = false) : goodScore (SNote.srt (o ++ [x])) = false := by
  rw [Bool.eq_false_iff]
  intro hg
  rw [srt_of_good _ hg] at hg
  have := goodScore_all hg x ((SA.isort_perm SNote.ltB (o ++ [x])).mem_iff.2 (by simp))
  rw [h] at this
  cases this
theorem foldS_len (l : List Int) (b : Int) : ∀ (xs o : List S47) (c : Int), o.length ≤ 30 → (foldS l b xs o c).1.length ≤ 30 := by
  intro xs
  induction xs with
  | nil => intro o c h; exact h
  | cons x xs ih =>
    intro o c h
    unfold foldS
    split
    · exact ih _ _ h
    · split
      · rename_i hg
        exact ih _ _ (goodScore_len hg)
      · exact ih _ _ h
theorem trFold_l0 (l : List Int) (r b : Int) (s : List S47) (hl : l.length ≤ 1048576) (ha : ∀ x ∈ l, 24 ≤ x ∧ x ≤ 96) (hs : s.length ≤ 30) (hn : ∀ x ∈ s, noteB x = true) (hb : -100 ≤ b ∧ b ≤ 100) : ∀ (suf pre o : List S47) (c : Int), pre ++ suf = s → o.length ≤ 30 → 0 ≤ c → c ≤ pre.length →
    Ev (fun k => spec_trFold.l0 k b o c s s.length pre.length l r) (foldS l b suf o c) := by
  intro suf
  induction suf with
  | nil =>
    intro pre o c h ho h0 h1
    have hn : ¬ ((pre.length : Int) < (s.length : Int)) := by rw [← h]; simp
    refine Ev.fuel ?_
    simp only [spec_trFold.l0, hn, ↓reduceIte, foldS]
    exact Ev.now _
  | cons x suf ih =>
    intro pre o c h ho h0 h1
    have hlen : s.length = pre.length + (suf.length + 1) := by rw [← h]; simp
    have c1 : (pre.length : Int) < (s.length : Int) := by omega
    have c2 : (0 : Int) ≤ (pre.length : Int) := by omega
    have c3 : rd_T47 s (pre.length : Int) = x := by rw [← h]; exact getD_mid _ _ _ _
    have hx := (noteB_iff x).1 (hn x (by rw [← h]; simp))
    have w1 : wrap64 (x.f0 + b) = x.f0 + b := w_id (by omega) (by omega)
    have w2 : wrap64 (c + 1) = c + 1 := w_id (by omega) (by omega)
    have e : ∀ (o : List S47) (c' : Int), o.length ≤ 30 → 0 ≤ c' → c' ≤ c + 1 → Ev (fun k => spec_trFold.l0 k b o c' s s.length ((pre.length + 1 : Nat) : Int) l r) (foldS l b suf o c') := fun o c' hp hq hr => by
      simpa using ih (pre ++ [x]) o c' (by rw [← h]; simp) hp hq (by simp; omega)
    have J : Ev (fun k => spec_trFold.j1 k b o c (foldTo l (x.f0 + b)) s s.length pre.length l r x.f0 x.f1 x.f2) (foldS l b (x :: suf) o c) := by
      refine Ev.fuel ?_
      have q1 : o.length < 5864062014805 := by omega
      have q2 : o.length + 1 < 5864062014805 := by omega
      simp only [spec_trFold.j1, Option.bind_some, List.nil_append, List.length_nil, Nat.zero_add, q1, q2, List.length_cons, ↓reduceIte, wn pre.length (by omega), w2]
      refine Ev.bind (ntSorted_ev _ (by simp; omega)) ?_
      rw [scoreRes_srt]
      unfold foldS
      by_cases hg : goodScore (SNote.srt (o ++ [⟨foldTo l (x.f0 + b), x.f1, x.f2⟩])) = true
      · have hf : foldTo l (x.f0 + b) ≠ -1 := by
          intro hf
          rw [bad_score] at hg
          · cases hg
          · rw [Bool.eq_false_iff]; intro hy
            have := ((noteB_iff _).1 hy).1
            simp only [hf] at this
            omega
        simp only [hg, hf, ↓reduceIte]
        exact e _ _ (goodScore_len hg) h0 (by omega)
      · simp only [hg, Bool.false_eq_true, ↓reduceIte, ite_self]
        exact e _ _ ho (by omega) (by omega)
    refine Ev.fuel ?_
    simp only [spec_trFold.l0, c1, c2, c3, ↓reduceIte, w1, ntPitch_eq, Option.bind_some]
    by_cases hp : 24 ≤ x.f0 + b ∧ x.f0 + b ≤ 96
    · simp only [hp, and_self, decide_true, ↓reduceIte]
      refine Ev.bind (trNearest_ev l r 12 (x.f0 + b) hl ha (by omega) hp) ?_
      have : foldTo l (x.f0 + b) = near 12 (x.f0 + b) l (-1) := by unfold foldTo; rw [if_pos hp]
      rw [← this]
      exact J
    · simp only [hp, decide_false, Bool.false_eq_true, ↓reduceIte]
      have : foldTo l (x.f0 + b) = -1 := by unfold foldTo; rw [if_neg hp]
      rw [this] at J
      exact J
theorem trFold_ev (l : List Int) (r b : Int) (s : List S47) (hl : l.length ≤ 1048576) (ha : ∀ x ∈ l, 24 ≤ x ∧ x ≤ 96) (hs : s.length ≤ 30) (hn : ∀ x ∈ s, noteB x = true) (hb : -100 ≤ b ∧ b ≤ 100) : Ev (fun k => spec_trFold.f k l r s b) (foldS l b s [] 0) := by
  unfold spec_trFold.f
  exact trFold_l0 l r b s hl ha hs hn hb s [] [] 0 rfl (by simp) (by omega) (by simp)
theorem foldScore_l0 (l : List Int) (r : Int) (s : List S47) (hl : l.length ≤ 1048576) (ha : ∀ x ∈ l, 24 ≤ x ∧ x ≤ 96) (hs : s.length ≤ 1000) (hn : ∀ x ∈ s, noteB x = true) : ∀ (suf pre o : List S47) (c : Int), pre ++ suf = s → o.length ≤ 30 → 0 ≤ c → c ≤ pre.length →
    Ev (fun k => impl_foldScore.l0 k o c s s.length pre.length l r) (foldS l 0 suf o c) := by
  intro suf
  induction suf with
  | nil =>
    intro pre o c h ho h0 h1
    have hn : ¬ ((pre.length : Int) < (s.length : Int)) := by rw [← h]; simp
    refine Ev.fuel ?_
    simp only [impl_foldScore.l0, hn, ↓reduceIte, foldS]
    exact Ev.now _
  | cons x suf ih =>
    intro pre o c h ho h0 h1
    have hlen : s.length = pre.length + (suf.length + 1) := by rw [← h]; simp
    have c1 : (pre.length : Int) < (s.length : Int) := by omega
    have c2 : (0 : Int) ≤ (pre.length : Int) := by omega
    have c3 : rd_T47 s (pre.length : Int) = x := by rw [← h]; exact getD_mid _ _ _ _
    have hx := (noteB_iff x).1 (hn x (by rw [← h]; simp))
    have w2 : wrap64 (c + 1) = c + 1 := w_id (by omega) (by omega)
    have e : ∀ (o : List S47) (c' : Int), o.length ≤ 30 → 0 ≤ c' → c' ≤ c + 1 → Ev (fun k => impl_foldScore.l0 k o c' s s.length ((pre.length + 1 : Nat) : Int) l r) (foldS l 0 suf o c') := fun o c' hp hq hr => by
      simpa using ih (pre ++ [x]) o c' (by rw [← h]; simp) hp hq (by simp; omega)
    have hp : 24 ≤ x.f0 ∧ x.f0 ≤ 96 := ⟨hx.1, hx.2.1⟩
    have hto : foldTo l (x.f0 + 0) = near 12 x.f0 l (-1) := by unfold foldTo; rw [if_pos (by omega), Int.add_zero]
    have q1 : o.length + 1 < 5864062014805 := by omega
    refine Ev.fuel ?_
    simp only [impl_foldScore.l0, c1, c2, c3, ↓reduceIte]
    refine Ev.bind (foldPitch_ev l r x.f0 hl ha hp) ?_
    simp only [cloneNotes_eq o (by omega), Option.bind_some, List.length_cons, List.length_nil, Nat.zero_add, q1, ↓reduceIte, sortedNotes_eq (o ++ [⟨foldF x.f0 l 0, x.f1, x.f2⟩]) (by simp; omega), wn pre.length (by omega), w2]
    unfold foldS
    rw [hto]
    rcases fold_same x.f0 l (-1) 0 ha (Or.inl ⟨rfl, rfl⟩) with ⟨f1, f2⟩ | ⟨f1, f2, f3⟩
    · rw [if_pos f1]
      simp only [f2, ↓reduceIte]
      exact e _ _ ho (by omega) (by omega)
    · rw [f3, if_neg (by omega)]
      have hz : ¬ near 12 x.f0 l (-1) = 0 := by omega
      simp only [hz, ↓reduceIte]
      refine Ev.bind (IsScore_ev _ (by rw [srtN_len]; simp; omega)) ?_
      by_cases hg : goodScore (SNote.srt (o ++ [⟨near 12 x.f0 l (-1), x.f1, x.f2⟩])) = true
      · simp only [hg, ↓reduceIte]
        exact e _ _ (goodScore_len hg) h0 (by omega)
      · simp only [hg, Bool.false_eq_true, ↓reduceIte]
        exact e _ _ ho (by omega) (by omega)
theorem foldScore_ev (l : List Int) (r : Int) (s : List S47) (hl : l.length ≤ 1048576) (ha : ∀ x ∈ l, 24 ≤ x ∧ x ≤ 96) (hs : s.length ≤ 1000) (hn : ∀ x ∈ s, noteB x = true) : Ev (fun k => impl_foldScore.f k l r s) (foldS l 0 s [] 0) := by
  unfold impl_foldScore.f
  exact foldScore_l0 l r s hl ha hs hn s [] [] 0 rfl (by simp) (by omega) (by simp)
theorem foldScoreLaw_ev (l : List Int) (r : Int) (s : List S47) (hl : l.length ≤ 1048576) (hs : s.length ≤ 1048576) : ∃ r0 r1 r2, r0.length ≤ 1048576 ∧ Ev (fun k => spec_FoldScore.f k l r s) (r0, r1, r2) ∧ Ev (fun k => impl_FoldScore.f k l r s) (r0, r1, r2) := by
  unfold spec_FoldScore.f impl_FoldScore.f
  have ea := inAsked_ev l r s hl hs
  have e1 := IsInstrument_ev l r hl
  have e2 := IsScore_ev s hs
  by_cases h1 : goodIns l r = true
  · by_cases h2 : goodScore s = true
    · simp only [h1, h2, Bool.true_and] at ea e1 e2
      have hlen := foldS_len l 0 s [] 0 (by simp)
      refine ⟨(foldS l 0 s [] 0).1, (foldS l 0 s [] 0).2, true, by omega, ?_, ?_⟩
      · refine Ev.bind ea ?_
        simp only [↓reduceIte]
        exact Ev.bind (trFold_ev l r 0 s hl (goodIns_all h1) (goodScore_len h2) (goodScore_all h2) (by omega)) (Ev.now _)
      · refine Ev.bind e1 ?_
        simp only [↓reduceIte]
        refine Ev.bind e2 ?_
        simp only [↓reduceIte]
        exact Ev.bind (foldScore_ev l r s hl (goodIns_all h1) (by have := goodScore_len h2; omega) (goodScore_all h2)) (Ev.now _)
    · simp only [h1, Bool.eq_false_iff.mpr h2, Bool.true_and] at ea e1 e2
      refine ⟨[], 0, false, by simp, ?_, ?_⟩
      · refine Ev.bind ea ?_
        simp only [Bool.false_eq_true, ↓reduceIte]; exact Ev.now _
      · refine Ev.bind e1 ?_
        simp only [↓reduceIte]
        refine Ev.bind e2 ?_
        simp only [Bool.false_eq_true, ↓reduceIte]; exact Ev.now _
  · simp only [Bool.eq_false_iff.mpr h1, Bool.false_and] at ea e1
    refine ⟨[], 0, false, by simp, ?_, ?_⟩
    · refine Ev.bind ea ?_
      simp only [Bool.false_eq_true, ↓reduceIte]; exact Ev.now _
    · refine Ev.bind e1 ?_
      simp only [Bool.false_eq_true, ↓reduceIte]; exact Ev.now _
end Go.Proofs.YtlhhjdlaljmppaaGreat.T
end
section
/- The plain law of the best fold. No condition. -/
set_option linter.unusedVariables false
set_option linter.unusedSimpArgs false
namespace Go.Proofs.YtlhhjdlaljmppaaGreat.T
open Go.RowKit Go.Proofs.YtlhhjdlaljmppaaGreatW.PrintWords Go.Proofs.YtlhhjdlaljmppaaGreatW.PrintLast Go.Proofs.YtlhhjdlaljmppaaGreatW.PrintMore

theorem foldS_cnt (l : List Int) (b : Int) : ∀ (xs o : List S47) (c : Int), c ≤ (foldS l b xs o c).2 ∧ (foldS l b xs o c).2 ≤ c + xs.length := by
  intro xs
  induction xs with
  | nil => intro o c; simp [foldS]
  | cons x xs ih =>
    intro o c
    unfold foldS
    simp only [List.length_cons]
    split
    · have := ih o (c + 1); omega
    · split
      · have := ih (SNote.srt (o ++ [⟨foldTo l (x.f0 + b), x.f1, x.f2⟩])) c; omega
      · have := ih o (c + 1); omega
def outOf (l : List Int) (s : List S47) (b : Int) : Int := (foldS l b s [] 0).2
theorem outOf_range (l : List Int) (s : List S47) (b : Int) : 0 ≤ outOf l s b ∧ outOf l s b ≤ s.length := by
  have := foldS_cnt l b s [] 0
  unfold outOf
  omega
def validOf (b : Int) : List S47 → List S47
  | [] => []
  | x :: xs => if 24 ≤ x.f0 + b ∧ x.f0 + b ≤ 96 then ⟨x.f0 + b, x.f1, x.f2⟩ :: validOf b xs else validOf b xs
theorem validOf_len (b : Int) : ∀ xs : List S47, (validOf b xs).length ≤ xs.length := by
  intro xs
  induction xs with
  | nil => simp [validOf]
  | cons x xs ih => unfold validOf; split <;> simp <;> omega
theorem validOf_note (b : Int) : ∀ xs : List S47, (∀ x ∈ xs, noteB x = true) → ∀ x ∈ validOf b xs, noteB x = true := by
  intro xs
  induction xs with
  | nil => intro _ x hx; simp [validOf] at hx
  | cons y ys ih =>
    intro h x hx
    have hy := (noteB_iff y).1 (h y (by simp))
    unfold validOf at hx
    split at hx
    · rename_i hv
      rcases List.mem_cons.1 hx with rfl | hx
      · exact (noteB_iff _).2 (by simp only; omega)
      · exact ih (fun x hx => h x (by simp [hx])) x hx
    · exact ih (fun x hx => h x (by simp [hx])) x hx
theorem fold_valid (l : List Int) (b : Int) : ∀ (xs o : List S47) (c c' : Int), (foldS l b xs o c).2 - c = (foldS l 0 (validOf b xs) o c').2 - c' + ((xs.length : Int) - ((validOf b xs).length : Int)) := by
  intro xs
  induction xs with
  | nil => intro o c c'; simp [foldS, validOf]
  | cons x xs ih =>
    intro o c c'
    by_cases hv : 24 ≤ x.f0 + b ∧ x.f0 + b ≤ 96
    · simp only [validOf, hv, and_self, ↓reduceIte, foldS, Int.add_zero, List.length_cons]
      split
      · have := ih o (c + 1) (c' + 1); omega
      · split
        · have := ih (SNote.srt (o ++ [⟨foldTo l (x.f0 + b), x.f1, x.f2⟩])) c c'; omega
        · have := ih o (c + 1) (c' + 1); omega
    · have hf : foldTo l (x.f0 + b) = -1 := by unfold foldTo; rw [if_neg hv]
      simp only [validOf, hv, ↓reduceIte, foldS, hf, List.length_cons]
      have := ih o (c + 1) c'; omega
def pairsI : Int → Nat → List Int
  | _, 0 => []
  | d, n + 1 => -d :: d :: pairsI (d + 1) n
theorem pairsI_len : ∀ (n : Nat) (d : Int), (pairsI d n).length = 2 * n := by
  intro n
  induction n with
  | zero => intro d; rfl
  | succ n ih => intro d; simp only [pairsI, List.length_cons, ih]; omega
theorem pairsI_range : ∀ (n : Nat) (d : Int), 1 ≤ d → d + n ≤ 12 → ∀ x ∈ pairsI d n, -11 ≤ x ∧ x ≤ 11 := by
  intro n
  induction n with
  | zero => intro d _ _ x hx; simp [pairsI] at hx
  | succ n ih =>
    intro d h1 h2 x hx
    simp only [pairsI, List.mem_cons] at hx
    rcases hx with rfl | rfl | hx
    · omega
    · omega
    · exact ih (d + 1) (by omega) (by omega) x hx
theorem trOrder_l0 : ∀ (n : Nat) (d : Int) (acc : List Int), d + n = 12 → 1 ≤ d → (acc.length : Int) ≤ 2 * d → Ev (fun k => spec_trOrder.l0 k 11 acc d) (acc ++ pairsI d n) := by
  intro n
  induction n with
  | zero =>
    intro d acc h h1 ha
    have hn : ¬ d ≤ 11 := by omega
    refine Ev.fuel ?_
    simp only [spec_trOrder.l0, hn, ↓reduceIte, pairsI, List.append_nil]
    exact Ev.now _
  | succ n ih =>
    intro d acc h h1 ha
    have hn : d ≤ 11 := by omega
    have hb : acc.length + [-d, d].length < 17592186044416 := by simp only [List.length_cons, List.length_nil]; omega
    refine Ev.fuel ?_
    simp only [spec_trOrder.l0, hn, ↓reduceIte, Option.bind_some, w_id (x := -d) (by omega) (by omega), w_id (x := d + 1) (by omega) (by omega), hb]
    have e := ih (d + 1) (acc ++ [-d, d]) (by omega) (by omega) (by simp; omega)
    simpa [pairsI] using e
def bestStep (f : Int → Int) (p : Int × Int) (x : Int) : Int × Int := if f x < p.2 then (x, f x) else p
theorem specBest_l0 (l : List Int) (r : Int) (s : List S47) (hl : l.length ≤ 1048576) (hs : s.length ≤ 30) (ha : ∀ x ∈ l, 24 ≤ x ∧ x ≤ 96) (hn : ∀ x ∈ s, noteB x = true) (ps : List Int) (hp : ps.length ≤ 1000) (hr : ∀ x ∈ ps, -11 ≤ x ∧ x ≤ 11) : ∀ (suf pre : List Int) (b m : Int), pre ++ suf = ps → 0 ≤ m →
    Ev (fun k => spec_BestFold.l0 k s b m ps ps.length pre.length l r) ((suf.foldl (bestStep (outOf l s)) (b, m)).1, (suf.foldl (bestStep (outOf l s)) (b, m)).2, true) := by
  intro suf
  induction suf with
  | nil =>
    intro pre b m h h0
    have hn : ¬ ((pre.length : Int) < (ps.length : Int)) := by rw [← h]; simp
    refine Ev.fuel ?_
    simp only [spec_BestFold.l0, hn, ↓reduceIte, List.foldl_nil]
    exact Ev.now _
  | cons x suf ih =>
    intro pre b m h h0
    have hlen : ps.length = pre.length + (suf.length + 1) := by rw [← h]; simp
    have h1 : (pre.length : Int) < (ps.length : Int) := by omega
    have h2 : (0 : Int) ≤ (pre.length : Int) := by omega
    have hx : rd ps (pre.length : Int) = x := by rw [← h]; exact getD_mid _ _ _ _
    have hm : ¬ m < 0 := by omega
    have hxr := hr x (by rw [← h]; simp)
    have e : ∀ b m, 0 ≤ m → Ev (fun k => spec_BestFold.l0 k s b m ps ps.length ((pre.length + 1 : Nat) : Int) l r) ((suf.foldl (bestStep (outOf l s)) (b, m)).1, (suf.foldl (bestStep (outOf l s)) (b, m)).2, true) := fun b m h0 => by
      simpa using ih (pre ++ [x]) b m (by rw [← h]; simp) h0
    refine Ev.fuel ?_
    simp only [spec_BestFold.l0, h1, h2, hx, ↓reduceIte, wn pre.length (by omega)]
    refine Ev.bind (trFold_ev l r x s hl ha hs hn (by omega)) ?_
    by_cases hc : outOf l s x < m
    · have hc' : (foldS l x s [] 0).2 < m := hc
      simp only [hm, hc, hc', ↓reduceIte, List.foldl_cons, bestStep]
      exact e x _ (outOf_range l s x).1
    · have hc' : ¬ (foldS l x s [] 0).2 < m := hc
      simp only [hm, hc, hc', ↓reduceIte, List.foldl_cons, bestStep]
      exact e b m h0
theorem closure_l0 (l : List Int) (r : Int) (s : List S47) (b : Int) (hl : l.length ≤ 1048576) (ha : ∀ x ∈ l, 24 ≤ x ∧ x ≤ 96) (hs : s.length ≤ 30) (hn : ∀ x ∈ s, noteB x = true) (hb : -24 ≤ b ∧ b ≤ 24) (V : List S47) (hV : V.length ≤ s.length) (hVn : ∀ x ∈ V, noteB x = true) : ∀ (suf pre v : List S47), pre ++ suf = s → v ++ validOf b suf = V →
    Ev (fun k => impl_BestFold_1.l0 k v s.length pre.length b s l r) ((foldS l 0 V [] 0).2 + s.length - V.length) := by
  intro suf
  induction suf with
  | nil =>
    intro pre v h hv
    have hn : ¬ ((pre.length : Int) < (s.length : Int)) := by rw [← h]; simp
    have hv' : v = V := by simpa [validOf] using hv
    subst hv'
    have hc := foldS_cnt l 0 v [] 0
    refine Ev.fuel ?_
    simp only [impl_BestFold_1.l0, hn, ↓reduceIte]
    refine Ev.bind (foldScore_ev l r v hl ha (by omega) hVn) ?_
    rw [w_id (x := (foldS l 0 v [] 0).2 + (s.length : Int)) (by omega) (by omega), w_id (by omega) (by omega)]
    exact Ev.now _
  | cons x suf ih =>
    intro pre v h hv
    have hlen : s.length = pre.length + (suf.length + 1) := by rw [← h]; simp
    have h1 : (pre.length : Int) < (s.length : Int) := by omega
    have h2 : (0 : Int) ≤ (pre.length : Int) := by omega
    have h3 : rd_T47 s (pre.length : Int) = x := by rw [← h]; exact getD_mid _ _ _ _
    have hx := (noteB_iff x).1 (hn x (by rw [← h]; simp))
    have hvl : v.length ≤ V.length := by rw [← hv]; simp
    have h4 : v.length < 5864062014805 := by omega
    refine Ev.fuel ?_
    simp only [impl_BestFold_1.l0, h1, h2, h3, h4, ↓reduceIte, wn pre.length (by omega), isPitch_eq, Option.bind_some, w_id (x := x.f0 + b) (by omega) (by omega), decide_eq_true_eq]
    by_cases hp : 24 ≤ x.f0 + b ∧ x.f0 + b ≤ 96
    · simp only [hp, and_self, ↓reduceIte]
      simp only [validOf, hp, and_self, ↓reduceIte] at hv
      simpa using ih (pre ++ [x]) (v ++ [⟨x.f0 + b, x.f1, x.f2⟩]) (by rw [← h]; simp) (by rw [← hv]; simp)
    · simp only [hp, ↓reduceIte]
      simp only [validOf, hp, ↓reduceIte] at hv
      simpa using ih (pre ++ [x]) v (by rw [← h]; simp) hv
theorem closure_ev (l : List Int) (r : Int) (s : List S47) (b : Int) (hl : l.length ≤ 1048576) (ha : ∀ x ∈ l, 24 ≤ x ∧ x ≤ 96) (hs : s.length ≤ 30) (hn : ∀ x ∈ s, noteB x = true) (hb : -24 ≤ b ∧ b ≤ 24) : Ev (fun k => impl_BestFold_1.f k l r s b) (outOf l s b) := by
  unfold impl_BestFold_1.f
  have e := closure_l0 l r s b hl ha hs hn hb (validOf b s) (validOf_len b s) (validOf_note b s hn) s [] [] rfl rfl
  have h := fold_valid l b s [] 0 0
  have h2 : outOf l s b = (foldS l 0 (validOf b s) [] 0).2 + s.length - (validOf b s).length := by unfold outOf; omega
  rw [h2]
  simpa using e
theorem bestBy_l1 (l : List Int) (r : Int) (s : List S47) (hl : l.length ≤ 1048576) (hs : s.length ≤ 30) (ha : ∀ x ∈ l, 24 ≤ x ∧ x ≤ 96) (hn : ∀ x ∈ s, noteB x = true) (d : Int) (ps : List Int) (hp : ps.length ≤ 1000) (hr : ∀ x ∈ ps, -11 ≤ x ∧ x ≤ 11) (res : Int × Int) : ∀ (suf pre : List Int) (b m : Int), pre ++ suf = ps →
    Ev (fun k => impl_bestBy_F.l0 k 11 (suf.foldl (bestStep (outOf l s)) (b, m)).1 (suf.foldl (bestStep (outOf l s)) (b, m)).2 (wrap64 (d + 1)) l r s) res →
    Ev (fun k => impl_bestBy_F.l1 k 11 b m d ps ps.length pre.length l r s) res := by
  intro suf
  induction suf with
  | nil =>
    intro pre b m h hres
    have hn : ¬ ((pre.length : Int) < (ps.length : Int)) := by rw [← h]; simp
    refine Ev.fuel ?_
    simp only [impl_bestBy_F.l1, hn, ↓reduceIte]
    exact hres
  | cons x suf ih =>
    intro pre b m h hres
    have hlen : ps.length = pre.length + (suf.length + 1) := by rw [← h]; simp
    have h1 : (pre.length : Int) < (ps.length : Int) := by omega
    have h2 : (0 : Int) ≤ (pre.length : Int) := by omega
    have hx : rd ps (pre.length : Int) = x := by rw [← h]; exact getD_mid _ _ _ _
    have hxr := hr x (by rw [← h]; simp)
    refine Ev.fuel ?_
    simp only [impl_bestBy_F.l1, h1, h2, hx, ↓reduceIte, wn pre.length (by omega)]
    refine Ev.bind (closure_ev l r s x hl ha hs hn (by omega)) ?_
    rw [List.foldl_cons] at hres
    by_cases hc : outOf l s x < m
    · simp only [hc, ↓reduceIte, bestStep] at hres ⊢
      simpa using ih (pre ++ [x]) x (outOf l s x) (by rw [← h]; simp) hres
    · simp only [hc, ↓reduceIte, bestStep] at hres ⊢
      simpa using ih (pre ++ [x]) b m (by rw [← h]; simp) hres
theorem bestBy_l0 (l : List Int) (r : Int) (s : List S47) (hl : l.length ≤ 1048576) (hs : s.length ≤ 30) (ha : ∀ x ∈ l, 24 ≤ x ∧ x ≤ 96) (hn : ∀ x ∈ s, noteB x = true) : ∀ (n : Nat) (d b m : Int), d + n = 12 → 1 ≤ d →
    Ev (fun k => impl_bestBy_F.l0 k 11 b m d l r s) ((pairsI d n).foldl (bestStep (outOf l s)) (b, m)) := by
  intro n
  induction n with
  | zero =>
    intro d b m h h1
    have hn : ¬ d ≤ 11 := by omega
    refine Ev.fuel ?_
    simp only [impl_bestBy_F.l0, hn, ↓reduceIte, pairsI, List.foldl_nil]
    exact Ev.now _
  | succ n ih =>
    intro d b m h h1
    have hd : d ≤ 11 := by omega
    refine Ev.fuel ?_
    simp only [impl_bestBy_F.l0, hd, ↓reduceIte, w_id (x := -d) (by omega) (by omega)]
    refine bestBy_l1 l r s hl hs ha hn d [-d, d] (by simp) (by intro x hx; simp at hx; omega) _ [-d, d] [] b m rfl ?_
    rw [w_id (x := d + 1) (by omega) (by omega)]
    simp only [pairsI, List.foldl_cons, List.foldl_nil]
    exact ih (d + 1) _ _ (by omega) (by omega)
theorem bestFoldLaw_ev (l : List Int) (r : Int) (s : List S47) (hl : l.length ≤ 1048576) (hs : s.length ≤ 1048576) : ∃ r0 r1 r2, Ev (fun k => spec_BestFold.f k l r s) (r0, r1, r2) ∧ Ev (fun k => impl_BestFold.f k l r s) (r0, r1, r2) := by
  unfold spec_BestFold.f impl_BestFold.f
  have ea := inAsked_ev l r s hl hs
  have e1 := IsInstrument_ev l r hl
  have e2 := IsScore_ev s hs
  by_cases h1 : goodIns l r = true
  · by_cases h2 : goodScore s = true
    · simp only [h1, h2, Bool.and_self] at ea e1 e2
      have hn := goodScore_all h2
      have ha := goodIns_all h1
      have h30 := goodScore_len h2
      refine ⟨((pairsI 1 11).foldl (bestStep (outOf l s)) (0, outOf l s 0)).1, ((pairsI 1 11).foldl (bestStep (outOf l s)) (0, outOf l s 0)).2, true, ?_, ?_⟩
      · refine Ev.bind ea ?_
        simp only [↓reduceIte]
        have eo : Ev (fun k => spec_trOrder.f k 11) (0 :: pairsI 1 11) := by
          unfold spec_trOrder.f
          exact trOrder_l0 11 1 [0] (by omega) (by omega) (by simp)
        refine Ev.bind eo ?_
        have hlen : (0 :: pairsI 1 11).length = 23 := by rw [List.length_cons, pairsI_len]
        have hall : ∀ x ∈ (0 :: pairsI 1 11), -11 ≤ x ∧ x ≤ 11 := by
          intro x hx
          rcases List.mem_cons.1 hx with rfl | hx
          · omega
          · exact pairsI_range 11 1 (by omega) (by omega) x hx
        refine Ev.fuel ?_
        have c1 : (0 : Int) < ((0 :: pairsI 1 11).length : Int) := by rw [hlen]; decide
        have c3 : rd (0 :: pairsI 1 11) 0 = 0 := rfl
        have c4 : wrap64 (0 + 1) = ((([0] : List Int).length : Nat) : Int) := by rw [w_id (by omega) (by omega)]; rfl
        simp only [spec_BestFold.l0, c1, c3, Int.le_refl, ↓reduceIte]
        refine Ev.bind (trFold_ev l r 0 s hl ha h30 hn (by omega)) ?_
        simp only [show (-1 : Int) < 0 from by decide, ↓reduceIte]
        rw [c4]
        exact specBest_l0 l r s hl h30 ha hn (0 :: pairsI 1 11) (by omega) hall (pairsI 1 11) [0] 0 (outOf l s 0) rfl (outOf_range l s 0).1
      · refine Ev.bind e1 ?_
        simp only [↓reduceIte]
        refine Ev.bind e2 ?_
        simp only [↓reduceIte]
        have eb : Ev (fun k => impl_bestBy_F.f k 11 l r s) ((pairsI 1 11).foldl (bestStep (outOf l s)) (0, outOf l s 0)) := by
          unfold impl_bestBy_F.f
          exact Ev.bind (closure_ev l r s 0 hl ha h30 hn (by omega)) (bestBy_l0 l r s hl h30 ha hn 11 1 0 _ (by omega) (by omega))
        exact Ev.bind eb (Ev.now _)
    · simp only [h1, Bool.eq_false_iff.mpr h2, Bool.and_false] at ea e1 e2
      refine ⟨0, 0, false, ?_, ?_⟩
      · refine Ev.bind ea ?_
        simp only [Bool.false_eq_true, ↓reduceIte]; exact Ev.now _
      · refine Ev.bind e1 ?_
        simp only [↓reduceIte]
        refine Ev.bind e2 ?_
        simp only [Bool.false_eq_true, ↓reduceIte]; exact Ev.now _
  · simp only [Bool.eq_false_iff.mpr h1, Bool.false_and] at ea e1
    refine ⟨0, 0, false, ?_, ?_⟩
    · refine Ev.bind ea ?_
      simp only [Bool.false_eq_true, ↓reduceIte]; exact Ev.now _
    · refine Ev.bind e1 ?_
      simp only [Bool.false_eq_true, ↓reduceIte]; exact Ev.now _
end Go.Proofs.YtlhhjdlaljmppaaGreat.T
end
section
/- Plain facts on rows of whole numbers: a number put into a rising row, rows sorted, and each number once. No condition. -/
set_option linter.unusedVariables false
set_option linter.unusedSimpArgs false
namespace Go.Proofs.YtlhhjdlaljmppaaGreat.T
open Go.RowKit Go.Proofs.YtlhhjdlaljmppaaGreatW.PrintWords Go.Proofs.YtlhhjdlaljmppaaGreatW.PrintLast Go.Proofs.YtlhhjdlaljmppaaGreatW.PrintMore

def putZ (n : Int) : List Int → List Int
  | [] => [n]
  | x :: xs => if x < n then x :: putZ n xs else if x = n then x :: xs else n :: x :: xs
theorem putZ_len (n : Int) (l : List Int) : (putZ n l).length ≤ l.length + 1 := by
  induction l with
  | nil => simp [putZ]
  | cons x xs ih => unfold putZ; (repeat' split) <;> simp <;> omega
theorem mem_putZ (n : Int) (l : List Int) : ∀ y, y ∈ putZ n l ↔ y = n ∨ y ∈ l := by
  induction l with
  | nil => intro y; simp [putZ]
  | cons x xs ih =>
    intro y
    unfold putZ
    split
    · rw [List.mem_cons, ih, List.mem_cons]
      constructor
      · rintro (h | h | h)
        · exact .inr (.inl h)
        · exact .inl h
        · exact .inr (.inr h)
      · rintro (h | h | h)
        · exact .inr (.inl h)
        · exact .inl h
        · exact .inr (.inr h)
    · split
      · rename_i h1 h2
        rw [List.mem_cons]
        constructor
        · exact .inr
        · rintro (h | h)
          · exact .inl (h.trans h2.symm)
          · exact h
      · rw [List.mem_cons]
theorem putZ_lt (n : Int) (l : List Int) (h : l.Pairwise (· < ·)) : (putZ n l).Pairwise (· < ·) := by
  induction l with
  | nil => simp [putZ]
  | cons x xs ih =>
    obtain ⟨h1, h2⟩ := List.pairwise_cons.1 h
    unfold putZ
    split
    · rename_i hx
      refine List.pairwise_cons.2 ⟨fun y hy => ?_, ih h2⟩
      rcases (mem_putZ n xs y).1 hy with rfl | hy
      · exact hx
      · exact h1 y hy
    · split
      · exact h
      · refine List.pairwise_cons.2 ⟨fun y hy => ?_, h⟩
        rcases List.mem_cons.1 hy with rfl | hy
        · omega
        · have := h1 y hy; omega
theorem zPut_l0 (l : List Int) (n : Int) (hl : l.length ≤ 1048576) : ∀ (suf pre : List Int), pre ++ suf = l → Ev (fun k => spec_l1Put.l0 k l n pre.length) (pre ++ putZ n suf) := by
  intro suf
  induction suf with
  | nil =>
    intro pre h
    have hn : ¬ ((pre.length : Int) < (l.length : Int)) := by rw [← h]; simp
    have e : pre = l := by rw [← h]; simp
    have h2 : (0 : Int) ≤ (pre.length : Int) := by omega
    have h3 : (pre.length : Int) ≤ (l.length : Int) := by rw [e]; exact Int.le_refl _
    have ht : l.take ((pre.length : Int)).toNat = l := by rw [e]; simp
    have hd : l.drop ((pre.length : Int)).toNat = [] := by rw [e]; simp
    refine Ev.fuel ?_
    simp only [spec_l1Put.l0, hn, ↓reduceIte, Option.bind_some, h2, h3, ht, hd, List.length_nil, List.nil_append, Nat.zero_add, show l.length < 17592186044416 from by omega, show (l ++ [n]).length + 0 < 17592186044416 from by simp; omega, List.append_nil]
    rw [e]
    exact Ev.now _
  | cons x suf ih =>
    intro pre h
    have hlen : l.length = pre.length + (suf.length + 1) := by rw [← h]; simp
    have h1 : (pre.length : Int) < (l.length : Int) := by omega
    have h2 : (0 : Int) ≤ (pre.length : Int) := by omega
    have h3 : rd l (pre.length : Int) = x := by rw [← h]; exact getD_mid _ _ _ _
    have h4 : (pre.length : Int) ≤ (l.length : Int) := by omega
    have ht : l.take ((pre.length : Int)).toNat = pre := by rw [← h]; simp
    have hd : l.drop ((pre.length : Int)).toNat = x :: suf := by rw [← h]; simp
    have e : Ev (fun k => spec_l1Put.l0 k l n ((pre.length + 1 : Nat) : Int)) (pre ++ (x :: putZ n suf)) := by simpa using ih (pre ++ [x]) (by rw [← h]; simp)
    refine Ev.fuel ?_
    simp only [spec_l1Put.l0, h1, h2, h3, h4, ht, hd, ↓reduceIte, wn pre.length (by omega), Option.bind_some, List.length_nil, List.nil_append, Nat.zero_add, show pre.length < 17592186044416 from by omega, show (pre ++ [n]).length + (x :: suf).length < 17592186044416 from by simp; omega]
    unfold putZ
    by_cases hx : x < n
    · simp only [hx, ↓reduceIte]; exact e
    · by_cases hx' : x = n
      · simp only [hx, hx', ↓reduceIte]
        rw [show l = pre ++ n :: suf by rw [← h, hx']]
        simp only [Int.lt_irrefl, ↓reduceIte]
        exact Ev.now _
      · simp only [hx, hx', ↓reduceIte]
        rw [show pre ++ n :: x :: suf = (pre ++ [n]) ++ (x :: suf) by simp]
        exact Ev.now _
theorem zPut_ev (l : List Int) (n : Int) (hl : l.length ≤ 1048576) : Ev (fun k => spec_l1Put.f k l n) (putZ n l) := by
  unfold spec_l1Put.f
  exact zPut_l0 l n hl l [] rfl
def putAll : List Int → List Int → List Int
  | acc, [] => acc
  | acc, x :: xs => putAll (putZ x acc) xs
theorem mem_putAll : ∀ (l acc : List Int) (y : Int), y ∈ putAll acc l ↔ y ∈ acc ∨ y ∈ l := by
  intro l
  induction l with
  | nil => intro acc y; simp [putAll]
  | cons x xs ih =>
    intro acc y
    unfold putAll
    rw [ih, mem_putZ, List.mem_cons]
    constructor
    · rintro ((h | h) | h)
      · exact .inr (.inl h)
      · exact .inl h
      · exact .inr (.inr h)
    · rintro (h | h | h)
      · exact .inl (.inr h)
      · exact .inl (.inl h)
      · exact .inr h
theorem putAll_lt : ∀ (l acc : List Int), acc.Pairwise (· < ·) → (putAll acc l).Pairwise (· < ·) := by
  intro l
  induction l with
  | nil => intro acc h; exact h
  | cons x xs ih => intro acc h; exact ih _ (putZ_lt x acc h)
theorem putAll_len : ∀ (l acc : List Int), (putAll acc l).length ≤ acc.length + l.length := by
  intro l
  induction l with
  | nil => intro acc; simp [putAll]
  | cons x xs ih =>
    intro acc
    have h1 := ih (putZ x acc)
    have h2 := putZ_len x acc
    unfold putAll
    simp only [List.length_cons]
    omega
theorem lt_unique : ∀ (a b : List Int), a.Pairwise (· < ·) → b.Pairwise (· < ·) → (∀ x, x ∈ a ↔ x ∈ b) → a = b := by
  intro a
  induction a with
  | nil =>
    intro b _ _ h
    cases b with
    | nil => rfl
    | cons y ys => exact absurd ((h y).2 List.mem_cons_self) (by simp)
  | cons x xs ih =>
    intro b ha hb h
    cases b with
    | nil => exact absurd ((h x).1 List.mem_cons_self) (by simp)
    | cons y ys =>
      obtain ⟨a1, a2⟩ := List.pairwise_cons.1 ha
      obtain ⟨b1, b2⟩ := List.pairwise_cons.1 hb
      have e : x = y := by
        rcases List.mem_cons.1 ((h x).1 List.mem_cons_self) with e | hx
        · exact e
        · rcases List.mem_cons.1 ((h y).2 List.mem_cons_self) with e | hy
          · exact e.symm
          · have := b1 x hx; have := a1 y hy; omega
      subst e
      rw [ih ys a2 b2 fun z => ?_]
      constructor
      · intro hz
        rcases List.mem_cons.1 ((h z).1 (List.mem_cons_of_mem _ hz)) with e | h'
        · have := a1 z hz; omega
        · exact h'
      · intro hz
        rcases List.mem_cons.1 ((h z).2 (List.mem_cons_of_mem _ hz)) with e | h'
        · have := b1 z hz; omega
        · exact h'
/-- A row in which no number stands twice: sorted, it is what the reference puts together. -/
theorem sortF_put (l : List Int) (hn : l.Pairwise (· ≠ ·)) : SI.sortF l = putAll [] l := by
  refine lt_unique _ _ ?_ (putAll_lt l [] List.Pairwise.nil) fun x => ?_
  · have h1 := SI.sortF_asc l
    have h2 : (SI.sortF l).Pairwise (· ≠ ·) := (SI.sortF_perm l).symm.pairwise hn (fun h => Ne.symm h)
    exact (h1.and h2).imp fun h => by omega
  · rw [mem_putAll, (SI.sortF_perm l).mem_iff]
    simp
theorem compact_lt (l : List Int) (h : l.Pairwise (· ≤ ·)) : (Lib.compact l).Pairwise (· < ·) := by
  unfold Lib.compact Lib.compactUpTo
  rw [List.pairwise_map]
  have hr : (List.range l.length).Pairwise (· < ·) := List.pairwise_lt_range
  have hf := hr.filter (Lib.keeps l.toArray)
  refine List.Pairwise.imp_of_mem (R := (· < ·)) ?_ hf
  intro i j hi hj hij
  have hjl : j < l.length := by simpa using (List.mem_filter.1 hj).1
  have hk := (List.mem_filter.1 hj).2
  unfold Lib.keeps at hk
  rw [decide_eq_true_eq] at hk
  have hall := List.pairwise_iff_getElem.1 h
  have e1 : l.toArray[j]! = l[j] := by rw [getElem!_pos _ _ (by simpa using hjl)]; simp
  have e2 : l.toArray[j - 1]! = l[j - 1] := by rw [getElem!_pos _ _ (by simp; omega)]; simp
  have e3 : l.toArray[i]! = l[i] := by rw [getElem!_pos _ _ (by simp; omega)]; simp
  rw [e1, e2] at hk
  rw [e1, e3]
  have h1 : l[j - 1] ≤ l[j] := hall (j - 1) j (by omega) hjl (by omega)
  have h2 : l[i] ≤ l[j - 1] := by
    by_cases e : i = j - 1
    · subst e; exact Int.le_refl _
    · exact hall i (j - 1) (by omega) (by omega) (by omega)
  rcases hk with hk | hk
  · omega
  · omega
theorem mem_compact (l : List Int) (x : Int) : x ∈ Lib.compact l ↔ x ∈ l := by
  unfold Lib.compact Lib.compactUpTo
  rw [List.mem_map]
  constructor
  · rintro ⟨i, hi, rfl⟩
    have hil : i < l.length := by simpa using (List.mem_filter.1 hi).1
    rw [getElem!_pos _ _ (by simpa using hil)]
    simp
  · intro hx
    obtain ⟨i, hi, he⟩ := List.getElem_of_mem hx
    have key : ∀ (n i : Nat), i ≤ n → ∀ (hi : i < l.length), l[i] = x → ∃ j, j ∈ (List.range l.length).filter (Lib.keeps l.toArray) ∧ l.toArray[j]! = x := by
      intro n
      induction n with
      | zero =>
        intro i hin hi he
        obtain rfl : i = 0 := by omega
        refine ⟨0, List.mem_filter.2 ⟨by simpa using hi, by simp [Lib.keeps]⟩, ?_⟩
        rw [getElem!_pos _ _ (by simpa using hi)]; simpa using he
      | succ n ih =>
        intro i hin hi he
        by_cases h0 : i = 0
        · exact ih i (by omega) hi he
        · by_cases hp : l[i - 1]'(by omega) = x
          · exact ih (i - 1) (by omega) (by omega) hp
          · refine ⟨i, List.mem_filter.2 ⟨by simpa using hi, ?_⟩, ?_⟩
            · unfold Lib.keeps
              rw [decide_eq_true_eq]
              right
              rw [getElem!_pos _ _ (by simpa using hi), getElem!_pos _ _ (by simp; omega)]
              simp only [List.getElem_toArray]
              rw [he]
              exact fun e => hp e.symm
            · rw [getElem!_pos _ _ (by simpa using hi)]; simpa using he
    exact key i i (Nat.le_refl _) hi he
/-- The program's set of numbers is what the reference puts together. -/
theorem set_put (l : List Int) : Lib.compact (SI.sortF l) = putAll [] l := by
  refine lt_unique _ _ (compact_lt _ (SI.sortF_asc l)) (putAll_lt l [] List.Pairwise.nil) fun x => ?_
  rw [mem_compact, mem_putAll, (SI.sortF_perm l).mem_iff]
  simp
theorem sortedSet_eq (l : List Int) (hl : l.length ≤ 1048576) : impl_sortedSet.f l = some (putAll [] l) := by
  unfold impl_sortedSet.f SI.setF
  rw [if_pos hl, set_put]
end Go.Proofs.YtlhhjdlaljmppaaGreat.T
end
section
/- Plain facts on instruments: the classes that can be played. No condition. -/
set_option linter.unusedVariables false
set_option linter.unusedSimpArgs false
namespace Go.Proofs.YtlhhjdlaljmppaaGreat.T
open Go.RowKit Go.Proofs.YtlhhjdlaljmppaaGreatW.PrintWords Go.Proofs.YtlhhjdlaljmppaaGreatW.PrintLast Go.Proofs.YtlhhjdlaljmppaaGreatW.PrintMore

def classOf (l : List Int) : List Int := l.map fun x => Int.tmod x 12
theorem putAll_ap (a b acc : List Int) : putAll acc (a ++ b) = putAll (putAll acc a) b := by
  induction a generalizing acc with
  | nil => rfl
  | cons x xs ih => exact ih _
theorem class_l0 (l : List Int) (hl : l.length ≤ 1048576) : ∀ (suf pre : List Int), pre ++ suf = l →
    Ev (fun k => spec_PlayableClasses.l0 k (putAll [] (classOf pre)) l l.length pre.length) (putAll [] (classOf l), true) ∧ Ev (fun k => impl_PlayableClasses.l0 k (classOf pre) l l.length pre.length) (putAll [] (classOf l), true) := by
  intro suf
  induction suf with
  | nil =>
    intro pre h
    have hn : ¬ ((pre.length : Int) < (l.length : Int)) := by rw [← h]; simp
    have e : pre = l := by rw [← h]; simp
    refine ⟨Ev.fuel ?_, Ev.fuel ?_⟩
    · simp only [spec_PlayableClasses.l0, hn, ↓reduceIte]; rw [e]; exact Ev.now _
    · simp only [impl_PlayableClasses.l0, hn, ↓reduceIte]
      rw [e]
      simp only [sortedSet_eq (classOf l) (by unfold classOf; simpa using hl), Option.bind_some]
      exact Ev.now _
  | cons x suf ih =>
    intro pre h
    have hlen : l.length = pre.length + (suf.length + 1) := by rw [← h]; simp
    have h1 : (pre.length : Int) < (l.length : Int) := by omega
    have h2 : (0 : Int) ≤ (pre.length : Int) := by omega
    have h3 : rd l (pre.length : Int) = x := by rw [← h]; exact getD_mid _ _ _ _
    have ec : ((pre ++ [x]).length : Int) = ((pre.length + 1 : Nat) : Int) := by simp
    have ht : (classOf pre).length = pre.length := by simp [classOf]
    have hz2 := putAll_len (classOf pre) []
    simp only [List.length_nil, Nat.zero_add] at hz2
    obtain ⟨e1, e2⟩ := ih (pre ++ [x]) (by rw [← h]; simp)
    have es : classOf (pre ++ [x]) = classOf pre ++ [Int.tmod x 12] := by simp [classOf]
    rw [ec, es] at e1 e2
    rw [putAll_ap] at e1
    refine ⟨Ev.fuel ?_, Ev.fuel ?_⟩
    · simp only [spec_PlayableClasses.l0, h1, h2, h3, ↓reduceIte, wn pre.length (by omega)]
      exact Ev.bind (zPut_ev _ _ (by omega)) e1
    · simp only [impl_PlayableClasses.l0, h1, h2, h3, ↓reduceIte, wn pre.length (by omega), show (classOf pre).length < 17592186044416 from by omega]
      exact e2
theorem classesLaw_ev (l : List Int) (r : Int) (hl : l.length ≤ 1048576) : ∃ r0 r1, r0.length ≤ 1048576 ∧ Ev (fun k => spec_PlayableClasses.f k l r) (r0, r1) ∧ Ev (fun k => impl_PlayableClasses.f k l r) (r0, r1) := by
  unfold spec_PlayableClasses.f impl_PlayableClasses.f
  by_cases hg : goodIns l r = true
  · obtain ⟨c1, c2⟩ := class_l0 l hl l [] rfl
    have ht : (classOf l).length = l.length := by simp [classOf]
    have hz2 := putAll_len (classOf l) []
    simp only [List.length_nil, Nat.zero_add] at hz2
    refine ⟨putAll [] (classOf l), true, by omega, ?_, ?_⟩
    · refine Ev.bind (inGood_ev l r hl) ?_
      simp only [hg, ↓reduceIte]
      exact c1
    · refine Ev.bind (IsInstrument_ev l r hl) ?_
      simp only [hg, ↓reduceIte]
      exact c2
  · refine ⟨[], false, by simp, ?_, ?_⟩
    · refine Ev.bind (inGood_ev l r hl) ?_
      simp only [hg, Bool.false_eq_true, ↓reduceIte]
      exact Ev.now _
    · refine Ev.bind (IsInstrument_ev l r hl) ?_
      simp only [hg, Bool.false_eq_true, ↓reduceIte]
      exact Ev.now _
end Go.Proofs.YtlhhjdlaljmppaaGreat.T
end
section
/- Plain facts on drawn numbers. No condition. -/
set_option linter.unusedVariables false
set_option linter.unusedSimpArgs false
namespace Go.Proofs.YtlhhjdlaljmppaaGreat.T
open Go.RowKit Go.Proofs.YtlhhjdlaljmppaaGreatW.PrintWords Go.Proofs.YtlhhjdlaljmppaaGreatW.PrintLast Go.Proofs.YtlhhjdlaljmppaaGreatW.PrintMore

theorem bits255 (x : Int) : 0 ≤ bits .and .u64 x 255 ∧ bits .and .u64 x 255 ≤ 255 := by
  unfold bits
  have h2 : (BitVec.ofInt (IntKind.bits .u64) x &&& BitVec.ofInt (IntKind.bits .u64) 255).toNat ≤ 255 := by
    rw [BitVec.toNat_and]
    refine Nat.le_trans Nat.and_le_right ?_
    rw [BitVec.toNat_ofInt]
    decide
  simp only
  generalize (BitVec.ofInt (IntKind.bits .u64) x &&& BitVec.ofInt (IntKind.bits .u64) 255).toNat = n at h2 ⊢
  have h3 : IntKind.u64.wrap (n : Int) = (n : Int) := by
    simp [IntKind.wrap, IntKind.bits, IntKind.signed]
    omega
  show 0 ≤ IntKind.u64.wrap (n : Int) ∧ IntKind.u64.wrap (n : Int) ≤ 255
  rw [h3]
  omega
def Bytes (c : List Int) : Prop := c.length ≤ 1048576 ∧ ∀ x ∈ c, 0 ≤ x ∧ x ≤ 255
theorem next_at {c : List Int} (hc : Bytes c) (a s : Int) (h0 : 0 ≤ a) (h1 : a ≤ 1000000000000) : ∃ r s', spec_l1Cur_next.f c a s = some (r, a + 1, s') ∧ 0 ≤ r ∧ r ≤ 255 := by
  have hw : wrap64 (a + 1) = a + 1 := w_id (by omega) (by omega)
  have hb : ∀ x : Int, wrap64 (bits .and .u64 x 255) = bits .and .u64 x 255 := fun x => by have := bits255 x; exact w_id (by omega) (by omega)
  unfold spec_l1Cur_next.f
  simp only [hw, hb]
  by_cases g : a < (c.length : Int)
  · simp only [g, h0, ↓reduceIte, show a + 1 ≤ (c.length : Int) from by omega]
    have hr : 0 ≤ rd c a ∧ rd c a ≤ 255 := by
      unfold rd
      rw [List.getD_eq_getElem?_getD, List.getElem?_eq_getElem (by omega)]
      exact hc.2 _ (List.getElem_mem _)
    rw [w_id (x := rd c a) (by omega) (by omega)]
    exact ⟨_, _, rfl, hr⟩
  · simp only [g, ↓reduceIte, show ¬ (a + 1 ≤ (c.length : Int)) from by omega]
    exact ⟨_, _, rfl, bits255 _⟩
theorem pick_at {c : List Int} (hc : Bytes c) (a s n : Int) (h0 : 0 ≤ a) (h1 : a ≤ 100000000000) (hn : n ≤ 100000) : ∃ r a' s', spec_l1Cur_pick.f c a s n = some (r, a', s') ∧ a ≤ a' ∧ a' ≤ a + 2 ∧ 0 ≤ r ∧ (1 ≤ n → r < n) := by
  unfold spec_l1Cur_pick.f
  by_cases g : n ≤ 1
  · simp only [g, ↓reduceIte]
    exact ⟨0, a, s, rfl, by omega, by omega, by omega, by omega⟩
  · obtain ⟨x, s1, e1, x0, x1⟩ := next_at hc a s h0 (by omega)
    simp only [g, ↓reduceIte, e1, Option.bind_some]
    by_cases g2 : n > 200
    · obtain ⟨y, s2, e2, y0, y1⟩ := next_at hc (a + 1) s1 (by omega) (by omega)
      simp only [g2, ↓reduceIte, e2, Option.bind_some, show ¬ n = 0 from by omega]
      rw [w_id (x := x * 256) (by omega) (by omega), w_id (x := x * 256 + y) (by omega) (by omega)]
      exact ⟨_, _, _, rfl, by omega, by omega, Int.tmod_nonneg _ (by omega), fun _ => Int.tmod_lt_of_pos _ (by omega)⟩
    · simp only [g2, ↓reduceIte, show ¬ n = 0 from by omega]
      exact ⟨_, _, _, rfl, by omega, by omega, Int.tmod_nonneg _ (by omega), fun _ => Int.tmod_lt_of_pos _ (by omega)⟩
theorem one_at {c : List Int} (hc : Bytes c) (a s n : Int) (h0 : 0 ≤ a) (h1 : a ≤ 100000000000) (hn : n ≤ 100000) : ∃ b a' s', spec_l1Cur_one.f c a s n = some (b, a', s') ∧ a ≤ a' ∧ a' ≤ a + 2 := by
  obtain ⟨r, a', s', e, h2, h3, _⟩ := pick_at hc a s n h0 h1 hn
  unfold spec_l1Cur_one.f
  simp only [e, Option.bind_some]
  exact ⟨_, _, _, rfl, h2, h3⟩
theorem among_at {c : List Int} (hc : Bytes c) (a s : Int) (l : List Int) (h0 : 0 ≤ a) (h1 : a ≤ 100000000000) (hl : 1 ≤ l.length) (hl2 : l.length ≤ 1000) : ∃ r a' s', spec_l1Cur_among.f c a s l = some (r, a', s') ∧ a ≤ a' ∧ a' ≤ a + 2 ∧ r ∈ l := by
  obtain ⟨r, a', s', e, h2, h3, h4, h5⟩ := pick_at hc a s l.length h0 h1 (by omega)
  have h5 := h5 (by omega)
  unfold spec_l1Cur_among.f
  simp only [e, Option.bind_some, h4, h5, ↓reduceIte]
  refine ⟨_, _, _, rfl, h2, h3, ?_⟩
  unfold rd
  rw [List.getD_eq_getElem?_getD, List.getElem?_eq_getElem (by omega)]
  exact List.getElem_mem _
end Go.Proofs.YtlhhjdlaljmppaaGreat.T
end
section
/- Plain facts on drawn instruments and scores. No condition. -/
set_option linter.unusedVariables false
set_option linter.unusedSimpArgs false
namespace Go.Proofs.YtlhhjdlaljmppaaGreat.T
open Go.RowKit Go.Proofs.YtlhhjdlaljmppaaGreatW.PrintWords Go.Proofs.YtlhhjdlaljmppaaGreatW.PrintLast Go.Proofs.YtlhhjdlaljmppaaGreatW.PrintMore

theorem Ev.uniq {α : Type} {g : Nat → Option α} {a b : α} (h : Ev g a) (k : Ev g b) : a = b := by
  obtain ⟨K, h⟩ := h
  obtain ⟨J, k⟩ := k
  have h1 := h (max K J) (by omega)
  have h2 := k (max K J) (by omega)
  rw [h1] at h2
  injection h2
/-! ### Instruments -/
theorem Ev.ifT {α : Type} {C : Prop} [Decidable C] {a : α} (h : C) : Ev (fun _ => if C then some a else none) a := by simp only [h, ↓reduceIte]; exact Ev.now _
theorem l1Put_l0 (l : List Int) (v : Int) (hl : l.length ≤ 1000) : ∀ (m i : Nat), i + m = l.length → ∃ r : List Int, Ev (fun k => spec_l1Put.l0 k l v i) r ∧ 1 ≤ r.length ∧ r.length ≤ l.length + 1 := by
  have fin : ∀ i : Nat, i ≤ l.length → (l.take i ++ [v] ++ l.drop i).length = l.length + 1 := by
    intro i hi
    simp
    omega
  intro m
  induction m with
  | zero =>
    intro i h
    have hi : i = l.length := by omega
    subst hi
    refine ⟨l.take l.length ++ [v] ++ l.drop l.length, Ev.fuel ?_, by rw [fin _ (Nat.le_refl _)]; omega, by rw [fin _ (Nat.le_refl _)]; omega⟩
    simp only [spec_l1Put.l0, Int.lt_irrefl, ↓reduceIte, Option.bind_some, show (0 : Int) ≤ (l.length : Int) from by omega, Int.le_refl, Int.toNat_natCast, List.length_nil, List.nil_append, List.length_append, List.length_cons, List.length_take, List.length_drop,
      show (0 + min l.length l.length < 17592186044416) = True from eq_true (by omega), show (min l.length l.length < 17592186044416) = True from eq_true (by omega), show (min l.length l.length + (0 + 1) + (l.length - l.length) < 17592186044416) = True from eq_true (by omega)]
    exact Ev.ifT (by omega)
  | succ m ih =>
    intro i h
    have c1 : (i : Int) < (l.length : Int) := by omega
    have c2 : (0 : Int) ≤ (i : Int) := by omega
    by_cases g : rd l (i : Int) < v
    · obtain ⟨r, hr, q⟩ := ih (i + 1) (by omega)
      refine ⟨r, Ev.fuel ?_, q⟩
      simp only [spec_l1Put.l0, c1, c2, g, ↓reduceIte, wn i (by omega)]
      exact hr
    · by_cases g2 : rd l (i : Int) = v
      · refine ⟨l, Ev.fuel ?_, by omega, by omega⟩
        simp only [spec_l1Put.l0, c1, c2, g, g2, Int.lt_irrefl, ↓reduceIte]
        exact Ev.now _
      · refine ⟨l.take i ++ [v] ++ l.drop i, Ev.fuel ?_, by rw [fin _ (by omega)]; omega, by rw [fin _ (by omega)]; omega⟩
        simp only [spec_l1Put.l0, c1, c2, g, g2, ↓reduceIte, Option.bind_some, show (i : Int) ≤ (l.length : Int) from by omega, Int.toNat_natCast, List.length_nil, List.nil_append, List.length_append, List.length_cons, List.length_take, List.length_drop,
          show (0 + min i l.length < 17592186044416) = True from eq_true (by omega), show (min i l.length < 17592186044416) = True from eq_true (by omega), show (min i l.length + (0 + 1) + (l.length - i) < 17592186044416) = True from eq_true (by omega)]
        exact Ev.ifT (by omega)
theorem l1Put_ev (l : List Int) (v : Int) (hl : l.length ≤ 1000) : ∃ r : List Int, Ev (fun k => spec_l1Put.f k l v) r ∧ 1 ≤ r.length ∧ r.length ≤ l.length + 1 := l1Put_l0 l v hl l.length 0 (by omega)
theorem ins_l1 (c : List Int) (a s rep : Int) : ∀ (m : Nat) (l : List Int), 20 ≤ l.length + m → l.length ≤ 20 → ∃ r : List Int, Ev (fun k => spec_l1Cur_instrument.l1 k c a s l rep) (r, rep, a, s) ∧ 1 ≤ r.length ∧ r.length ≤ 20 := by
  intro m
  induction m with
  | zero =>
    intro l h h2
    refine ⟨l, Ev.fuel ?_, by omega, h2⟩
    simp only [spec_l1Cur_instrument.l1, show ¬ ((l.length : Int) < 20) from by omega, ↓reduceIte]
    exact Ev.now _
  | succ m ih =>
    intro l h h2
    by_cases g : (l.length : Int) < 20
    · obtain ⟨r, hr, q⟩ := ih (l ++ [wrap64 (48 + (l.length : Int))]) (by simp; omega) (by simp; omega)
      refine ⟨r, Ev.fuel ?_, q⟩
      simp only [spec_l1Cur_instrument.l1, g, ↓reduceIte, show l.length < 17592186044416 from by omega]
      exact hr
    · refine ⟨l, Ev.fuel ?_, by omega, h2⟩
      simp only [spec_l1Cur_instrument.l1, g, ↓reduceIte]
      exact Ev.now _
def InsOk (r : List Int) (a' lo hi : Int) : Prop := lo ≤ a' ∧ a' ≤ hi ∧ 1 ≤ r.length ∧ r.length ≤ 60
theorem ins_j3 {c : List Int} (hc : Bytes c) (a s rep : Int) (l : List Int) (h0 : 0 ≤ a) (h1 : a ≤ 1000000) (hl : 1 ≤ l.length ∧ l.length ≤ 60) : ∃ r a' s', Ev (fun k => spec_l1Cur_instrument.j3 k c a s l rep) (r, rep, a', s') ∧ InsOk r a' a (a + 2) := by
  obtain ⟨b, a1, s1, e1, b1, c1⟩ := one_at hc a s 20 h0 (by omega) (by omega)
  cases b with
  | true =>
    obtain ⟨r, hr, q1, q2⟩ := ins_l1 c a1 s1 rep 20 [] (by simp) (by simp)
    refine ⟨r, a1, s1, Ev.fuel ?_, by omega, by omega, q1, by omega⟩
    simp only [spec_l1Cur_instrument.j3, e1, Option.bind_some, ↓reduceIte]
    exact hr
  | false =>
    refine ⟨l, a1, s1, Ev.fuel ?_, by omega, by omega, hl.1, hl.2⟩
    simp only [spec_l1Cur_instrument.j3, e1, Option.bind_some, Bool.false_eq_true, ↓reduceIte]
    exact Ev.now _
theorem ins_j2 {c : List Int} (hc : Bytes c) (a s rep : Int) (l : List Int) (h0 : 0 ≤ a) (h1 : a ≤ 100000) (hl : 1 ≤ l.length ∧ l.length ≤ 60) : ∃ r a' s', Ev (fun k => spec_l1Cur_instrument.j2 k c a s l rep) (r, rep, a', s') ∧ InsOk r a' a (a + 4) := by
  obtain ⟨b, a1, s1, e1, b1, c1⟩ := one_at hc a s 12 h0 (by omega) (by omega)
  cases b with
  | true =>
    obtain ⟨r, a2, s2, hr, q1, q2, q3, q4⟩ := ins_j3 hc a1 s1 rep [60] (by omega) (by omega) (by simp)
    refine ⟨r, a2, s2, Ev.fuel ?_, by omega, by omega, q3, q4⟩
    simp only [spec_l1Cur_instrument.j2, e1, Option.bind_some, ↓reduceIte]
    exact hr
  | false =>
    obtain ⟨r, a2, s2, hr, q1, q2, q3, q4⟩ := ins_j3 hc a1 s1 rep l (by omega) (by omega) hl
    refine ⟨r, a2, s2, Ev.fuel ?_, by omega, by omega, q3, q4⟩
    simp only [spec_l1Cur_instrument.j2, e1, Option.bind_some, Bool.false_eq_true, ↓reduceIte]
    exact hr
theorem ins_j1 {c : List Int} (hc : Bytes c) (b : Bool) (a s rep : Int) (l : List Int) (h0 : 0 ≤ a) (h1 : a ≤ 10000) (hl : l.length ≤ 50) (hb : b = false → 1 ≤ l.length) : ∃ r a' s', Ev (fun k => spec_l1Cur_instrument.j1 k b c a s l rep) (r, rep, a', s') ∧ InsOk r a' a (a + 8) := by
  cases b with
  | true =>
    obtain ⟨v, a1, s1, e1, b1, c1, _⟩ := pick_at hc a s 73 h0 (by omega) (by omega)
    obtain ⟨v2, a2, s2, e2, b2, c2, _⟩ := among_at hc a1 s1 [24, 96, wrap64 (24 + v)] (by omega) (by omega) (by simp) (by simp)
    obtain ⟨p, hp, p1, p2⟩ := l1Put_ev l v2 (by omega)
    obtain ⟨r, a3, s3, hr, q1, q2, q3, q4⟩ := ins_j2 hc a2 s2 rep p (by omega) (by omega) ⟨p1, by omega⟩
    refine ⟨r, a3, s3, Ev.fuel ?_, by omega, by omega, q3, q4⟩
    simp only [spec_l1Cur_instrument.j1, e1, e2, Option.bind_some, ↓reduceIte]
    exact Ev.bind hp hr
  | false =>
    obtain ⟨r, a3, s3, hr, q1, q2, q3, q4⟩ := ins_j2 hc a s rep l (by omega) (by omega) ⟨hb rfl, by omega⟩
    refine ⟨r, a3, s3, Ev.fuel ?_, by omega, by omega, q3, q4⟩
    simp only [spec_l1Cur_instrument.j1, Bool.false_eq_true, ↓reduceIte]
    exact hr
theorem ins_l0 {c : List Int} (hc : Bytes c) (y : List Int) (hy : y.length = 15) (rep : Int) : ∀ (m i : Nat) (a s : Int) (l : List Int), i + m = 15 → 0 ≤ a → a ≤ 100 + 2 * i → l.length ≤ i → ∃ r a' s', Ev (fun k => spec_l1Cur_instrument.l0 k y (y.length : Int) i c a s l rep) (r, rep, a', s') ∧ InsOk r a' 0 300 := by
  intro m
  induction m with
  | zero =>
    intro i a s l h h0 h1 h2
    obtain ⟨b, a1, s1, e1, b1, c1⟩ := one_at hc a s 4 h0 (by omega) (by omega)
    cases b with
    | true =>
      obtain ⟨r, a2, s2, hr, q1, q2, q3, q4⟩ := ins_j1 hc true a1 s1 rep l (by omega) (by omega) (by omega) (by simp)
      refine ⟨r, a2, s2, Ev.fuel ?_, by omega, by omega, q3, q4⟩
      simp only [spec_l1Cur_instrument.l0, show ¬ ((i : Int) < (y.length : Int)) from by omega, e1, Option.bind_some, ↓reduceIte]
      exact hr
    | false =>
      obtain ⟨r, a2, s2, hr, q1, q2, q3, q4⟩ := ins_j1 hc ((l.length : Int) == 0) a1 s1 rep l (by omega) (by omega) (by omega) (by simp; intro h3; cases l with | nil => simp at h3 | cons x xs => simp)
      refine ⟨r, a2, s2, Ev.fuel ?_, by omega, by omega, q3, q4⟩
      simp only [spec_l1Cur_instrument.l0, show ¬ ((i : Int) < (y.length : Int)) from by omega, e1, Option.bind_some, Bool.false_eq_true, ↓reduceIte]
      exact hr
  | succ m ih =>
    intro i a s l h h0 h1 h2
    obtain ⟨b, a1, s1, e1, b1, c1⟩ := one_at hc a s 4 h0 (by omega) (by omega)
    cases b with
    | true =>
      obtain ⟨r, a2, s2, hr, q⟩ := ih (i + 1) a1 s1 l (by omega) (by omega) (by omega) (by omega)
      refine ⟨r, a2, s2, Ev.fuel ?_, q⟩
      simp only [spec_l1Cur_instrument.l0, show (i : Int) < (y.length : Int) from by omega, show (0 : Int) ≤ (i : Int) from by omega, e1, Option.bind_some, ↓reduceIte, wn i (by omega)]
      exact hr
    | false =>
      obtain ⟨r, a2, s2, hr, q⟩ := ih (i + 1) a1 s1 (l ++ [rd y i]) (by omega) (by omega) (by omega) (by simp; omega)
      refine ⟨r, a2, s2, Ev.fuel ?_, q⟩
      simp only [spec_l1Cur_instrument.l0, show (i : Int) < (y.length : Int) from by omega, show (0 : Int) ≤ (i : Int) from by omega, e1, Option.bind_some, Bool.false_eq_true, ↓reduceIte, wn i (by omega), show l.length < 17592186044416 from by omega]
      exact hr
theorem instrument_ev {c : List Int} (hc : Bytes c) : ∃ r rep a' s', Ev (fun k => spec_l1Cur_instrument.f k c 0 0) (r, rep, a', s') ∧ InsOk r a' 0 300 := by
  obtain ⟨v, a1, s1, e1, b1, c1, _⟩ := among_at hc 0 0 [1, 1, 2, 3, 4, 8, 20] (by omega) (by omega) (by simp) (by simp)
  obtain ⟨r, a2, s2, hr, q⟩ := ins_l0 hc [48, 50, 52, 53, 55, 57, 59, 60, 62, 64, 65, 67, 69, 71, 72] rfl v 15 0 a1 s1 [] (by omega) (by omega) (by omega) (by simp)
  refine ⟨r, v, a2, s2, ?_, q⟩
  unfold spec_l1Cur_instrument.f
  simp only [e1, Option.bind_some]
  exact hr
theorem anyIns_l0 (c : List Int) (a s rep : Int) : ∀ (m : Nat) (l : List Int), 21 ≤ l.length + m → l.length ≤ 21 → ∃ r : List Int, Ev (fun k => spec_l1Cur_anyInstrument.l0 k c a s l rep) (r, rep, a, s) ∧ r.length ≤ 60 := by
  intro m
  induction m with
  | zero =>
    intro l h h2
    refine ⟨l, Ev.fuel ?_, by omega⟩
    simp only [spec_l1Cur_anyInstrument.l0, show ¬ ((l.length : Int) < 21) from by omega, ↓reduceIte]
    exact Ev.now _
  | succ m ih =>
    intro l h h2
    by_cases g : (l.length : Int) < 21
    · obtain ⟨r, hr, q⟩ := ih (l ++ [wrap64 (48 + (l.length : Int))]) (by simp; omega) (by simp; omega)
      refine ⟨r, Ev.fuel ?_, q⟩
      simp only [spec_l1Cur_anyInstrument.l0, g, ↓reduceIte, show l.length < 17592186044416 from by omega]
      exact hr
    · refine ⟨l, Ev.fuel ?_, by omega⟩
      simp only [spec_l1Cur_anyInstrument.l0, g, ↓reduceIte]
      exact Ev.now _
theorem anyInstrument_ev {c : List Int} (hc : Bytes c) : ∃ r rep a' s', Ev (fun k => spec_l1Cur_anyInstrument.f k c 0 0) (r, rep, a', s') ∧ 0 ≤ a' ∧ a' ≤ 1000 ∧ r.length ≤ 60 := by
  obtain ⟨p, rep, a, s, e0, q1, q2, q3, q4⟩ := instrument_ev hc
  obtain ⟨v, a1, s1, e1, b1, c1, _⟩ := pick_at hc a s 30 q1 (by omega) (by omega)
  by_cases g0 : v = 0
  · obtain ⟨u, a2, s2, e2, b2, c2, _⟩ := among_at hc a1 s1 [0, 21] (by omega) (by omega) (by simp) (by simp)
    refine ⟨p, u, a2, s2, ?_, by omega, by omega, q4⟩
    unfold spec_l1Cur_anyInstrument.f
    refine Ev.bind e0 ?_
    simp only [e1, e2, g0, Option.bind_some, ↓reduceIte]
    exact Ev.now _
  · by_cases g1 : v = 1
    · obtain ⟨i, a2, s2, e2, b2, c2, d2, f2⟩ := pick_at hc a1 s1 p.length (by omega) (by omega) (by omega)
      obtain ⟨u, a3, s3, e3, b3, c3, _⟩ := among_at hc a2 s2 [23, 60, 97] (by omega) (by omega) (by simp) (by simp)
      refine ⟨p.set i.toNat u, rep, a3, s3, ?_, by omega, by omega, by rw [List.length_set]; exact q4⟩
      unfold spec_l1Cur_anyInstrument.f
      refine Ev.bind e0 ?_
      simp only [e1, e2, e3, g1, Option.bind_some, ↓reduceIte, d2, f2 (by omega), show ¬ ((1 : Int) = 0) from by omega]
      exact Ev.now _
    · by_cases g2 : v = 2
      · refine ⟨[], rep, a1, s1, ?_, by omega, by omega, by simp⟩
        unfold spec_l1Cur_anyInstrument.f
        refine Ev.bind e0 ?_
        simp only [e1, g2, Option.bind_some, ↓reduceIte, show ¬ ((2 : Int) = 0) from by omega, show ¬ ((2 : Int) = 1) from by omega]
        exact Ev.now _
      · by_cases g3 : v = 3
        · obtain ⟨r, hr, q⟩ := anyIns_l0 c a1 s1 rep 21 [] (by simp) (by simp)
          refine ⟨r, rep, a1, s1, ?_, by omega, by omega, q⟩
          unfold spec_l1Cur_anyInstrument.f
          refine Ev.bind e0 ?_
          simp only [e1, g3, Option.bind_some, ↓reduceIte, show ¬ ((3 : Int) = 0) from by omega, show ¬ ((3 : Int) = 1) from by omega, show ¬ ((3 : Int) = 2) from by omega]
          exact hr
        · refine ⟨p, rep, a1, s1, ?_, by omega, by omega, q4⟩
          unfold spec_l1Cur_anyInstrument.f
          refine Ev.bind e0 ?_
          simp only [e1, g0, g1, g2, g3, Option.bind_some, ↓reduceIte]
          exact Ev.now _
/-! ### Scores -/
theorem note_at {c : List Int} (hc : Bytes c) (a s : Int) (h0 : 0 ≤ a) (h1 : a ≤ 10000000000) : ∃ x y z a' s', spec_l1Cur_note.f c a s = some (x, y, z, a', s') ∧ a ≤ a' ∧ a' ≤ a + 12 := by
  obtain ⟨r1, a1, s1, e1, b1, c1, _⟩ := pick_at hc a s 73 h0 (by omega) (by omega)
  obtain ⟨r2, a2, s2, e2, b2, c2, _⟩ := among_at hc a1 s1 [48, 50, 52, 55, 60, 60, 62, 64, 67, 72, wrap64 (24 + r1)] (by omega) (by omega) (by simp) (by simp)
  obtain ⟨r3, a3, s3, e3, b3, c3, _⟩ := pick_at hc a2 s2 40 (by omega) (by omega) (by omega)
  obtain ⟨r4, a4, s4, e4, b4, c4, _⟩ := pick_at hc a3 s3 40 (by omega) (by omega) (by omega)
  obtain ⟨r5, a5, s5, e5, b5, c5, _⟩ := among_at hc a4 s4 [0, 2, 4, 8, r3, r4, 999] (by omega) (by omega) (by simp) (by simp)
  obtain ⟨r6, a6, s6, e6, b6, c6, _⟩ := among_at hc a5 s5 [1, 2, 2, 4, 8, 99] (by omega) (by omega) (by simp) (by simp)
  unfold spec_l1Cur_note.f
  simp only [e1, e2, e3, e4, e5, e6, Option.bind_some]
  exact ⟨_, _, _, _, _, rfl, by omega, by omega⟩
theorem scoreRes_30 {l : List S47} (h : (scoreRes l).2 = true) : (scoreRes l).1.length ≤ 30 := goodScore_len (scoreRes_good l)
theorem score_l0 {c : List Int} (hc : Bytes c) (n : Int) : ∀ (m : Nat) (i a s : Int) (l : List S47), i + m = 90 → 0 ≤ i → 0 ≤ a → a ≤ 2000 + 20 * i → l.length ≤ 30 → ∃ r a' s', Ev (fun k => spec_l1Cur_score.l0 k l n i c a s) (r, a', s') ∧ 0 ≤ a' ∧ a' ≤ 10000 ∧ r.length ≤ 30 := by
  intro m
  induction m with
  | zero =>
    intro i a s l h hi h0 h1 hl
    refine ⟨l, a, s, Ev.fuel ?_, h0, by omega, hl⟩
    have e : ∀ b : Bool, b = false → Ev (fun k => spec_l1Cur_score.j2 k l n i b c a s) (l, a, s) := by
      intro b hb
      subst hb
      refine Ev.fuel ?_
      simp only [spec_l1Cur_score.j2, Bool.false_eq_true, ↓reduceIte]
      exact Ev.now _
    simp only [spec_l1Cur_score.l0]
    split
    · exact e _ (by simp; omega)
    · exact e _ rfl
  | succ m ih =>
    intro i a s l h hi h0 h1 hl
    by_cases g : (l.length : Int) < n
    · have key : ∀ x y z a1 s1 : Int, 0 ≤ a1 → a1 ≤ 2000 + 20 * (i + 1) → ∃ r a' s', Ev (fun k => (spec_ntSorted.f k (l ++ [(⟨x, y, z⟩ : S47)])).bind fun bt => (if bt.2 = true then (spec_l1Cur_score.l0 k bt.1 n (wrap64 (i + 1)) c a1 s1) else (spec_l1Cur_score.l0 k l n (wrap64 (i + 1)) c a1 s1))) (r, a', s') ∧ 0 ≤ a' ∧ a' ≤ 10000 ∧ r.length ≤ 30 := by
        intro x y z a1 s1 h2 h3
        have hs := ntSorted_ev (l ++ [(⟨x, y, z⟩ : S47)]) (by simp; omega)
        rw [w_id (x := i + 1) (by omega) (by omega)]
        cases hb : (scoreRes (l ++ [(⟨x, y, z⟩ : S47)])).2 with
        | true =>
          obtain ⟨r, a', s', e, q⟩ := ih (i + 1) a1 s1 (scoreRes (l ++ [(⟨x, y, z⟩ : S47)])).1 (by omega) (by omega) h2 h3 (scoreRes_30 hb)
          refine ⟨r, a', s', Ev.bind hs ?_, q⟩
          simp only [hb, ↓reduceIte]
          exact e
        | false =>
          obtain ⟨r, a', s', e, q⟩ := ih (i + 1) a1 s1 l (by omega) (by omega) h2 h3 hl
          refine ⟨r, a', s', Ev.bind hs ?_, q⟩
          simp only [hb, Bool.false_eq_true, ↓reduceIte]
          exact e
      obtain ⟨x, y, z, a1, s1, e1, b1, c1⟩ := note_at hc a s h0 (by omega)
      by_cases g2 : n = 30
      · obtain ⟨v, a2, s2, e2, b2, c2, _⟩ := pick_at hc a1 s1 9 (by omega) (by omega) (by omega)
        obtain ⟨r, a', s', e, q⟩ := key (wrap64 (48 + wrap64 (2 * Int.tmod (l.length : Int) 10))) (wrap64 (3 * (l.length : Int))) (wrap64 (1 + v)) a2 s2 (by omega) (by omega)
        refine ⟨r, a', s', Ev.fuel ?_, q⟩
        simp only [spec_l1Cur_score.l0, g, show i < 90 from by omega, decide_true, ↓reduceIte]
        refine Ev.fuel ?_
        simp only [spec_l1Cur_score.j2, ↓reduceIte, e1, e2, Option.bind_some, if_pos g2, List.length_nil, List.nil_append, Nat.zero_add, List.length_cons, show (l.length < 5864062014805) = True from eq_true (by omega), show (l.length + 1 < 5864062014805) = True from eq_true (by omega)]
        exact e
      · obtain ⟨r, a', s', e, q⟩ := key x y z a1 s1 (by omega) (by omega)
        refine ⟨r, a', s', Ev.fuel ?_, q⟩
        simp only [spec_l1Cur_score.l0, g, show i < 90 from by omega, decide_true, ↓reduceIte]
        refine Ev.fuel ?_
        simp only [spec_l1Cur_score.j2, ↓reduceIte, e1, Option.bind_some, if_neg g2, List.length_nil, List.nil_append, Nat.zero_add, List.length_cons, show (l.length < 5864062014805) = True from eq_true (by omega), show (l.length + 1 < 5864062014805) = True from eq_true (by omega)]
        exact e
    · refine ⟨l, a, s, Ev.fuel ?_, h0, by omega, hl⟩
      simp only [spec_l1Cur_score.l0, g, ↓reduceIte]
      refine Ev.fuel ?_
      simp only [spec_l1Cur_score.j2, Bool.false_eq_true, ↓reduceIte]
      exact Ev.now _
theorem score_ev {c : List Int} (hc : Bytes c) (a s : Int) (h0 : 0 ≤ a) (h1 : a ≤ 1500) : ∃ r a' s', Ev (fun k => spec_l1Cur_score.f k c a s) (r, a', s') ∧ 0 ≤ a' ∧ a' ≤ 10000 ∧ r.length ≤ 30 := by
  obtain ⟨v, a1, s1, e1, b1, c1, _⟩ := pick_at hc a s 9 h0 (by omega) (by omega)
  obtain ⟨b, a2, s2, e2, b2, c2⟩ := one_at hc a1 s1 20 (by omega) (by omega) (by omega)
  have key : ∀ n : Int, ∃ r a' s', Ev (fun k => spec_l1Cur_score.l0 k ([] : List S47) n 0 c a2 s2) (r, a', s') ∧ 0 ≤ a' ∧ a' ≤ 10000 ∧ r.length ≤ 30 := fun n => score_l0 hc n 90 0 a2 s2 [] (by omega) (by omega) (by omega) (by omega) (by simp)
  cases b with
  | true =>
    obtain ⟨r, a', s', e, q⟩ := key 30
    refine ⟨r, a', s', ?_, q⟩
    unfold spec_l1Cur_score.f
    simp only [e1, e2, Option.bind_some, ↓reduceIte]
    exact e
  | false =>
    obtain ⟨r, a', s', e, q⟩ := key v
    refine ⟨r, a', s', ?_, q⟩
    unfold spec_l1Cur_score.f
    simp only [e1, e2, Option.bind_some, Bool.false_eq_true, ↓reduceIte]
    exact e
theorem anyScore_l0 (a s : Int) : ∀ (m : Nat) (l : List S47), 31 ≤ l.length + m → l.length ≤ 31 → ∃ r : List S47, Ev (fun k => spec_l1Cur_anyScore.l0 k a s l) (r, a, s) ∧ r.length ≤ 31 := by
  intro m
  induction m with
  | zero =>
    intro l h h2
    refine ⟨l, Ev.fuel ?_, h2⟩
    simp only [spec_l1Cur_anyScore.l0, show ¬ ((l.length : Int) < 31) from by omega, ↓reduceIte]
    exact Ev.now _
  | succ m ih =>
    intro l h h2
    by_cases g : (l.length : Int) < 31
    · obtain ⟨r, hr, q⟩ := ih (l ++ [⟨60, wrap64 (2 * (l.length : Int)), 1⟩]) (by simp; omega) (by simp; omega)
      refine ⟨r, Ev.fuel ?_, q⟩
      simp only [spec_l1Cur_anyScore.l0, g, ↓reduceIte, show l.length < 5864062014805 from by omega]
      exact hr
    · refine ⟨l, Ev.fuel ?_, h2⟩
      simp only [spec_l1Cur_anyScore.l0, g, ↓reduceIte]
      exact Ev.now _
theorem anyScore_ev {c : List Int} (hc : Bytes c) (a s : Int) (h0 : 0 ≤ a) (h1 : a ≤ 1500) : ∃ r a' s', Ev (fun k => spec_l1Cur_anyScore.f k c a s) (r, a', s') ∧ 0 ≤ a' ∧ a' ≤ 20000 ∧ r.length ≤ 31 := by
  obtain ⟨l, a0, s0, e0, q0, q1, q2⟩ := score_ev hc a s h0 h1
  by_cases g : (l.length : Int) > 0
  · obtain ⟨r1, a1, s1, e1, b1, c1, d1, f1⟩ := pick_at hc a0 s0 l.length q0 (by omega) (by omega)
    have f1 := f1 (by omega)
    obtain ⟨r2, a2, s2, e2, b2, c2, d2, f2⟩ := pick_at hc a1 s1 36 (by omega) (by omega) (by omega)
    by_cases g0 : r2 = 0
    · obtain ⟨r3, a3, s3, e3, b3, c3, _⟩ := among_at hc a2 s2 [23, 24, 96, 97] (by omega) (by omega) (by simp) (by simp)
      refine ⟨l.set r1.toNat ⟨r3, (rd_T47 l r1).f1, (rd_T47 l r1).f2⟩, a3, s3, ?_, by omega, by omega, by rw [List.length_set]; omega⟩
      unfold spec_l1Cur_anyScore.f
      refine Ev.bind e0 ?_
      simp only [g, e1, e2, e3, d1, f1, g0, ↓reduceIte, Option.bind_some]
      exact Ev.now _
    · by_cases g1 : r2 = 1
      · obtain ⟨r3, a3, s3, e3, b3, c3, _⟩ := among_at hc a2 s2 [-1, 0, 999, 1000] (by omega) (by omega) (by simp) (by simp)
        refine ⟨l.set r1.toNat ⟨(rd_T47 l r1).f0, r3, (rd_T47 l r1).f2⟩, a3, s3, ?_, by omega, by omega, by rw [List.length_set]; omega⟩
        unfold spec_l1Cur_anyScore.f
        refine Ev.bind e0 ?_
        simp only [g, e1, e2, e3, d1, f1, g0, g1, ↓reduceIte, Option.bind_some, show ¬ ((1 : Int) = 0) from by omega]
        exact Ev.now _
      · by_cases g2 : r2 = 2
        · obtain ⟨r3, a3, s3, e3, b3, c3, _⟩ := among_at hc a2 s2 [0, 99, 100] (by omega) (by omega) (by simp) (by simp)
          refine ⟨l.set r1.toNat ⟨(rd_T47 l r1).f0, (rd_T47 l r1).f1, r3⟩, a3, s3, ?_, by omega, by omega, by rw [List.length_set]; omega⟩
          unfold spec_l1Cur_anyScore.f
          refine Ev.bind e0 ?_
          simp only [g, e1, e2, e3, d1, f1, g0, g1, g2, ↓reduceIte, Option.bind_some, show ¬ ((2 : Int) = 0) from by omega, show ¬ ((2 : Int) = 1) from by omega]
          exact Ev.now _
        · by_cases g3 : r2 = 3
          · refine ⟨l ++ [⟨(rd_T47 l 0).f0, (rd_T47 l 0).f1, (rd_T47 l 0).f2⟩], a2, s2, ?_, by omega, by omega, by simp; omega⟩
            unfold spec_l1Cur_anyScore.f
            refine Ev.bind e0 ?_
            simp only [g, e1, e2, d1, f1, g3, ↓reduceIte, Option.bind_some, show ¬ ((3 : Int) = 0) from by omega, show ¬ ((3 : Int) = 1) from by omega, show ¬ ((3 : Int) = 2) from by omega, show l.length < 5864062014805 from by omega]
            exact Ev.now _
          · by_cases g4 : r2 = 4
            · obtain ⟨r, hr, hl'⟩ := anyScore_l0 a2 s2 31 [] (by simp) (by simp)
              refine ⟨r, a2, s2, ?_, by omega, by omega, hl'⟩
              unfold spec_l1Cur_anyScore.f
              refine Ev.bind e0 ?_
              simp only [g, e1, e2, d1, f1, g4, ↓reduceIte, Option.bind_some, show ¬ ((4 : Int) = 0) from by omega, show ¬ ((4 : Int) = 1) from by omega, show ¬ ((4 : Int) = 2) from by omega, show ¬ ((4 : Int) = 3) from by omega]
              exact hr
            · refine ⟨l, a2, s2, ?_, by omega, by omega, by omega⟩
              unfold spec_l1Cur_anyScore.f
              refine Ev.bind e0 ?_
              simp only [g, e1, e2, d1, f1, g0, g1, g2, g3, g4, ↓reduceIte, Option.bind_some]
              exact Ev.now _
  · refine ⟨l, a0, s0, ?_, by omega, by omega, by omega⟩
    unfold spec_l1Cur_anyScore.f
    refine Ev.bind e0 ?_
    simp only [g, ↓reduceIte]
    exact Ev.now _
/-! ### An instrument and a score -/
theorem scoreFor_l0 {c : List Int} (hc : Bytes c) (x : List S47) (hx : x.length ≤ 31) (ps : List Int) (rep : Int) (hp : 1 ≤ ps.length) (hp2 : ps.length ≤ 60) : ∀ (m i : Nat) (a s : Int) (mv : List S47), i + m = x.length → 0 ≤ a → a ≤ 30000 + 4 * i → mv.length ≤ 30 → ∃ r a' s', Ev (fun k => spec_l1Cur_scoreFor.l0 k x (x.length : Int) i ps rep c a s mv) (ps, rep, r, a', s') ∧ 0 ≤ a' ∧ a' ≤ 40000 ∧ r.length ≤ 30 := by
  intro m
  induction m with
  | zero =>
    intro i a s mv h h0 h1 hl
    refine ⟨mv, a, s, Ev.fuel ?_, h0, by omega, hl⟩
    simp only [spec_l1Cur_scoreFor.l0, show ¬ ((i : Int) < (x.length : Int)) from by omega, ↓reduceIte]
    exact Ev.now _
  | succ m ih =>
    intro i a s mv h h0 h1 hl
    have key : ∀ u v w a1 s1 : Int, 0 ≤ a1 → a1 ≤ 30000 + 4 * (i + 1) → ∃ r a' s', Ev (fun k => spec_l1Cur_scoreFor.j1 k x (x.length : Int) i ps rep c a1 s1 mv u v w) (ps, rep, r, a', s') ∧ 0 ≤ a' ∧ a' ≤ 40000 ∧ r.length ≤ 30 := by
      intro u v w a1 s1 h2 h3
      have hs := ntSorted_ev ([] ++ mv ++ [(⟨u, v, w⟩ : S47)]) (by simp; omega)
      cases hb : (scoreRes ([] ++ mv ++ [(⟨u, v, w⟩ : S47)])).2 with
      | true =>
        obtain ⟨r, a', s', e, q⟩ := ih (i + 1) a1 s1 (scoreRes ([] ++ mv ++ [(⟨u, v, w⟩ : S47)])).1 (by omega) h2 (by omega) (scoreRes_30 hb)
        refine ⟨r, a', s', Ev.fuel ?_, q⟩
        simp only [spec_l1Cur_scoreFor.j1, show ([] : List S47).length + mv.length < 5864062014805 from by simp; omega, show (([] : List S47) ++ mv).length < 5864062014805 from by simp; omega, ↓reduceIte, wn i (by omega)]
        refine Ev.bind hs ?_
        simp only [hb, ↓reduceIte]
        exact e
      | false =>
        obtain ⟨r, a', s', e, q⟩ := ih (i + 1) a1 s1 mv (by omega) h2 (by omega) hl
        refine ⟨r, a', s', Ev.fuel ?_, q⟩
        simp only [spec_l1Cur_scoreFor.j1, show ([] : List S47).length + mv.length < 5864062014805 from by simp; omega, show (([] : List S47) ++ mv).length < 5864062014805 from by simp; omega, ↓reduceIte, wn i (by omega)]
        refine Ev.bind hs ?_
        simp only [hb, Bool.false_eq_true, ↓reduceIte]
        exact e
    obtain ⟨b, a1, s1, e1, b1, c1⟩ := one_at hc a s 6 h0 (by omega) (by omega)
    cases b with
    | true =>
      obtain ⟨r, a', s', e, q⟩ := key _ _ _ a1 s1 (by omega) (by omega)
      refine ⟨r, a', s', Ev.fuel ?_, q⟩
      simp only [spec_l1Cur_scoreFor.l0, show (i : Int) < (x.length : Int) from by omega, show (0 : Int) ≤ (i : Int) from by omega, e1, Option.bind_some, ↓reduceIte]
      exact e
    | false =>
      obtain ⟨v, a2, s2, e2, b2, c2, d2, f2⟩ := pick_at hc a1 s1 ps.length (by omega) (by omega) (by omega)
      obtain ⟨r, a', s', e, q⟩ := key _ _ _ a2 s2 (by omega) (by omega)
      refine ⟨r, a', s', Ev.fuel ?_, q⟩
      simp only [spec_l1Cur_scoreFor.l0, show (i : Int) < (x.length : Int) from by omega, show (0 : Int) ≤ (i : Int) from by omega, e1, e2, d2, f2 (by omega), Option.bind_some, Bool.false_eq_true, ↓reduceIte]
      exact e
theorem scoreFor_ev {c : List Int} (hc : Bytes c) : ∃ p rep l a' s', Ev (fun k => spec_l1Cur_scoreFor.f k c 0 0) (p, rep, l, a', s') ∧ 0 ≤ a' ∧ a' ≤ 40000 ∧ p.length ≤ 60 ∧ l.length ≤ 31 := by
  obtain ⟨p, rep, a0, s0, e0, q1, q2, q3⟩ := anyInstrument_ev hc
  obtain ⟨l, a1, s1, e1, u1, u2, u3⟩ := anyScore_ev hc a0 s0 q1 (by omega)
  have ea := inAsked_ev p rep l (by omega) (by omega)
  cases hg : goodIns p rep && goodScore l with
  | false =>
    rw [hg] at ea
    refine ⟨p, rep, l, a1, s1, ?_, by omega, by omega, q3, u3⟩
    unfold spec_l1Cur_scoreFor.f
    refine Ev.bind e0 (Ev.bind e1 (Ev.bind ea ?_))
    simp only [Bool.false_eq_true, ↓reduceIte]
    exact Ev.now _
  | true =>
    rw [hg] at ea
    rw [Bool.and_eq_true] at hg
    have hp := ((goodIns_iff p rep).1 hg.1).1
    obtain ⟨b, a2, s2, e2, b2, c2⟩ := one_at hc a1 s1 4 u1 (by omega) (by omega)
    cases b with
    | true =>
      refine ⟨p, rep, l, a2, s2, ?_, by omega, by omega, q3, u3⟩
      unfold spec_l1Cur_scoreFor.f
      refine Ev.bind e0 (Ev.bind e1 (Ev.bind ea ?_))
      simp only [e2, Option.bind_some, ↓reduceIte]
      exact Ev.now _
    | false =>
      obtain ⟨r, a3, s3, e3, v1, v2, v3⟩ := scoreFor_l0 hc l u3 p rep hp.1 (by omega) l.length 0 a2 s2 [] (by omega) (by omega) (by omega) (by simp)
      refine ⟨p, rep, r, a3, s3, ?_, by omega, by omega, q3, by omega⟩
      unfold spec_l1Cur_scoreFor.f
      refine Ev.bind e0 (Ev.bind e1 (Ev.bind ea ?_))
      simp only [e2, Option.bind_some, Bool.false_eq_true, ↓reduceIte]
      exact e3
/-! ### Changed scores -/
def chOf (a b : Int) (l : List S47) : List S47 := l.map fun x => ⟨wrap64 (x.f0 + a), wrap64 (x.f1 + b), x.f2⟩
def chRes (l : List S47) : List S47 × Bool := if goodScore l = true then (l, true) else ([], false)
theorem chRes_len (l : List S47) : (chRes l).1.length ≤ 30 := by
  unfold chRes
  split
  · rename_i h; exact goodScore_len h
  · simp
theorem ntChanged_l0 (a b : Int) (l : List S47) (hl : l.length ≤ 1048576) : ∀ (suf pre : List S47), pre ++ suf = l → Ev (fun k => spec_ntChanged.l0 k a b (chOf a b pre) l (l.length : Int) pre.length) (chRes (chOf a b l)) := by
  intro suf
  induction suf with
  | nil =>
    intro pre h
    rw [List.append_nil] at h
    subst h
    refine Ev.fuel ?_
    simp only [spec_ntChanged.l0, Int.lt_irrefl, ↓reduceIte]
    refine Ev.bind (ntGood_ev _ (by simp [chOf]; exact hl)) ?_
    unfold chRes
    split
    · exact Ev.now _
    · exact Ev.now _
  | cons x suf ih =>
    intro pre h
    have hlen : l.length = pre.length + (suf.length + 1) := by rw [← h]; simp
    have c3 : rd_T47 l (pre.length : Int) = x := by rw [← h]; exact getD_mid _ _ _ _
    refine Ev.fuel ?_
    simp only [spec_ntChanged.l0, show (pre.length : Int) < (l.length : Int) from by omega, show (0 : Int) ≤ (pre.length : Int) from by omega, c3, ↓reduceIte, wn pre.length (by omega), show (chOf a b pre).length < 5864062014805 from by simp [chOf]; omega]
    have e := ih (pre ++ [x]) (by rw [← h]; simp)
    simpa [chOf] using e
theorem ntChanged_ev (a b : Int) (l : List S47) (hl : l.length ≤ 1048576) : Ev (fun k => spec_ntChanged.f k l a b) (chRes (chOf a b l)) := ntChanged_l0 a b l hl l [] rfl
theorem DrawLossTable_ev {c : List Int} (hc : Bytes c) : ∃ (p : List Int) (rep : Int) (l : List S47), Ev (fun k => spec_DrawLossTable.f k c) (p, rep, l) ∧ p.length ≤ 60 ∧ l.length ≤ 31 := by
  obtain ⟨p, rep, l, a, s, e, h0, h1, h2, h3⟩ := scoreFor_ev hc
  obtain ⟨b, a1, s1, e1, b1, c1⟩ := one_at hc a s 3 h0 (by omega) (by omega)
  cases b with
  | false =>
    refine ⟨p, rep, l, ?_, h2, h3⟩
    unfold spec_DrawLossTable.f
    refine Ev.bind e ?_
    simp only [e1, Option.bind_some, Bool.false_eq_true, ↓reduceIte]
    exact Ev.now _
  | true =>
    obtain ⟨v, a2, s2, e2, b2, c2, d2, f2⟩ := pick_at hc a1 s1 25 (by omega) (by omega) (by omega)
    have hch := ntChanged_ev (wrap64 (v - 12)) 0 l (by omega)
    have hlen := chRes_len (chOf (wrap64 (v - 12)) 0 l)
    have hgd := ntGood_ev l (by omega)
    by_cases g : (chRes (chOf (wrap64 (v - 12)) 0 l)).2 = true ∧ goodScore l = true
    · refine ⟨p, rep, (chRes (chOf (wrap64 (v - 12)) 0 l)).1, ?_, h2, by omega⟩
      unfold spec_DrawLossTable.f
      refine Ev.bind e ?_
      simp only [e1, e2, Option.bind_some, ↓reduceIte]
      refine Ev.bind hch ?_
      simp only [g.1, ↓reduceIte]
      refine Ev.bind hgd ?_
      simp only [g.2, ↓reduceIte]
      exact Ev.now _
    · refine ⟨p, rep, l, ?_, h2, h3⟩
      unfold spec_DrawLossTable.f
      refine Ev.bind e ?_
      simp only [e1, e2, Option.bind_some, ↓reduceIte]
      refine Ev.bind hch ?_
      by_cases g1 : (chRes (chOf (wrap64 (v - 12)) 0 l)).2 = true
      · simp only [g1, ↓reduceIte]
        refine Ev.bind hgd ?_
        simp only [show ¬ goodScore l = true from fun h => g ⟨g1, h⟩, ↓reduceIte]
        exact Ev.now _
      · simp only [g1, ↓reduceIte]
        exact Ev.now _
theorem DrawFoldScore_ev {c : List Int} (hc : Bytes c) : ∃ (p : List Int) (rep : Int) (l : List S47), Ev (fun k => spec_DrawFoldScore.f k c) (p, rep, l) ∧ p.length ≤ 60 ∧ l.length ≤ 31 := by
  obtain ⟨p, rep, l, e, q⟩ := DrawLossTable_ev hc
  exact ⟨p, rep, l, by unfold spec_DrawFoldScore.f; exact Ev.bind e (Ev.now _), q⟩
theorem DrawNearestPitch_ev {c : List Int} (hc : Bytes c) : ∃ (p : List Int) (rep : Int) (b : Int), Ev (fun k => spec_DrawNearestPitch.f k c) (p, rep, b) ∧ p.length ≤ 60 ∧ (23 ≤ b ∧ b ≤ 97) := by
  obtain ⟨p, rep, a, s, e, h0, h1, h2⟩ := anyInstrument_ev hc
  obtain ⟨v, a1, s1, e1, b1, c1, d1, f1⟩ := pick_at hc a s 73 h0 (by omega) (by omega)
  obtain ⟨w, a2, s2, e2, b2, c2, m2⟩ := among_at hc a1 s1 [23, 97] (by omega) (by omega) (by simp) (by simp)
  obtain ⟨u, a3, s3, e3, b3, c3, m3⟩ := among_at hc a2 s2 [60, 61, 66, 74, wrap64 (24 + v), 24, 96, w] (by omega) (by omega) (by simp) (by simp)
  refine ⟨p, rep, u, ?_, h2, ?_⟩
  · unfold spec_DrawNearestPitch.f
    refine Ev.bind e ?_
    simp only [e1, e2, e3, Option.bind_some]
    exact Ev.now _
  · have f1 := f1 (by omega)
    rw [w_id (x := 24 + v) (by omega) (by omega)] at m3
    simp only [List.mem_cons, List.not_mem_nil, or_false] at m2 m3
    omega
theorem DrawFoldPitch_ev {c : List Int} (hc : Bytes c) : ∃ (p : List Int) (rep : Int) (b : Int), Ev (fun k => spec_DrawFoldPitch.f k c) (p, rep, b) ∧ p.length ≤ 60 ∧ (23 ≤ b ∧ b ≤ 97) := by
  obtain ⟨p, rep, l, e, q⟩ := DrawNearestPitch_ev hc
  exact ⟨p, rep, l, by unfold spec_DrawFoldPitch.f; exact Ev.bind e (Ev.now _), q⟩
end Go.Proofs.YtlhhjdlaljmppaaGreat.T
end
section
/- The plain part of the law of folds. No condition. -/
set_option linter.unusedVariables false
set_option linter.unusedSimpArgs false
namespace Go.Proofs.YtlhhjdlaljmppaaGreat.T
open Go.RowKit Go.Proofs.YtlhhjdlaljmppaaGreatW.PrintWords Go.Proofs.YtlhhjdlaljmppaaGreatW.PrintLast Go.Proofs.YtlhhjdlaljmppaaGreatW.PrintMore

/-! ### Comparisons -/
theorem sameInts_l0 (l : List Int) (hl : l.length ≤ 1048576) : ∀ (m i : Nat), i + m = l.length → Ev (fun k => laws_sameInts.l0 k l l l.length i) true := by
  intro m
  induction m with
  | zero =>
    intro i h
    refine Ev.fuel ?_
    simp only [laws_sameInts.l0, show ¬ ((i : Int) < (l.length : Int)) from by omega, ↓reduceIte]
    exact Ev.now _
  | succ m ih =>
    intro i h
    refine Ev.fuel ?_
    simp only [laws_sameInts.l0, show (i : Int) < (l.length : Int) from by omega, show (0 : Int) ≤ (i : Int) from by omega, ↓reduceIte, wn i (by omega)]
    exact ih (i + 1) (by omega)
theorem sameInts_ev (l : List Int) (hl : l.length ≤ 1048576) : Ev (fun k => laws_sameInts.f k l l) true := by
  unfold laws_sameInts.f
  simp only [↓reduceIte]
  exact sameInts_l0 l hl l.length 0 (by omega)
theorem pSameNotes_l0 (l : List S47) (hl : l.length ≤ 1048576) : ∀ (m i : Nat), i + m = l.length → Ev (fun k => laws_pSameNotes.l0 k l l l.length i) true := by
  intro m
  induction m with
  | zero =>
    intro i h
    refine Ev.fuel ?_
    simp only [laws_pSameNotes.l0, show ¬ ((i : Int) < (l.length : Int)) from by omega, ↓reduceIte]
    exact Ev.now _
  | succ m ih =>
    intro i h
    refine Ev.fuel ?_
    simp only [laws_pSameNotes.l0, show (i : Int) < (l.length : Int) from by omega, show (0 : Int) ≤ (i : Int) from by omega, ↓reduceIte, wn i (by omega), beq_self_eq_true, Bool.not_true, Bool.or_self, Bool.false_eq_true]
    exact ih (i + 1) (by omega)
theorem pSameNotes_ev (l : List S47) (hl : l.length ≤ 1048576) : Ev (fun k => laws_pSameNotes.f k l l) true := by
  unfold laws_pSameNotes.f
  simp only [↓reduceIte]
  exact pSameNotes_l0 l hl l.length 0 (by omega)
theorem pIn_l0 (l : List Int) (v : Int) (hl : l.length ≤ 1048576) : ∀ (suf pre : List Int), pre ++ suf = l → Ev (fun k => laws_pIn.l0 k v l (l.length : Int) pre.length) (decide (v ∈ suf)) := by
  intro suf
  induction suf with
  | nil =>
    intro pre h
    have : pre.length = l.length := by rw [← h]; simp
    refine Ev.fuel ?_
    simp only [laws_pIn.l0, show ¬ ((pre.length : Int) < (l.length : Int)) from by omega, ↓reduceIte]
    exact Ev.const (by simp)
  | cons x suf ih =>
    intro pre h
    have hlen : l.length = pre.length + (suf.length + 1) := by rw [← h]; simp
    have c3 : rd l (pre.length : Int) = x := by rw [← h]; exact getD_mid _ _ _ _
    refine Ev.fuel ?_
    simp only [laws_pIn.l0, show (pre.length : Int) < (l.length : Int) from by omega, show (0 : Int) ≤ (pre.length : Int) from by omega, c3, ↓reduceIte, wn pre.length (by omega)]
    by_cases hx : x = v
    · simp only [hx, ↓reduceIte]
      exact Ev.const (by simp)
    · simp only [hx, ↓reduceIte]
      have e := ih (pre ++ [x]) (by rw [← h]; simp)
      have e2 : decide (v ∈ x :: suf) = decide (v ∈ suf) := by
        apply decide_eq_decide.2
        simp only [List.mem_cons]
        exact ⟨fun h => h.resolve_left (fun q => hx q.symm), .inr⟩
      rw [e2]
      simpa using e
theorem pIn_ev (l : List Int) (v : Int) (hl : l.length ≤ 1048576) : Ev (fun k => laws_pIn.f k l v) (decide (v ∈ l)) := by
  unfold laws_pIn.f
  exact pIn_l0 l v hl l [] rfl
theorem pAbs_eq {n : Int} (h0 : -1000000 ≤ n) (h1 : n ≤ 1000000) : laws_pAbs.f n = some (ab n) := by
  have := ab_cases n
  unfold laws_pAbs.f
  rw [w_id (x := -n) (by omega) (by omega)]
  split
  · congr 1; omega
  · congr 1; omega
/-! ### The nearest is the first of the nearest -/
theorem risFrom_lt (lo hi : Int) : ∀ (l : List Int) (p : Option Int), risFrom lo hi p l = true → l.Pairwise (· < ·) ∧ ∀ y, p = some y → ∀ x ∈ l, y < x := by
  intro l
  induction l with
  | nil => intro p _; simp
  | cons x xs ih =>
    intro p h
    have key : risFrom lo hi (some x) xs = true ∧ ∀ y, p = some y → y < x := by
      cases p with
      | none => simp only [risFrom, Bool.and_eq_true, decide_eq_true_eq] at h; exact ⟨h.2, fun y hy => by cases hy⟩
      | some z => simp only [risFrom, Bool.and_eq_true, decide_eq_true_eq] at h; exact ⟨h.2.2, fun y hy => by cases hy; exact h.2.1⟩
    obtain ⟨h1, h2⟩ := ih _ key.1
    refine ⟨List.pairwise_cons.2 ⟨fun y hy => h2 x rfl y hy, h1⟩, fun y hy z hz => ?_⟩
    rcases List.mem_cons.1 hz with rfl | hz
    · exact key.2 y hy
    · have := key.2 y hy; have := h2 x rfl z hz; omega
theorem goodIns_lt {l : List Int} {r : Int} (h : goodIns l r = true) : l.Pairwise (· < ·) := (risFrom_lt 24 96 l none ((goodIns_iff l r).1 h).2.1).1
def Bst (p r x : Int) : Prop := ab (r - p) < ab (x - p) ∨ ab (r - p) = ab (x - p) ∧ r ≤ x
theorem Bst.trans {p r x y : Int} (h : Bst p r x) (k : Bst p x y) : Bst p r y := by unfold Bst at *; omega
theorem near_from (m p : Int) : ∀ (l : List Int) (b : Int), 24 ≤ b → l.Pairwise (· < ·) → (∀ x ∈ l, 24 ≤ x) → (∀ x ∈ l, b < x) → (near m p l b = b ∨ near m p l b ∈ l ∧ Int.tmod (near m p l b - p) m = 0) ∧ Bst p (near m p l b) b ∧ ∀ x ∈ l, Int.tmod (x - p) m = 0 → Bst p (near m p l b) x := by
  intro l
  induction l with
  | nil => intro b _ _ _ _; exact ⟨.inl rfl, .inr ⟨rfl, Int.le_refl _⟩, by simp⟩
  | cons x xs ih =>
    intro b hb hp ha hlt
    have hx := ha x (by simp)
    have hbx := hlt x (by simp)
    rw [List.pairwise_cons] at hp
    have hb0 : ¬ b < 0 := by omega
    by_cases ht : Int.tmod (x - p) m = 0
    · by_cases hd : ab (x - p) < ab (b - p)
      · have e : near m p (x :: xs) b = near m p xs x := by simp only [near, ht, hb0, hd, ↓reduceIte]
        obtain ⟨h1, h2, h3⟩ := ih x hx hp.2 (fun y hy => ha y (by simp [hy])) hp.1
        rw [e]
        refine ⟨.inr ?_, h2.trans (.inl hd), fun y hy hty => ?_⟩
        · rcases h1 with h1 | ⟨h1, h4⟩
          · rw [h1]; exact ⟨by simp, ht⟩
          · exact ⟨by simp [h1], h4⟩
        · rcases List.mem_cons.1 hy with rfl | hy
          · exact h2
          · exact h3 y hy hty
      · have e : near m p (x :: xs) b = near m p xs b := by simp only [near, ht, hb0, hd, ↓reduceIte]
        obtain ⟨h1, h2, h3⟩ := ih b hb hp.2 (fun y hy => ha y (by simp [hy])) (fun y hy => hlt y (by simp [hy]))
        rw [e]
        refine ⟨?_, h2, fun y hy hty => ?_⟩
        · rcases h1 with h1 | ⟨h1, h4⟩
          · exact .inl h1
          · exact .inr ⟨by simp [h1], h4⟩
        · rcases List.mem_cons.1 hy with rfl | hy
          · exact h2.trans (by unfold Bst; omega)
          · exact h3 y hy hty
    · have e : near m p (x :: xs) b = near m p xs b := by simp only [near, ht, ↓reduceIte]
      obtain ⟨h1, h2, h3⟩ := ih b hb hp.2 (fun y hy => ha y (by simp [hy])) (fun y hy => hlt y (by simp [hy]))
      rw [e]
      refine ⟨?_, h2, fun y hy hty => ?_⟩
      · rcases h1 with h1 | ⟨h1, h4⟩
        · exact .inl h1
        · exact .inr ⟨by simp [h1], h4⟩
      · rcases List.mem_cons.1 hy with rfl | hy
        · exact absurd hty ht
        · exact h3 y hy hty
theorem near_spec (m p : Int) : ∀ (l : List Int), l.Pairwise (· < ·) → (∀ x ∈ l, 24 ≤ x) → (near m p l (-1) = -1 ∧ ∀ x ∈ l, Int.tmod (x - p) m ≠ 0) ∨ (near m p l (-1) ∈ l ∧ Int.tmod (near m p l (-1) - p) m = 0 ∧ ∀ x ∈ l, Int.tmod (x - p) m = 0 → Bst p (near m p l (-1)) x) := by
  intro l
  induction l with
  | nil => intro _ _; exact .inl ⟨rfl, by simp⟩
  | cons x xs ih =>
    intro hp ha
    have hx := ha x (by simp)
    rw [List.pairwise_cons] at hp
    by_cases ht : Int.tmod (x - p) m = 0
    · have e : near m p (x :: xs) (-1) = near m p xs x := by simp only [near, ht, ↓reduceIte, show ((-1 : Int) < 0) from by decide]
      obtain ⟨h1, h2, h3⟩ := near_from m p xs x hx hp.2 (fun y hy => ha y (by simp [hy])) hp.1
      rw [e]
      refine .inr ⟨?_, ?_, fun y hy hty => ?_⟩
      · rcases h1 with h1 | ⟨h1, _⟩
        · rw [h1]; simp
        · simp [h1]
      · rcases h1 with h1 | ⟨_, h4⟩
        · rw [h1]; exact ht
        · exact h4
      · rcases List.mem_cons.1 hy with rfl | hy
        · exact h2
        · exact h3 y hy hty
    · have e : near m p (x :: xs) (-1) = near m p xs (-1) := by simp only [near, ht, ↓reduceIte]
      rw [e]
      rcases ih hp.2 (fun y hy => ha y (by simp [hy])) with ⟨h1, h2⟩ | ⟨h1, h2, h3⟩
      · refine .inl ⟨h1, fun y hy => ?_⟩
        rcases List.mem_cons.1 hy with rfl | hy
        · exact ht
        · exact h2 y hy
      · refine .inr ⟨by simp [h1], h2, fun y hy hty => ?_⟩
        rcases List.mem_cons.1 hy with rfl | hy
        · exact absurd hty ht
        · exact h3 y hy hty
/-! ### What the functions hand back -/
def nearRes (l : List Int) (r p : Int) : Int × Bool := if goodIns l r = true ∧ (24 ≤ p ∧ p ≤ 96) then (near 1 p l (-1), true) else (0, false)
theorem nearBoth_ev (l : List Int) (r p : Int) (hl : l.length ≤ 1048576) : Ev (fun k => impl_NearestPitch.f k l r p) (nearRes l r p) ∧ Ev (fun k => spec_NearestPitch.f k l r p) (nearRes l r p) := by
  have h2 : Ev (fun k => spec_NearestPitch.f k l r p) (nearRes l r p) := by
    unfold spec_NearestPitch.f nearRes
    refine Ev.bind (inGood_ev l r hl) ?_
    by_cases hg : goodIns l r = true
    · simp only [hg, ↓reduceIte, true_and, ntPitch_eq, Option.bind_some]
      by_cases hp : 24 ≤ p ∧ p ≤ 96
      · simp only [hp, and_self, decide_true, ↓reduceIte]
        exact Ev.bind (trNearest_ev l r 1 p hl (goodIns_all hg) (by omega) hp) (Ev.now _)
      · simp only [hp, decide_false, Bool.false_eq_true, ↓reduceIte]; exact Ev.now _
    · simp only [hg, Bool.false_eq_true, ↓reduceIte, false_and]; exact Ev.now _
  obtain ⟨r0, r1, e1, e2⟩ := nearLaw_ev l r p hl
  rw [Ev.uniq e1 h2] at e2
  exact ⟨e2, h2⟩
def foldRes (l : List Int) (r p : Int) : Int × Bool := if goodIns l r = true ∧ (24 ≤ p ∧ p ≤ 96) ∧ near 12 p l (-1) ≠ -1 then (near 12 p l (-1), true) else (0, false)
theorem foldBoth_ev (l : List Int) (r p : Int) (hl : l.length ≤ 1048576) : Ev (fun k => impl_FoldPitch.f k l r p) (foldRes l r p) ∧ Ev (fun k => spec_FoldPitch.f k l r p) (foldRes l r p) := by
  have h2 : Ev (fun k => spec_FoldPitch.f k l r p) (foldRes l r p) := by
    unfold spec_FoldPitch.f foldRes
    refine Ev.bind (inGood_ev l r hl) ?_
    by_cases hg : goodIns l r = true
    · simp only [hg, ↓reduceIte, true_and, ntPitch_eq, Option.bind_some]
      by_cases hp : 24 ≤ p ∧ p ≤ 96
      · have es := trNearest_ev l r 12 p hl (goodIns_all hg) (by omega) hp
        have hr := near_range 12 p l (-1) (goodIns_all hg) (.inl rfl)
        simp only [hp, and_self, decide_true, ↓reduceIte, true_and]
        refine Ev.bind es ?_
        by_cases hz : near 12 p l (-1) = -1
        · simp only [hz, show ((-1 : Int) < 0) from by decide, ↓reduceIte, ne_eq, not_true_eq_false]
          exact Ev.now _
        · simp only [show ¬ near 12 p l (-1) < 0 from by omega, ↓reduceIte, ne_eq, hz, not_false_eq_true]
          exact Ev.bind es (Ev.now _)
      · simp only [hp, decide_false, Bool.false_eq_true, ↓reduceIte, false_and]; exact Ev.now _
    · simp only [hg, Bool.false_eq_true, ↓reduceIte, false_and]; exact Ev.now _
  obtain ⟨r0, r1, e1, e2⟩ := foldLaw_ev l r p hl
  rw [Ev.uniq e1 h2] at e2
  exact ⟨e2, h2⟩
def fsRes (l : List Int) (r : Int) (s : List S47) : List S47 × Int × Bool := if goodIns l r = true ∧ goodScore s = true then ((foldS l 0 s [] 0).1, (foldS l 0 s [] 0).2, true) else ([], 0, false)
theorem fsBoth_ev (l : List Int) (r : Int) (s : List S47) (hl : l.length ≤ 1048576) (hs : s.length ≤ 1048576) : Ev (fun k => impl_FoldScore.f k l r s) (fsRes l r s) ∧ Ev (fun k => spec_FoldScore.f k l r s) (fsRes l r s) := by
  have h2 : Ev (fun k => spec_FoldScore.f k l r s) (fsRes l r s) := by
    unfold spec_FoldScore.f fsRes
    refine Ev.bind (inAsked_ev l r s hl hs) ?_
    by_cases hg : goodIns l r = true ∧ goodScore s = true
    · rw [if_pos hg]
      simp only [hg.1, hg.2, Bool.and_self, ↓reduceIte]
      exact Ev.bind (trFold_ev l r 0 s hl (goodIns_all hg.1) (goodScore_len hg.2) (goodScore_all hg.2) (by omega)) (Ev.now _)
    · rw [if_neg hg]
      have : (goodIns l r && goodScore s) = false := by cases h : (goodIns l r && goodScore s) with | false => rfl | true => exact absurd (Bool.and_eq_true _ _ ▸ h) hg
      simp only [this, Bool.false_eq_true, ↓reduceIte]
      exact Ev.now _
  obtain ⟨r0, r1, r2, _, e1, e2⟩ := foldScoreLaw_ev l r s hl hs
  rw [Ev.uniq e1 h2] at e2
  exact ⟨e2, h2⟩
def bfAt (l : List Int) (s : List S47) : Int × Int := (pairsI 1 11).foldl (bestStep (outOf l s)) (0, outOf l s 0)
def bfRes (l : List Int) (r : Int) (s : List S47) : Int × Int × Bool := if goodIns l r = true ∧ goodScore s = true then ((bfAt l s).1, (bfAt l s).2, true) else (0, 0, false)
theorem bfBoth_ev (l : List Int) (r : Int) (s : List S47) (hl : l.length ≤ 1048576) (hs : s.length ≤ 1048576) : Ev (fun k => impl_BestFold.f k l r s) (bfRes l r s) ∧ Ev (fun k => spec_BestFold.f k l r s) (bfRes l r s) := by
  have h1 : Ev (fun k => impl_BestFold.f k l r s) (bfRes l r s) := by
    unfold impl_BestFold.f bfRes
    refine Ev.bind (IsInstrument_ev l r hl) ?_
    by_cases hg : goodIns l r = true
    · simp only [hg, ↓reduceIte, true_and]
      refine Ev.bind (IsScore_ev s hs) ?_
      by_cases hq : goodScore s = true
      · have hn := goodScore_all hq
        have ha := goodIns_all hg
        have h30 := goodScore_len hq
        simp only [hq, ↓reduceIte]
        have eb : Ev (fun k => impl_bestBy_F.f k 11 l r s) (bfAt l s) := by
          unfold impl_bestBy_F.f bfAt
          exact Ev.bind (closure_ev l r s 0 hl ha h30 hn (by omega)) (bestBy_l0 l r s hl h30 ha hn 11 1 0 _ (by omega) (by omega))
        exact Ev.bind eb (Ev.now _)
      · simp only [hq, Bool.false_eq_true, ↓reduceIte]; exact Ev.now _
    · simp only [hg, Bool.false_eq_true, ↓reduceIte, false_and]; exact Ev.now _
  obtain ⟨r0, r1, r2, e1, e2⟩ := bestFoldLaw_ev l r s hl hs
  rw [Ev.uniq e2 h1] at e1
  exact ⟨h1, e1⟩
theorem best_low (f : Int → Int) : ∀ (l : List Int) (p : Int × Int), (∀ x ∈ l, -11 ≤ x ∧ x ≤ 11) → (-11 ≤ p.1 ∧ p.1 ≤ 11) → (l.foldl (bestStep f) p).2 ≤ p.2 ∧ (-11 ≤ (l.foldl (bestStep f) p).1 ∧ (l.foldl (bestStep f) p).1 ≤ 11) := by
  intro l
  induction l with
  | nil => intro p _ h; exact ⟨Int.le_refl _, h⟩
  | cons x xs ih =>
    intro p h hp
    have hx := h x (by simp)
    rw [List.foldl_cons]
    have h1 : (bestStep f p x).2 ≤ p.2 ∧ (-11 ≤ (bestStep f p x).1 ∧ (bestStep f p x).1 ≤ 11) := by
      unfold bestStep
      split
      · rename_i hh; exact ⟨by show f x ≤ _; omega, hx⟩
      · exact ⟨Int.le_refl _, hp⟩
    have := ih (bestStep f p x) (fun y hy => h y (by simp [hy])) h1.2
    exact ⟨by omega, this.2⟩
theorem bfAt_low (l : List Int) (s : List S47) : (bfAt l s).2 ≤ outOf l s 0 ∧ (-11 ≤ (bfAt l s).1 ∧ (bfAt l s).1 ≤ 11) := best_low _ _ _ (pairsI_range 11 1 (by omega) (by omega)) (by simp)
def clRes (l : List Int) (r : Int) : List Int × Bool := if goodIns l r = true then (putAll [] (classOf l), true) else ([], false)
theorem clBoth_ev (l : List Int) (r : Int) (hl : l.length ≤ 1048576) : Ev (fun k => impl_PlayableClasses.f k l r) (clRes l r) ∧ Ev (fun k => spec_PlayableClasses.f k l r) (clRes l r) := by
  have h2 : Ev (fun k => spec_PlayableClasses.f k l r) (clRes l r) := by
    unfold spec_PlayableClasses.f clRes
    refine Ev.bind (inGood_ev l r hl) ?_
    by_cases hg : goodIns l r = true
    · simp only [hg, ↓reduceIte]
      exact (class_l0 l hl l [] rfl).1
    · simp only [hg, Bool.false_eq_true, ↓reduceIte]; exact Ev.now _
  obtain ⟨r0, r1, _, e1, e2⟩ := classesLaw_ev l r hl
  rw [Ev.uniq e1 h2] at e2
  exact ⟨e2, h2⟩
/-! ### Missing pitches -/
theorem missing_l0 (p : List Int) (r : Int) (hp : p.length ≤ 1048576) (s : List S47) (hs : s.length ≤ 30) (hm : ∀ x ∈ s, x.f0 ∈ p) : ∀ (suf pre : List S47), pre ++ suf = s →
    Ev (fun k => impl_MissingPitches.l0 k [] s (s.length : Int) pre.length p r) ([], true) := by
  intro suf
  induction suf with
  | nil =>
    intro pre h
    have hpre : pre.length = s.length := by rw [← h]; simp
    refine Ev.fuel ?_
    simp only [impl_MissingPitches.l0, show ¬ ((pre.length : Int) < (s.length : Int)) from by omega, ↓reduceIte, sortedSet_eq [] (by simp), Option.bind_some, putAll]
    exact Ev.now _
  | cons x suf ih =>
    intro pre h
    have hlen : s.length = pre.length + (suf.length + 1) := by rw [← h]; simp
    have c3 : rd_T47 s (pre.length : Int) = x := by rw [← h]; exact getD_mid _ _ _ _
    have hx := hm x (by rw [← h]; simp)
    refine Ev.fuel ?_
    simp only [impl_MissingPitches.l0, show (pre.length : Int) < (s.length : Int) from by omega, show (0 : Int) ≤ (pre.length : Int) from by omega, c3, ↓reduceIte, wn pre.length (by omega)]
    refine Ev.bind (Contains_ev p x.f0 hp) ?_
    simp only [hx, decide_true, ↓reduceIte]
    simpa using ih (pre ++ [x]) (by rw [← h]; simp)
theorem missing_ev (p : List Int) (r : Int) (s : List S47) (hp : p.length ≤ 1048576) (hg : goodIns p r = true) (hs : goodScore s = true) (hm : ∀ x ∈ s, x.f0 ∈ p) : Ev (fun k => impl_MissingPitches.f k p r s) ([], true) := by
  have h30 := goodScore_len hs
  unfold impl_MissingPitches.f
  refine Ev.bind (IsInstrument_ev p r hp) ?_
  simp only [hg, ↓reduceIte]
  refine Ev.bind (IsScore_ev s (by omega)) ?_
  simp only [hs, Bool.not_true]
  refine Ev.fuel ?_
  simp only [impl_MissingPitches.j0, Bool.false_eq_true, ↓reduceIte]
  exact missing_l0 p r hp s h30 hm s [] rfl
/-! ### Folded scores -/
theorem srtN_mem (l : List S47) (h : goodScore (SNote.srt l) = true) (x : S47) : x ∈ SNote.srt l → x ∈ l := by
  rw [srt_of_good l h]
  exact ((SA.isort_perm SNote.ltB l).mem_iff).1
theorem foldS_facts (l : List Int) (hp : l.Pairwise (· < ·)) (ha : ∀ x ∈ l, 24 ≤ x) : ∀ (xs o : List S47) (c : Int), goodScore o = true → (∀ x ∈ o, x.f0 ∈ l) → goodScore (foldS l 0 xs o c).1 = true ∧ (∀ x ∈ (foldS l 0 xs o c).1, x.f0 ∈ l) ∧ ((foldS l 0 xs o c).1.length : Int) + (foldS l 0 xs o c).2 = o.length + c + xs.length := by
  intro xs
  induction xs with
  | nil => intro o c h1 h2; exact ⟨h1, h2, by simp [foldS]⟩
  | cons x xs ih =>
    intro o c h1 h2
    unfold foldS
    split
    · obtain ⟨q1, q2, q3⟩ := ih o (c + 1) h1 h2
      exact ⟨q1, q2, by rw [q3]; simp; omega⟩
    · rename_i hf
      split
      · rename_i hg
        have hin : foldTo l (x.f0 + 0) ∈ l := by
          unfold foldTo at hf ⊢
          split at hf
          · rename_i hh
            rw [if_pos hh]
            rcases near_spec 12 (x.f0 + 0) l hp ha with ⟨e, _⟩ | ⟨e, _⟩
            · exact absurd e hf
            · exact e
          · exact absurd rfl hf
        obtain ⟨q1, q2, q3⟩ := ih (SNote.srt (o ++ [⟨foldTo l (x.f0 + 0), x.f1, x.f2⟩])) c hg (fun y hy => by
          have := srtN_mem _ hg y hy
          simp only [List.mem_append, List.mem_singleton] at this
          rcases this with h | rfl
          · exact h2 y h
          · exact hin)
        exact ⟨q1, q2, by rw [q3, srtN_len]; simp; omega⟩
      · obtain ⟨q1, q2, q3⟩ := ih o (c + 1) h1 h2
        exact ⟨q1, q2, by rw [q3]; simp; omega⟩
theorem nil_good : goodScore ([] : List S47) = true := rfl
/-! ### The law -/
theorem ff_l1 (cl : List Int) (s : List S47) (hs : s.length ≤ 30) (hc : cl.length ≤ 1048576) (hm : ∀ x ∈ s, Int.tmod x.f0 12 ∈ cl) : ∀ (m i : Nat), i + m = s.length → Ev (fun k => laws_FnFolds.l1 k cl s (s.length : Int) i) true := by
  intro m
  induction m with
  | zero =>
    intro i h
    refine Ev.fuel ?_
    simp only [laws_FnFolds.l1, show ¬ ((i : Int) < (s.length : Int)) from by omega, ↓reduceIte]
    exact Ev.now _
  | succ m ih =>
    intro i h
    have hin : rd_T47 s (i : Int) ∈ s := by
      unfold rd_T47
      rw [Int.toNat_natCast, List.getD_eq_getElem?_getD, List.getElem?_eq_getElem (by omega)]
      exact List.getElem_mem _
    refine Ev.fuel ?_
    simp only [laws_FnFolds.l1, show (i : Int) < (s.length : Int) from by omega, show (0 : Int) ≤ (i : Int) from by omega, ↓reduceIte, wn i (by omega)]
    refine Ev.bind (pIn_ev cl _ hc) ?_
    simp only [hm _ hin, decide_true, ↓reduceIte]
    exact ih (i + 1) (by omega)
theorem ff_j3 {c : List Int} (hc : Bytes c) : Ev (fun k => laws_FnFolds.j3 k c) true := by
  obtain ⟨p, rep, l, d, hp, hl⟩ := DrawFoldScore_ev hc
  obtain ⟨i1, s1⟩ := fsBoth_ev p rep l (by omega) (by omega)
  obtain ⟨i2, s2⟩ := bfBoth_ev p rep l (by omega) (by omega)
  obtain ⟨i3, s3⟩ := clBoth_ev p rep (by omega)
  have hlen : (fsRes p rep l).1.length ≤ 1048576 := by
    have := foldS_len p 0 l [] 0 (by simp)
    unfold fsRes; split <;> simp; omega
  refine Ev.fuel ?_
  simp only [laws_FnFolds.j3]
  refine Ev.bind d (Ev.bind i1 (Ev.bind s1 (Ev.bind i2 (Ev.bind s2 ?_))))
  simp only [bne_self_eq_false, Bool.false_eq_true, ↓reduceIte]
  refine Ev.bind (pSameNotes_ev _ hlen) ?_
  simp only [↓reduceIte]
  by_cases hg : goodIns p rep = true ∧ goodScore l = true
  · have e1 : fsRes p rep l = ((foldS p 0 l [] 0).1, (foldS p 0 l [] 0).2, true) := by unfold fsRes; rw [if_pos hg]
    have e2 : bfRes p rep l = ((bfAt p l).1, (bfAt p l).2, true) := by unfold bfRes; rw [if_pos hg]
    have e3 : clRes p rep = (putAll [] (classOf p), true) := by unfold clRes; rw [if_pos hg.1]
    rw [e1, e2]
    rw [e3] at i3 s3
    simp only [bne_self_eq_false]
    obtain ⟨q1, q2, q3⟩ := foldS_facts p (goodIns_lt hg.1) (fun x hx => (goodIns_all hg.1 x hx).1) l [] 0 nil_good (by simp)
    have h30 := goodScore_len q1
    obtain ⟨v1, v2, v3⟩ := bfAt_low p l
    have hout : outOf p l 0 = (foldS p 0 l [] 0).2 := rfl
    have hput : (putAll [] (classOf p)).length ≤ 1048576 := by
      have := putAll_len (classOf p) []
      have h5 : (classOf p).length = p.length := by simp [classOf]
      simp only [List.length_nil, Nat.zero_add] at this
      omega
    refine Ev.fuel ?_
    simp only [laws_FnFolds.j4, Bool.false_eq_true, ↓reduceIte]
    refine Ev.bind (missing_ev p rep _ (by omega) hg.1 q1 q2) (Ev.bind i3 (Ev.bind s3 ?_))
    have e4 : wrap64 (((foldS p 0 l [] 0).1.length : Int) + (foldS p 0 l [] 0).2) = (l.length : Int) := by
      rw [q3, List.length_nil, w_id (by omega) (by omega)]; omega
    simp only [↓reduceIte, List.length_nil, Int.natCast_zero, gt_iff_lt, Int.lt_irrefl, e4, show ¬ (foldS p 0 l [] 0).2 < (bfAt p l).2 from by omega, show ¬ (bfAt p l).1 < -11 from by omega, show ¬ 11 < (bfAt p l).1 from by omega]
    refine Ev.bind (IsScore_ev _ (by omega)) ?_
    simp only [q1, ↓reduceIte]
    refine Ev.bind (sameInts_ev _ hput) ?_
    simp only [Bool.not_true]
    refine Ev.fuel ?_
    simp only [laws_FnFolds.j5, Bool.false_eq_true, ↓reduceIte]
    refine ff_l1 _ _ h30 hput (fun x hx => ?_) (foldS p 0 l [] 0).1.length 0 (by omega)
    rw [mem_putAll]
    exact .inr (List.mem_map_of_mem (q2 x hx))
  · have e1 : fsRes p rep l = ([], 0, false) := by unfold fsRes; rw [if_neg hg]
    have e2 : bfRes p rep l = (0, 0, false) := by unfold bfRes; rw [if_neg hg]
    rw [e1, e2]
    simp only [bne_self_eq_false]
    refine Ev.fuel ?_
    simp only [laws_FnFolds.j4, Bool.false_eq_true, ↓reduceIte]
    exact Ev.now _
theorem ff_l0 {c : List Int} (hc : Bytes c) (p : List Int) (rep v : Int) (hp : p.length ≤ 60) (hg : goodIns p rep = true) (hv : 24 ≤ v ∧ v ≤ 96) : ∀ (suf pre : List Int), pre ++ suf = p →
    Ev (fun k => laws_FnFolds.l0 k c v (foldRes p rep v).2 (foldRes p rep v).1 (near 1 v p (-1)) (decide (∃ x ∈ pre, Int.tmod (x - v) 12 = 0)) p (p.length : Int) pre.length p rep) true := by
  have hlt := goodIns_lt hg
  have ha := goodIns_all hg
  have hlen := ((goodIns_iff p rep).1 hg).1
  have n1 : near 1 v p (-1) ∈ p ∧ ∀ x ∈ p, Bst v (near 1 v p (-1)) x := by
    rcases near_spec 1 v p hlt (fun x hx => (ha x hx).1) with ⟨_, h⟩ | ⟨h, _, h2⟩
    · exfalso
      cases p with
      | nil => simp at hlen
      | cons y ys => exact h y (by simp) (Int.tmod_one _)
    · exact ⟨h, fun x hx => h2 x hx (Int.tmod_one _)⟩
  have nr := ha _ n1.1
  have f1 : ((foldRes p rep v).2 = false ∧ ∀ x ∈ p, Int.tmod (x - v) 12 ≠ 0) ∨ ((foldRes p rep v).2 = true ∧ (foldRes p rep v).1 ∈ p ∧ Int.tmod ((foldRes p rep v).1 - v) 12 = 0 ∧ ∀ x ∈ p, Int.tmod (x - v) 12 = 0 → Bst v (foldRes p rep v).1 x) := by
    rcases near_spec 12 v p hlt (fun x hx => (ha x hx).1) with ⟨h1, h2⟩ | ⟨h1, h2, h3⟩
    · left
      have : foldRes p rep v = (0, false) := by unfold foldRes; rw [if_neg (by rintro ⟨_, _, h⟩; exact h h1)]
      rw [this]
      exact ⟨rfl, h2⟩
    · right
      have hne : near 12 v p (-1) ≠ -1 := by have := ha _ h1; omega
      have : foldRes p rep v = (near 12 v p (-1), true) := by unfold foldRes; rw [if_pos ⟨hg, hv, hne⟩]
      rw [this]
      exact ⟨rfl, h1, h2, h3⟩
  have hj3 := ff_j3 hc
  intro suf
  induction suf with
  | nil =>
    intro pre h
    rw [List.append_nil] at h
    subst h
    refine Ev.fuel ?_
    simp only [laws_FnFolds.l0, Int.lt_irrefl, ↓reduceIte]
    rcases f1 with ⟨h1, h2⟩ | ⟨h1, h2, h3, _⟩
    · have : decide (∃ x ∈ pre, Int.tmod (x - v) 12 = 0) = false := by
        apply decide_eq_false
        rintro ⟨x, hx, e⟩
        exact h2 x hx e
      simp only [this, h1, bne_self_eq_false, Bool.false_eq_true, ↓reduceIte]
      exact hj3
    · have : decide (∃ x ∈ pre, Int.tmod (x - v) 12 = 0) = true := decide_eq_true ⟨_, h2, h3⟩
      have fr := ha _ h2
      simp only [this, h1, bne_self_eq_false, Bool.false_eq_true, ↓reduceIte, w_id (x := (foldRes pre rep v).1 - v) (by omega) (by omega), h3]
      refine Ev.bind (pIn_ev pre _ (by omega)) ?_
      simp only [h2, decide_true, ↓reduceIte]
      exact hj3
  | cons x suf ih =>
    intro pre h
    have hl : p.length = pre.length + (suf.length + 1) := by rw [← h]; simp
    have c3 : rd p (pre.length : Int) = x := by rw [← h]; exact getD_mid _ _ _ _
    have hx : x ∈ p := by rw [← h]; simp
    have hxr := ha x hx
    have ih := ih (pre ++ [x]) (by rw [← h]; simp)
    have hnx := n1.2 x hx
    -- the rest of the round, once it is said whether an equal class has been found
    have J : ∀ b : Bool, b = decide (∃ y ∈ pre ++ [x], Int.tmod (y - v) 12 = 0) → Ev (fun k => laws_FnFolds.j2 k c v (foldRes p rep v).2 (foldRes p rep v).1 (near 1 v p (-1)) b x ((Int.tmod (x - v) 12) == 0) p (p.length : Int) pre.length p rep) true := by
      intro b hb
      subst hb
      have ih' : Ev (fun k => laws_FnFolds.l0 k c v (foldRes p rep v).2 (foldRes p rep v).1 (near 1 v p (-1)) (decide (∃ y ∈ pre ++ [x], Int.tmod (y - v) 12 = 0)) p (p.length : Int) ((pre.length + 1 : Nat) : Int) p rep) true := by simpa using ih
      refine Ev.fuel ?_
      simp only [laws_FnFolds.j2, w_id (x := x - v) (by omega) (by omega), w_id (x := near 1 v p (-1) - v) (by omega) (by omega), pAbs_eq (n := x - v) (by omega) (by omega), pAbs_eq (n := near 1 v p (-1) - v) (by omega) (by omega), Option.bind_some, wn pre.length (by omega)]
      unfold Bst at hnx
      have a1 : ¬ ab (x - v) < ab (near 1 v p (-1) - v) := by omega
      simp only [a1, ↓reduceIte]
      have tail : Ev (fun k => if (foldRes p rep v).2 = true then (if ((Int.tmod (x - v) 12) == 0) = true then ((laws_pAbs.f (wrap64 ((foldRes p rep v).1 - v))).bind fun t529 => (if ab (x - v) < t529 then (some false) else ((laws_pAbs.f (wrap64 ((foldRes p rep v).1 - v))).bind fun t531 => (if ab (x - v) = t531 then (if x < (foldRes p rep v).1 then (some false) else (laws_FnFolds.l0 k c v (foldRes p rep v).2 (foldRes p rep v).1 (near 1 v p (-1)) (decide (∃ y ∈ pre ++ [x], Int.tmod (y - v) 12 = 0)) p (p.length : Int) ((pre.length + 1 : Nat) : Int) p rep)) else (laws_FnFolds.l0 k c v (foldRes p rep v).2 (foldRes p rep v).1 (near 1 v p (-1)) (decide (∃ y ∈ pre ++ [x], Int.tmod (y - v) 12 = 0)) p (p.length : Int) ((pre.length + 1 : Nat) : Int) p rep))))) else (laws_FnFolds.l0 k c v (foldRes p rep v).2 (foldRes p rep v).1 (near 1 v p (-1)) (decide (∃ y ∈ pre ++ [x], Int.tmod (y - v) 12 = 0)) p (p.length : Int) ((pre.length + 1 : Nat) : Int) p rep)) else (laws_FnFolds.l0 k c v (foldRes p rep v).2 (foldRes p rep v).1 (near 1 v p (-1)) (decide (∃ y ∈ pre ++ [x], Int.tmod (y - v) 12 = 0)) p (p.length : Int) ((pre.length + 1 : Nat) : Int) p rep)) true := by
        rcases f1 with ⟨h1, h2⟩ | ⟨h1, h2, h3, h4⟩
        · simp only [h1, Bool.false_eq_true, ↓reduceIte]
          rw [h1] at ih'
          exact ih'
        · rw [h1] at ih' ⊢
          simp only [↓reduceIte]
          by_cases ht : Int.tmod (x - v) 12 = 0
          · have hb := h4 x hx ht
            have fr := ha _ h2
            unfold Bst at hb
            have b1 : ¬ ab (x - v) < ab ((foldRes p rep v).1 - v) := by omega
            simp only [ht, beq_self_eq_true, ↓reduceIte, w_id (x := (foldRes p rep v).1 - v) (by omega) (by omega), pAbs_eq (n := x - v) (by omega) (by omega), pAbs_eq (n := (foldRes p rep v).1 - v) (by omega) (by omega), Option.bind_some, b1]
            by_cases hq : ab (x - v) = ab ((foldRes p rep v).1 - v)
            · have b2 : ¬ x < (foldRes p rep v).1 := by omega
              simp only [if_pos hq, if_neg b2]
              exact ih'
            · simp only [if_neg hq]
              exact ih'
          · have : (Int.tmod (x - v) 12 == 0) = false := by simpa using ht
            simp only [this, Bool.false_eq_true, ↓reduceIte]
            exact ih'
      by_cases hq : ab (x - v) = ab (near 1 v p (-1) - v)
      · have b2 : ¬ x < near 1 v p (-1) := by omega
        simp only [if_pos hq, if_neg b2]
        exact tail
      · simp only [if_neg hq]
        exact tail
    refine Ev.fuel ?_
    simp only [laws_FnFolds.l0, show (pre.length : Int) < (p.length : Int) from by omega, show (0 : Int) ≤ (pre.length : Int) from by omega, c3, ↓reduceIte, w_id (x := x - v) (by omega) (by omega)]
    by_cases hf : ∃ y ∈ pre, Int.tmod (y - v) 12 = 0
    · simp only [decide_eq_true hf, ↓reduceIte]
      refine J true ?_
      obtain ⟨y, hy, e⟩ := hf
      exact (decide_eq_true ⟨y, by simp [hy], e⟩).symm
    · simp only [decide_eq_false hf, Bool.false_eq_true, ↓reduceIte]
      refine J _ ?_
      by_cases ht : Int.tmod (x - v) 12 = 0
      · rw [decide_eq_true ⟨x, by simp, ht⟩]
        simp [ht]
      · rw [decide_eq_false]
        · simpa using ht
        · rintro ⟨y, hy, e⟩
          simp only [List.mem_append, List.mem_singleton] at hy
          rcases hy with hy | rfl
          · exact hf ⟨y, hy, e⟩
          · exact ht e
theorem ff_ev (l0 l1 : List Int) (h0 : l0.length ≤ 9223372036854775807) (w0 : ∀ x ∈ l0, (Lit.int .u8 x).wf = true) (h1 : l1.length ≤ 9223372036854775807) (w1 : ∀ x ∈ l1, (Lit.int .u8 x).wf = true) : Ev (fun k => laws_FnFolds.f k l0 l1) true := by
  have byte : ∀ x : Int, (Lit.int .u8 x).wf = true → 0 ≤ x ∧ x ≤ 255 := by
    intro x hx
    simp [Lit.wf] at hx
    have h1 : IntKind.u8.min = 0 := by decide
    have h2 : IntKind.u8.max = 255 := by decide
    omega
  unfold laws_FnFolds.f laws_big.f
  by_cases g0 : (l0.length : Int) > 1048576
  · simp only [g0, ↓reduceIte, Option.bind_some]; exact Ev.now _
  · rw [w_id (x := 1048576 - (l0.length : Int)) (by omega) (by omega)]
    by_cases g1 : (l1.length : Int) > 1048576 - (l0.length : Int)
    · simp only [g0, g1, ↓reduceIte, Option.bind_some, decide_true]; exact Ev.now _
    · simp only [g0, g1, ↓reduceIte, Option.bind_some, decide_false, Bool.false_eq_true]
      have hc0 : Bytes l0 := ⟨by omega, fun x hx => byte x (w0 x hx)⟩
      have hc1 : Bytes l1 := ⟨by omega, fun x hx => byte x (w1 x hx)⟩
      obtain ⟨p, rep, v, d, hp, hvr⟩ := DrawFoldPitch_ev hc0
      obtain ⟨i1, s1⟩ := foldBoth_ev p rep v (by omega)
      obtain ⟨i2, s2⟩ := nearBoth_ev p rep v (by omega)
      refine Ev.bind d (Ev.bind i1 (Ev.bind s1 (Ev.bind i2 (Ev.bind s2 ?_))))
      simp only [bne_self_eq_false, Bool.false_eq_true, ↓reduceIte]
      by_cases hg : goodIns p rep = true ∧ (24 ≤ v ∧ v ≤ 96)
      · have e2 : nearRes p rep v = (near 1 v p (-1), true) := by unfold nearRes; rw [if_pos hg]
        rw [e2]
        simp only [Bool.not_true, ite_self]
        have hn : near 1 v p (-1) ∈ p := by
          rcases near_spec 1 v p (goodIns_lt hg.1) (fun x hx => (goodIns_all hg.1 x hx).1) with ⟨_, h⟩ | ⟨h, _⟩
          · exfalso
            have hlen := ((goodIns_iff p rep).1 hg.1).1
            cases p with
            | nil => simp at hlen
            | cons y ys => exact h y (by simp) (Int.tmod_one _)
          · exact h
        refine Ev.fuel ?_
        simp only [laws_FnFolds.j0, Bool.false_eq_true, ↓reduceIte]
        refine Ev.bind (pIn_ev p _ (by omega)) ?_
        simp only [hn, decide_true, ↓reduceIte]
        have := ff_l0 hc1 p rep v hp hg.1 hg.2 p [] rfl
        simpa using this
      · have e1 : foldRes p rep v = (0, false) := by unfold foldRes; rw [if_neg (fun h => hg ⟨h.1, h.2.1⟩)]
        have e2 : nearRes p rep v = (0, false) := by unfold nearRes; rw [if_neg hg]
        rw [e1, e2]
        simp only [Bool.false_eq_true, ↓reduceIte]
        refine Ev.fuel ?_
        simp only [laws_FnFolds.j0, Bool.false_eq_true, ↓reduceIte]
        exact ff_j3 hc1
end Go.Proofs.YtlhhjdlaljmppaaGreat.T
end
