/- Plain facts on instruments: which are valid, where a pitch stands, the nearest and the folded pitch. No condition. -/
import Derived.Test.YtlhhjdlaljmppaaT0
import Derived.Test.YtlhhjdlaljmppaaT4
import Derived.Test.YtlhhjdlaljmppaaT5
import Derived.Test.YtlhhjdlaljmppaaTQB
set_option linter.unusedVariables false
set_option linter.unusedSimpArgs false
namespace Go.Proofs.Ytlhhjdlaljmppaa.T
open Go.RowKit Go.Proofs.YtlhhjdlaljmppaaW.PrintWords Go.Proofs.YtlhhjdlaljmppaaW.PrintLast Go.Proofs.YtlhhjdlaljmppaaW.PrintMore

theorem l1In_eq (a b c : Int) : spec_l1In.f a b c = some (decide (b ≤ a ∧ a ≤ c)) := by
  unfold spec_l1In.f
  by_cases h : a ≥ b
  · rw [if_pos h]; exact dec_eq (by omega)
  · rw [if_neg h]; exact dec_f (by omega)
theorem ntPitch_eq (a : Int) : spec_ntPitch.f a = some (decide (24 ≤ a ∧ a ≤ 96)) := by unfold spec_ntPitch.f; rw [l1In_eq]; rfl
theorem isPitch_eq (a : Int) : impl_isPitch.f a = some (decide (24 ≤ a ∧ a ≤ 96)) := by
  unfold impl_isPitch.f
  split <;> (first | exact dec_eq (by omega) | exact dec_f (by omega))
def risFrom (lo hi : Int) : Option Int → List Int → Bool
  | _, [] => true
  | none, x :: xs => decide (lo ≤ x ∧ x ≤ hi) && risFrom lo hi (some x) xs
  | some y, x :: xs => decide (lo ≤ x ∧ x ≤ hi) && (decide (y < x) && risFrom lo hi (some x) xs)
theorem rising_l0 (l : List Int) (lo hi : Int) (hl : l.length ≤ 1048576) : ∀ (suf pre : List Int), pre ++ suf = l →
    Ev (fun k => spec_l1Rising.l0 k l lo hi l l.length pre.length) (risFrom lo hi pre.getLast? suf) := by
  intro suf
  induction suf with
  | nil =>
    intro pre h
    have hn : ¬ ((pre.length : Int) < (l.length : Int)) := by rw [← h]; simp
    refine Ev.fuel ?_
    simp only [spec_l1Rising.l0, hn, ↓reduceIte]
    refine Ev.const ?_
    cases pre.getLast? <;> rfl
  | cons x suf ih =>
    intro pre h
    have hlen : l.length = pre.length + (suf.length + 1) := by rw [← h]; simp
    have h1 : (pre.length : Int) < (l.length : Int) := by omega
    have h2 : (0 : Int) ≤ (pre.length : Int) := by omega
    have h3 : rd l (pre.length : Int) = x := by rw [← h]; exact getD_mid _ _ _ _
    have e' : Ev (fun k => spec_l1Rising.l0 k l lo hi l l.length ((pre.length + 1 : Nat) : Int)) (risFrom lo hi (some x) suf) := by simpa using ih (pre ++ [x]) (by rw [← h]; simp)
    refine Ev.fuel ?_
    simp only [spec_l1Rising.l0, h1, h2, h3, ↓reduceIte, l1In_eq, Option.bind_some, decide_eq_true_eq, wn pre.length (by omega)]
    by_cases hx : lo ≤ x ∧ x ≤ hi
    · simp only [hx, and_self, ↓reduceIte]
      rcases nil_or_snoc pre with rfl | ⟨pre', y, rfl⟩
      · simp only [List.length_nil, Int.natCast_zero, Int.lt_irrefl, gt_iff_lt, ↓reduceIte, List.getLast?_nil, risFrom, hx, and_self, decide_true, Bool.true_and]
        exact e'
      · have hc : (pre' ++ [y]).length = pre'.length + 1 := by simp
        have g1 : ((pre' ++ [y]).length : Int) > 0 := by omega
        have g2 : wrap64 (((pre' ++ [y]).length : Int) - 1) = (pre'.length : Int) := by rw [w_id (by omega) (by omega)]; omega
        have g3 : (0 : Int) ≤ (pre'.length : Int) := by omega
        have g4 : (pre'.length : Int) < (l.length : Int) := by omega
        have g5 : rd l (pre'.length : Int) = y := by rw [← h, List.append_assoc]; exact getD_mid _ _ _ _
        have gl : (pre' ++ [y]).getLast? = some y := by simp
        rw [gl]
        simp only [g1, g2, g3, g4, g5, ↓reduceIte, risFrom, hx, and_self, decide_true, Bool.true_and]
        by_cases hy : y < x
        · simp only [hy, show ¬ y ≥ x from by omega, ↓reduceIte, decide_true, Bool.true_and]; exact e'
        · simp only [hy, show y ≥ x from by omega, ↓reduceIte, decide_false, Bool.false_and]; exact Ev.now _
    · simp only [hx, ↓reduceIte]
      refine Ev.const ?_
      cases pre.getLast? <;> simp only [risFrom, hx, decide_false, Bool.false_and]
theorem rising_ev (l : List Int) (lo hi : Int) (hl : l.length ≤ 1048576) : Ev (fun k => spec_l1Rising.f k l lo hi) (risFrom lo hi none l) := by
  unfold spec_l1Rising.f
  exact rising_l0 l lo hi hl l [] rfl
def goodIns (l : List Int) (r : Int) : Bool := decide (1 ≤ l.length ∧ l.length ≤ 20) && (risFrom 24 96 none l && decide (1 ≤ r ∧ r ≤ 20))
theorem inGood_ev (l : List Int) (r : Int) (hl : l.length ≤ 1048576) : Ev (fun k => spec_inGood.f k l r) (goodIns l r) := by
  unfold spec_inGood.f goodIns
  simp only [l1In_eq, Option.bind_some, decide_eq_true_eq]
  by_cases h : (1 : Int) ≤ (l.length : Int) ∧ (l.length : Int) ≤ 20
  · have h' : 1 ≤ l.length ∧ l.length ≤ 20 := by omega
    simp only [h, h', and_self, ↓reduceIte, decide_true, Bool.true_and]
    refine Ev.bind (rising_ev l 24 96 hl) ?_
    by_cases hr : risFrom 24 96 none l = true
    · simp only [hr, ↓reduceIte, Bool.true_and]; exact Ev.now _
    · simp only [hr, ↓reduceIte, Bool.false_eq_true, Bool.false_and]; exact Ev.now _
  · have h' : ¬ (1 ≤ l.length ∧ l.length ≤ 20) := by omega
    simp only [h, h', ↓reduceIte, decide_false, Bool.false_and]; exact Ev.now _
theorem IsInstrument_l0 (l : List Int) (r : Int) (hl : l.length ≤ 1048576) : ∀ (suf pre : List Int), pre ++ suf = l →
    Ev (fun k => impl_IsInstrument.l0 k l l.length pre.length l r) (risFrom 24 96 pre.getLast? suf) := by
  intro suf
  induction suf with
  | nil =>
    intro pre h
    have hn : ¬ ((pre.length : Int) < (l.length : Int)) := by rw [← h]; simp
    refine Ev.fuel ?_
    simp only [impl_IsInstrument.l0, hn, ↓reduceIte]
    refine Ev.const ?_
    cases pre.getLast? <;> rfl
  | cons x suf ih =>
    intro pre h
    have hlen : l.length = pre.length + (suf.length + 1) := by rw [← h]; simp
    have h1 : (pre.length : Int) < (l.length : Int) := by omega
    have h2 : (0 : Int) ≤ (pre.length : Int) := by omega
    have h3 : rd l (pre.length : Int) = x := by rw [← h]; exact getD_mid _ _ _ _
    have e' : Ev (fun k => impl_IsInstrument.l0 k l l.length ((pre.length + 1 : Nat) : Int) l r) (risFrom 24 96 (some x) suf) := by simpa using ih (pre ++ [x]) (by rw [← h]; simp)
    refine Ev.fuel ?_
    simp only [impl_IsInstrument.l0, h1, h2, h3, ↓reduceIte, isPitch_eq, Option.bind_some, decide_eq_true_eq, wn pre.length (by omega)]
    by_cases hx : 24 ≤ x ∧ x ≤ 96
    · simp only [hx, and_self, ↓reduceIte]
      rcases nil_or_snoc pre with rfl | ⟨pre', y, rfl⟩
      · simp only [List.length_nil, Int.natCast_zero, Int.lt_irrefl, gt_iff_lt, ↓reduceIte, List.getLast?_nil, risFrom, hx, and_self, decide_true, Bool.true_and]
        exact e'
      · have hc : (pre' ++ [y]).length = pre'.length + 1 := by simp
        have g1 : ((pre' ++ [y]).length : Int) > 0 := by omega
        have g2 : wrap64 (((pre' ++ [y]).length : Int) - 1) = (pre'.length : Int) := by rw [w_id (by omega) (by omega)]; omega
        have g3 : (0 : Int) ≤ (pre'.length : Int) := by omega
        have g4 : (pre'.length : Int) < (l.length : Int) := by omega
        have g5 : rd l (pre'.length : Int) = y := by rw [← h, List.append_assoc]; exact getD_mid _ _ _ _
        have gl : (pre' ++ [y]).getLast? = some y := by simp
        rw [gl]
        simp only [g1, g2, g3, g4, g5, ↓reduceIte, risFrom, hx, and_self, decide_true, Bool.true_and]
        by_cases hy : y < x
        · simp only [hy, show ¬ x ≤ y from by omega, ↓reduceIte, decide_true, Bool.true_and]; exact e'
        · simp only [hy, show x ≤ y from by omega, ↓reduceIte, decide_false, Bool.false_and]; exact Ev.now _
    · simp only [hx, ↓reduceIte]
      refine Ev.const ?_
      cases pre.getLast? <;> simp only [risFrom, hx, decide_false, Bool.false_and]
theorem IsInstrument_ev (l : List Int) (r : Int) (hl : l.length ≤ 1048576) : Ev (fun k => impl_IsInstrument.f k l r) (goodIns l r) := by
  have jT : Ev (fun k => impl_IsInstrument.j0 k true l r) false := by
    refine Ev.fuel ?_; simp only [impl_IsInstrument.j0, ↓reduceIte]; exact Ev.now _
  unfold impl_IsInstrument.f goodIns
  by_cases h1 : (l.length : Int) < 1
  · simp only [h1, ↓reduceIte, show ¬ (1 ≤ l.length ∧ l.length ≤ 20) from by omega, decide_false, Bool.false_and]; exact jT
  · by_cases h2 : (l.length : Int) > 20
    · simp only [h1, h2, ↓reduceIte, show ¬ (1 ≤ l.length ∧ l.length ≤ 20) from by omega, decide_false, Bool.false_and]; exact jT
    · by_cases h3 : r < 1
      · simp only [h1, h2, h3, ↓reduceIte, show ¬ (1 ≤ r ∧ r ≤ 20) from by omega, decide_false, Bool.and_false]; exact jT
      · by_cases h4 : r > 20
        · simp only [h1, h2, h3, h4, ↓reduceIte, show ¬ (1 ≤ r ∧ r ≤ 20) from by omega, decide_false, decide_true, Bool.and_false]; exact jT
        · simp only [h1, h2, h3, h4, ↓reduceIte, show (1 ≤ r ∧ r ≤ 20) from by omega, show (1 ≤ l.length ∧ l.length ≤ 20) from by omega, and_self, decide_true, decide_false, Bool.and_true, Bool.true_and]
          refine Ev.fuel ?_
          simp only [impl_IsInstrument.j0, Bool.false_eq_true, ↓reduceIte]
          exact IsInstrument_l0 l r hl l [] rfl
theorem risFrom_all (lo hi : Int) : ∀ (l : List Int) (p : Option Int), risFrom lo hi p l = true → ∀ x ∈ l, lo ≤ x ∧ x ≤ hi := by
  intro l
  induction l with
  | nil => intro p _ x hx; simp at hx
  | cons y l ih =>
    intro p h x hx
    have h' : (lo ≤ y ∧ y ≤ hi) ∧ risFrom lo hi (some y) l = true := by
      cases p <;> simp only [risFrom, Bool.and_eq_true, decide_eq_true_eq] at h
      · exact h
      · exact ⟨h.1, h.2.2⟩
    rcases List.mem_cons.1 hx with rfl | hx
    · exact h'.1
    · exact ih _ h'.2 x hx
theorem goodIns_iff (l : List Int) (r : Int) : goodIns l r = true ↔ (1 ≤ l.length ∧ l.length ≤ 20) ∧ risFrom 24 96 none l = true ∧ 1 ≤ r ∧ r ≤ 20 := by
  simp only [goodIns, Bool.and_eq_true, decide_eq_true_eq]
theorem goodIns_all {l : List Int} {r : Int} (h : goodIns l r = true) : ∀ x ∈ l, 24 ≤ x ∧ x ≤ 96 := risFrom_all 24 96 l _ ((goodIns_iff l r).1 h).2.1

/-! where a number stands -/
def idxFrom (v : Int) : List Int → Int → Int
  | [], _ => -1
  | x :: xs, i => if x = v then i else idxFrom v xs (i + 1)
theorem idxFrom_neg (v : Int) : ∀ (l : List Int) (i : Int), 0 ≤ i → (idxFrom v l i < 0 ↔ v ∉ l) := by
  intro l
  induction l with
  | nil => intro i h; simp [idxFrom]
  | cons x xs ih =>
    intro i h
    simp only [idxFrom, List.mem_cons, not_or]
    by_cases hx : x = v
    · subst hx; simp; omega
    · rw [if_neg hx, ih (i + 1) (by omega)]
      exact ⟨fun q => ⟨fun e => hx e.symm, q⟩, fun q => q.2⟩
theorem idxFrom_ge (v : Int) : ∀ (l : List Int) (i : Int), 0 ≤ i → -1 ≤ idxFrom v l i ∧ idxFrom v l i < i + l.length ∨ idxFrom v l i = -1 := by
  intro l
  induction l with
  | nil => intro i h; simp [idxFrom]
  | cons x xs ih =>
    intro i h
    simp only [idxFrom, List.length_cons]
    split
    · left; omega
    · have := ih (i + 1) (by omega)
      omega
theorem Index_l0 (l : List Int) (v : Int) (hl : l.length ≤ 1048576) : ∀ (suf pre : List Int), pre ++ suf = l →
    Ev (fun k => slices_Index_int_int.l0 k l v l.length pre.length) (idxFrom v suf pre.length) := by
  intro suf
  induction suf with
  | nil =>
    intro pre h
    have hn : ¬ ((pre.length : Int) < (l.length : Int)) := by rw [← h]; simp
    refine Ev.fuel ?_
    simp only [slices_Index_int_int.l0, hn, ↓reduceIte, idxFrom]
    exact Ev.now _
  | cons x suf ih =>
    intro pre h
    have hlen : l.length = pre.length + (suf.length + 1) := by rw [← h]; simp
    have h1 : (pre.length : Int) < (l.length : Int) := by omega
    have h2 : (0 : Int) ≤ (pre.length : Int) := by omega
    have h3 : rd l (pre.length : Int) = x := by rw [← h]; exact getD_mid _ _ _ _
    refine Ev.fuel ?_
    by_cases hx : x = v
    · subst hx
      simp only [slices_Index_int_int.l0, h1, h2, h3, ↓reduceIte, idxFrom]; exact Ev.now _
    · have hx' : ¬ v = x := fun e => hx e.symm
      simp only [slices_Index_int_int.l0, h1, h2, h3, ↓reduceIte, idxFrom, hx, hx', wn pre.length (by omega)]
      simpa using ih (pre ++ [x]) (by rw [← h]; simp)
theorem Index_ev (l : List Int) (v : Int) (hl : l.length ≤ 1048576) : Ev (fun k => slices_Index_int_int.f k l v) (idxFrom v l 0) := by
  unfold slices_Index_int_int.f
  exact Index_l0 l v hl l [] rfl
theorem Contains_ev (l : List Int) (v : Int) (hl : l.length ≤ 1048576) : Ev (fun k => slices_Contains_int_int.f k l v) (decide (v ∈ l)) := by
  unfold slices_Contains_int_int.f
  refine Ev.bind (Index_ev l v hl) (Ev.const ?_)
  have := idxFrom_neg v l 0 (by omega)
  exact dec_eq ⟨fun h => by by_cases q : v ∈ l; exact q; exact absurd (this.2 q) (by omega), fun h => by by_cases q : idxFrom v l 0 < 0; exact absurd h (this.1 q); omega⟩
theorem inTrack_l0 (l : List Int) (v : Int) (hl : l.length ≤ 1048576) : ∀ (suf pre : List Int), pre ++ suf = l →
    Ev (fun k => spec_inTrack.l0 k v l l.length pre.length) (idxFrom v suf pre.length) := by
  intro suf
  induction suf with
  | nil =>
    intro pre h
    have hn : ¬ ((pre.length : Int) < (l.length : Int)) := by rw [← h]; simp
    refine Ev.fuel ?_
    simp only [spec_inTrack.l0, hn, ↓reduceIte, idxFrom]
    exact Ev.now _
  | cons x suf ih =>
    intro pre h
    have hlen : l.length = pre.length + (suf.length + 1) := by rw [← h]; simp
    have h1 : (pre.length : Int) < (l.length : Int) := by omega
    have h2 : (0 : Int) ≤ (pre.length : Int) := by omega
    have h3 : rd l (pre.length : Int) = x := by rw [← h]; exact getD_mid _ _ _ _
    refine Ev.fuel ?_
    by_cases hx : x = v
    · simp only [spec_inTrack.l0, h1, h2, h3, ↓reduceIte, idxFrom, hx]; exact Ev.now _
    · simp only [spec_inTrack.l0, h1, h2, h3, ↓reduceIte, idxFrom, hx, wn pre.length (by omega)]
      simpa using ih (pre ++ [x]) (by rw [← h]; simp)
theorem inTrack_ev (l : List Int) (r v : Int) (hl : l.length ≤ 1048576) : Ev (fun k => spec_inTrack.f k l r v) (idxFrom v l 0) := by
  unfold spec_inTrack.f
  exact inTrack_l0 l v hl l [] rfl
end Go.Proofs.Ytlhhjdlaljmppaa.T
