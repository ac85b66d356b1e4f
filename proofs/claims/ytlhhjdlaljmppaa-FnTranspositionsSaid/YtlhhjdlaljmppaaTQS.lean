/- Plain facts on scores: which notes are a score, for the reference and for the program. No condition. -/
import Derived.Test.YtlhhjdlaljmppaaT0
import Derived.Test.YtlhhjdlaljmppaaT3
import Derived.Test.YtlhhjdlaljmppaaT4
import Derived.Test.YtlhhjdlaljmppaaT5
import Derived.Test.YtlhhjdlaljmppaaTQI
set_option linter.unusedVariables false
set_option linter.unusedSimpArgs false
namespace Go.Proofs.Ytlhhjdlaljmppaa.T
open Go.RowKit Go.Proofs.YtlhhjdlaljmppaaW.PrintWords Go.Proofs.YtlhhjdlaljmppaaW.PrintLast Go.Proofs.YtlhhjdlaljmppaaW.PrintMore

def noteB (x : S60) : Bool := decide (24 ≤ x.f0 ∧ x.f0 ≤ 96 ∧ 0 ≤ x.f1 ∧ x.f1 ≤ 999 ∧ 1 ≤ x.f2 ∧ x.f2 ≤ 99)
def noteLt (a b : S60) : Bool := decide (a.f1 < b.f1 ∨ a.f1 = b.f1 ∧ a.f0 < b.f0)
def meetB (a b : S60) : Bool := decide (a.f0 = b.f0 ∧ a.f1 < b.f1 + b.f2 ∧ b.f1 < a.f1 + a.f2)
def meetI (x y : S60) : Bool := decide (y.f0 = x.f0 ∧ y.f1 + y.f2 > x.f1)
theorem noteB_iff (x : S60) : noteB x = true ↔ (24 ≤ x.f0 ∧ x.f0 ≤ 96 ∧ 0 ≤ x.f1 ∧ x.f1 ≤ 999 ∧ 1 ≤ x.f2 ∧ x.f2 ≤ 99) := by simp [noteB]
theorem noteLt_iff (a b : S60) : noteLt a b = true ↔ (a.f1 < b.f1 ∨ a.f1 = b.f1 ∧ a.f0 < b.f0) := by simp [noteLt]
theorem ntNote_eq (x : S60) : spec_ntNote.f x.f0 x.f1 x.f2 = some (noteB x) := by
  unfold spec_ntNote.f noteB
  simp only [ntPitch_eq, l1In_eq, Option.bind_some, decide_eq_true_eq]
  (repeat' split) <;> (first | exact dec_eq (by omega) | exact dec_f (by omega))
theorem IsNote_eq (x : S60) : impl_IsNote.f x.f0 x.f1 x.f2 = some (noteB x) := by
  unfold impl_IsNote.f noteB
  (repeat' split) <;> (first | exact dec_eq (by omega) | exact dec_f (by omega))
theorem ntBefore_eq (a b : S60) : spec_ntBefore.f a.f0 a.f1 a.f2 b.f0 b.f1 b.f2 = some (noteLt a b) := by
  unfold spec_ntBefore.f noteLt
  (repeat' split) <;> (first | exact dec_eq (by omega) | exact dec_f (by omega) | exact dec_t (by omega))
theorem noteLess_eq (a b : S60) : impl_noteLess.f a.f0 a.f1 a.f2 b.f0 b.f1 b.f2 = some (noteLt a b) := by
  unfold impl_noteLess.f noteLt
  (repeat' split) <;> (first | exact dec_eq (by omega) | exact dec_f (by omega) | exact dec_t (by omega))
theorem ntMeet_eq {a b : S60} (ha : noteB a = true) (hb : noteB b = true) : spec_ntMeet.f a.f0 a.f1 a.f2 b.f0 b.f1 b.f2 = some (meetB a b) := by
  have h1 := (noteB_iff a).1 ha
  have h2 := (noteB_iff b).1 hb
  unfold spec_ntMeet.f meetB
  rw [w_id (x := b.f1 + b.f2) (by omega) (by omega), w_id (x := a.f1 + a.f2) (by omega) (by omega)]
  (repeat' split) <;> (first | exact dec_eq (by omega) | exact dec_f (by omega) | exact dec_t (by omega))
theorem noteEnd_eq {y : S60} (hy : noteB y = true) : impl_noteEnd.f y.f0 y.f1 y.f2 = some (y.f1 + y.f2) := by
  have h2 := (noteB_iff y).1 hy
  unfold impl_noteEnd.f
  rw [w_id (by omega) (by omega)]

/-- Behind these notes, are the next ones a score? -/
def scoreFrom (m : S60 → S60 → Bool) : List S60 → List S60 → Bool
  | _, [] => true
  | pre, x :: xs => noteB x && ((match pre.getLast? with | none => true | some y => noteLt y x) && (!(pre.any (m x)) && scoreFrom m (pre ++ [x]) xs))
def goodScore (l : List S60) : Bool := scoreFrom meetB [] l && decide (l.length ≤ 30)

/-- Notes, each no later than the last one. -/
def InOrder (pre : List S60) : Prop := (∀ y ∈ pre, noteB y = true) ∧ ∀ z, pre.getLast? = some z → ∀ y ∈ pre, y.f1 ≤ z.f1
theorem InOrder.nil : InOrder [] := ⟨by simp, by simp⟩
theorem InOrder.snoc {pre : List S60} (h : InOrder pre) {x : S60} (hx : noteB x = true) (hl : ∀ z, pre.getLast? = some z → noteLt z x = true) : InOrder (pre ++ [x]) := by
  refine ⟨fun y hy => ?_, fun z hz y hy => ?_⟩
  · rcases List.mem_append.1 hy with hy | hy
    · exact h.1 y hy
    · rw [List.mem_singleton.1 hy]; exact hx
  · have : z = x := by simpa using hz.symm
    subst this
    rcases List.mem_append.1 hy with hy | hy
    · rcases nil_or_snoc pre with rfl | ⟨p, q, rfl⟩
      · simp at hy
      · have h1 := h.2 q (by simp) y hy
        have h2 := (noteLt_iff q z).1 (hl q (by simp))
        omega
    · rw [List.mem_singleton.1 hy]; exact Int.le_refl _
theorem meet_same {pre : List S60} (h : InOrder pre) {x : S60} (hx : noteB x = true) (hl : ∀ z, pre.getLast? = some z → noteLt z x = true) : pre.any (meetI x) = pre.any (meetB x) := by
  rw [Bool.eq_iff_iff, List.any_eq_true, List.any_eq_true]
  refine ⟨fun ⟨y, hy, hm⟩ => ⟨y, hy, ?_⟩, fun ⟨y, hy, hm⟩ => ⟨y, hy, ?_⟩⟩
  · have h1 := (noteB_iff x).1 hx
    have h3 := (h.snoc hx hl).2 x (by simp) y (by simp [hy])
    simp only [meetI, meetB, decide_eq_true_eq] at hm ⊢
    omega
  · simp only [meetI, meetB, decide_eq_true_eq] at hm ⊢
    omega
theorem scoreFrom_same : ∀ (suf pre : List S60), InOrder pre → scoreFrom meetI pre suf = scoreFrom meetB pre suf := by
  intro suf
  induction suf with
  | nil => intro pre _; rfl
  | cons x xs ih =>
    intro pre h
    simp only [scoreFrom]
    by_cases hx : noteB x = true
    · by_cases hl : ∀ z, pre.getLast? = some z → noteLt z x = true
      · rw [meet_same h hx hl, ih _ (h.snoc hx hl)]
      · have : (match pre.getLast? with | none => true | some y => noteLt y x) = false := by
          cases hp : pre.getLast? with
          | none => exact absurd (fun z hz => by rw [hp] at hz; cases hz) hl
          | some z =>
            cases hq : noteLt z x with
            | false => exact hq
            | true => exact absurd (fun w hw => by rw [hp] at hw; cases hw; exact hq) hl
        rw [this]; simp
    · simp [Bool.eq_false_iff.mpr hx]

theorem ntGood_l1 (l : List S60) (hl : l.length ≤ 1048576) (x : S60) (hx : noteB x = true) (ni : Int) (p : List S60) (hp : ∀ y ∈ p, noteB y = true) (hpl : p.length ≤ 1048576) (r : Bool)
    (hr : Ev (fun k => spec_ntGood.l0 k l l l.length (wrap64 (ni + 1))) r) : ∀ (suf pre : List S60), pre ++ suf = p →
    Ev (fun k => spec_ntGood.l1 k l l l.length ni p p.length pre.length x.f0 x.f1 x.f2) (!(suf.any (meetB x)) && r) := by
  intro suf
  induction suf with
  | nil =>
    intro pre h
    have hn : ¬ ((pre.length : Int) < (p.length : Int)) := by rw [← h]; simp
    refine Ev.fuel ?_
    simp only [spec_ntGood.l1, hn, ↓reduceIte, List.any_nil, Bool.not_false, Bool.true_and]
    exact hr
  | cons y suf ih =>
    intro pre h
    have hlen : p.length = pre.length + (suf.length + 1) := by rw [← h]; simp
    have h1 : (pre.length : Int) < (p.length : Int) := by omega
    have h2 : (0 : Int) ≤ (pre.length : Int) := by omega
    have h3 : rd_T60 p (pre.length : Int) = y := by rw [← h]; exact getD_mid _ _ _ _
    have hy : noteB y = true := hp y (by rw [← h]; simp)
    refine Ev.fuel ?_
    simp only [spec_ntGood.l1, h1, h2, h3, ↓reduceIte, ntMeet_eq hx hy, Option.bind_some, wn pre.length (by omega), List.any_cons]
    by_cases hm : meetB x y = true
    · simp only [hm, ↓reduceIte, Bool.true_or, Bool.not_true, Bool.false_and]; exact Ev.now _
    · simp only [hm, ↓reduceIte, Bool.false_or, Bool.false_eq_true]
      simpa using ih (pre ++ [y]) (by rw [← h]; simp)
theorem ntGood_l0 (l : List S60) (hl : l.length ≤ 1048576) : ∀ (suf pre : List S60), pre ++ suf = l → (∀ y ∈ pre, noteB y = true) →
    Ev (fun k => spec_ntGood.l0 k l l l.length pre.length) (scoreFrom meetB pre suf && decide (l.length ≤ 30)) := by
  intro suf
  induction suf with
  | nil =>
    intro pre h _
    have hn : ¬ ((pre.length : Int) < (l.length : Int)) := by rw [← h]; simp
    refine Ev.fuel ?_
    simp only [spec_ntGood.l0, hn, ↓reduceIte, scoreFrom, Bool.true_and]
    exact Ev.const (dec_eq (by omega))
  | cons x suf ih =>
    intro pre h hpre
    have hlen : l.length = pre.length + (suf.length + 1) := by rw [← h]; simp
    have h1 : (pre.length : Int) < (l.length : Int) := by omega
    have h2 : (0 : Int) ≤ (pre.length : Int) := by omega
    have h3 : rd_T60 l (pre.length : Int) = x := by rw [← h]; exact getD_mid _ _ _ _
    have jT : Ev (fun k => spec_ntGood.j1 k l pre.length l l.length pre.length true x.f0 x.f1 x.f2) false := by
      refine Ev.fuel ?_; simp only [spec_ntGood.j1, ↓reduceIte]; exact Ev.now _
    refine Ev.fuel ?_
    simp only [spec_ntGood.l0, h1, h2, h3, ↓reduceIte, ntNote_eq, Option.bind_some, scoreFrom]
    by_cases hx : noteB x = true
    · have jF : Ev (fun k => spec_ntGood.j1 k l pre.length l l.length pre.length false x.f0 x.f1 x.f2) (!(pre.any (meetB x)) && (scoreFrom meetB (pre ++ [x]) suf && decide (l.length ≤ 30))) := by
        have c1 : (pre.length : Int) ≤ (l.length : Int) := by omega
        have tk : l.take ((pre.length : Int)).toNat = pre := by rw [← h]; simp
        refine Ev.fuel ?_
        simp only [spec_ntGood.j1, Bool.false_eq_true, ↓reduceIte, h2, c1, tk, Option.bind_some]
        have e := ih (pre ++ [x]) (by rw [← h]; simp) (fun y hy => by
          rcases List.mem_append.1 hy with hy | hy
          · exact hpre y hy
          · rw [List.mem_singleton.1 hy]; exact hx)
        refine ntGood_l1 l hl x hx _ pre hpre (by omega) _ ?_ pre [] rfl
        rw [wn pre.length (by omega)]
        simpa using e
      simp only [hx, ↓reduceIte, Bool.true_and]
      rcases nil_or_snoc pre with rfl | ⟨pre', y, rfl⟩
      · simp only [List.length_nil, Int.natCast_zero, Int.lt_irrefl, gt_iff_lt, ↓reduceIte, List.getLast?_nil, Bool.true_and]
        simpa using jF
      · have hc : (pre' ++ [y]).length = pre'.length + 1 := by simp
        have g1 : ((pre' ++ [y]).length : Int) > 0 := by omega
        have g2 : wrap64 (((pre' ++ [y]).length : Int) - 1) = (pre'.length : Int) := by rw [w_id (by omega) (by omega)]; omega
        have g3 : (0 : Int) ≤ (pre'.length : Int) := by omega
        have g4 : (pre'.length : Int) < (l.length : Int) := by omega
        have g5 : rd_T60 l (pre'.length : Int) = y := by rw [← h, List.append_assoc]; exact getD_mid _ _ _ _
        have gl : (pre' ++ [y]).getLast? = some y := by simp
        simp only [g1, g2, g3, g4, g5, gl, ↓reduceIte, ntBefore_eq, Option.bind_some]
        by_cases hy : noteLt y x = true
        · simp only [hy, Bool.not_true, Bool.true_and, Bool.and_assoc]; exact jF
        · simp only [Bool.eq_false_iff.mpr hy, Bool.not_false, Bool.false_and]; exact jT
    · simp only [Bool.eq_false_iff.mpr hx, Bool.false_eq_true, ↓reduceIte, Bool.false_and]; exact jT
theorem ntGood_ev (l : List S60) (hl : l.length ≤ 1048576) : Ev (fun k => spec_ntGood.f k l) (goodScore l) := by
  unfold spec_ntGood.f
  exact ntGood_l0 l hl l [] rfl (by simp)

theorem IsScore_l1 (l : List S60) (hl : l.length ≤ 1048576) (x : S60) (ni : Int) (p : List S60) (hp : ∀ y ∈ p, noteB y = true) (hpl : p.length ≤ 1048576) (r : Bool)
    (hr : Ev (fun k => impl_IsScore.l0 k l l l.length (wrap64 (ni + 1))) r) : ∀ (suf pre : List S60), pre ++ suf = p →
    Ev (fun k => impl_IsScore.l1 k l l l.length ni p p.length pre.length x.f0 x.f1 x.f2) (!(suf.any (meetI x)) && r) := by
  intro suf
  induction suf with
  | nil =>
    intro pre h
    have hn : ¬ ((pre.length : Int) < (p.length : Int)) := by rw [← h]; simp
    refine Ev.fuel ?_
    simp only [impl_IsScore.l1, hn, ↓reduceIte, List.any_nil, Bool.not_false, Bool.true_and]
    exact hr
  | cons y suf ih =>
    intro pre h
    have hlen : p.length = pre.length + (suf.length + 1) := by rw [← h]; simp
    have h1 : (pre.length : Int) < (p.length : Int) := by omega
    have h2 : (0 : Int) ≤ (pre.length : Int) := by omega
    have h3 : rd_T60 p (pre.length : Int) = y := by rw [← h]; exact getD_mid _ _ _ _
    have hy : noteB y = true := hp y (by rw [← h]; simp)
    have e : Ev (fun k => impl_IsScore.l1 k l l l.length ni p p.length ((pre.length + 1 : Nat) : Int) x.f0 x.f1 x.f2) (!(suf.any (meetI x)) && r) := by simpa using ih (pre ++ [y]) (by rw [← h]; simp)
    refine Ev.fuel ?_
    simp only [impl_IsScore.l1, h1, h2, h3, ↓reduceIte, noteEnd_eq hy, Option.bind_some, wn pre.length (by omega), List.any_cons]
    by_cases hm : y.f0 = x.f0
    · by_cases hq : y.f1 + y.f2 > x.f1
      · simp only [hm, hq, ↓reduceIte, show meetI x y = true from by simp only [meetI, decide_eq_true_eq]; omega, Bool.true_or, Bool.not_true, Bool.false_and]; exact Ev.now _
      · simp only [hm, hq, ↓reduceIte, show meetI x y = false from by simp only [meetI, decide_eq_false_iff_not]; omega, Bool.false_or]; exact e
    · simp only [hm, ↓reduceIte, show meetI x y = false from by simp only [meetI, decide_eq_false_iff_not]; omega, Bool.false_or]; exact e
theorem IsScore_l0 (l : List S60) (hl : l.length ≤ 1048576) : ∀ (suf pre : List S60), pre ++ suf = l → (∀ y ∈ pre, noteB y = true) →
    Ev (fun k => impl_IsScore.l0 k l l l.length pre.length) (scoreFrom meetI pre suf) := by
  intro suf
  induction suf with
  | nil =>
    intro pre h _
    have hn : ¬ ((pre.length : Int) < (l.length : Int)) := by rw [← h]; simp
    refine Ev.fuel ?_
    simp only [impl_IsScore.l0, hn, ↓reduceIte, scoreFrom]
    exact Ev.now _
  | cons x suf ih =>
    intro pre h hpre
    have hlen : l.length = pre.length + (suf.length + 1) := by rw [← h]; simp
    have h1 : (pre.length : Int) < (l.length : Int) := by omega
    have h2 : (0 : Int) ≤ (pre.length : Int) := by omega
    have h3 : rd_T60 l (pre.length : Int) = x := by rw [← h]; exact getD_mid _ _ _ _
    have jT : Ev (fun k => impl_IsScore.j1 k l pre.length l l.length pre.length true x.f0 x.f1 x.f2) false := by
      refine Ev.fuel ?_; simp only [impl_IsScore.j1, ↓reduceIte]; exact Ev.now _
    refine Ev.fuel ?_
    simp only [impl_IsScore.l0, h1, h2, h3, ↓reduceIte, IsNote_eq, Option.bind_some, scoreFrom]
    by_cases hx : noteB x = true
    · have jF : Ev (fun k => impl_IsScore.j1 k l pre.length l l.length pre.length false x.f0 x.f1 x.f2) (!(pre.any (meetI x)) && scoreFrom meetI (pre ++ [x]) suf) := by
        have c1 : (pre.length : Int) ≤ (l.length : Int) := by omega
        have tk : l.take ((pre.length : Int)).toNat = pre := by rw [← h]; simp
        refine Ev.fuel ?_
        simp only [impl_IsScore.j1, Bool.false_eq_true, ↓reduceIte, h2, c1, tk, Option.bind_some]
        have e := ih (pre ++ [x]) (by rw [← h]; simp) (fun y hy => by
          rcases List.mem_append.1 hy with hy | hy
          · exact hpre y hy
          · rw [List.mem_singleton.1 hy]; exact hx)
        refine IsScore_l1 l hl x _ pre hpre (by omega) _ ?_ pre [] rfl
        rw [wn pre.length (by omega)]
        simpa using e
      simp only [hx, ↓reduceIte, Bool.true_and]
      rcases nil_or_snoc pre with rfl | ⟨pre', y, rfl⟩
      · simp only [List.length_nil, Int.natCast_zero, Int.lt_irrefl, gt_iff_lt, ↓reduceIte, List.getLast?_nil, Bool.true_and]
        simpa using jF
      · have hc : (pre' ++ [y]).length = pre'.length + 1 := by simp
        have g1 : ((pre' ++ [y]).length : Int) > 0 := by omega
        have g2 : wrap64 (((pre' ++ [y]).length : Int) - 1) = (pre'.length : Int) := by rw [w_id (by omega) (by omega)]; omega
        have g3 : (0 : Int) ≤ (pre'.length : Int) := by omega
        have g4 : (pre'.length : Int) < (l.length : Int) := by omega
        have g5 : rd_T60 l (pre'.length : Int) = y := by rw [← h, List.append_assoc]; exact getD_mid _ _ _ _
        have gl : (pre' ++ [y]).getLast? = some y := by simp
        simp only [g1, g2, g3, g4, g5, gl, ↓reduceIte, noteLess_eq, Option.bind_some]
        by_cases hy : noteLt y x = true
        · simp only [hy, Bool.not_true, Bool.true_and]; exact jF
        · simp only [Bool.eq_false_iff.mpr hy, Bool.not_false, Bool.false_and]; exact jT
    · simp only [Bool.eq_false_iff.mpr hx, Bool.false_eq_true, ↓reduceIte, Bool.false_and]; exact jT
theorem IsScore_ev (l : List S60) (hl : l.length ≤ 1048576) : Ev (fun k => impl_IsScore.f k l) (goodScore l) := by
  unfold impl_IsScore.f goodScore
  by_cases h : (l.length : Int) > 30
  · simp only [h, ↓reduceIte, show ¬ l.length ≤ 30 from by omega, decide_false, Bool.and_false]; exact Ev.now _
  · simp only [h, ↓reduceIte, show l.length ≤ 30 from by omega, decide_true, Bool.and_true]
    rw [← scoreFrom_same l [] InOrder.nil]
    exact IsScore_l0 l hl l [] rfl (by simp)
theorem scoreFrom_all (m : S60 → S60 → Bool) : ∀ (l pre : List S60), scoreFrom m pre l = true → ∀ x ∈ l, noteB x = true := by
  intro l
  induction l with
  | nil => intro pre _ x hx; simp at hx
  | cons y l ih =>
    intro pre h x hx
    simp only [scoreFrom, Bool.and_eq_true] at h
    rcases List.mem_cons.1 hx with rfl | hx
    · exact h.1
    · exact ih _ h.2.2.2 x hx
theorem goodScore_all {l : List S60} (h : goodScore l = true) : ∀ x ∈ l, noteB x = true := by
  simp only [goodScore, Bool.and_eq_true] at h
  exact scoreFrom_all _ l _ h.1
theorem goodScore_len {l : List S60} (h : goodScore l = true) : l.length ≤ 30 := by
  simp only [goodScore, Bool.and_eq_true, decide_eq_true_eq] at h
  exact h.2
theorem inAsked_ev (l : List Int) (r : Int) (s : List S60) (hl : l.length ≤ 1048576) (hs : s.length ≤ 1048576) : Ev (fun k => spec_inAsked.f k l r s) (goodIns l r && goodScore s) := by
  unfold spec_inAsked.f
  refine Ev.bind (inGood_ev l r hl) ?_
  by_cases h : goodIns l r = true
  · simp only [h, ↓reduceIte, Bool.true_and]; exact Ev.bind (ntGood_ev s hs) (Ev.now _)
  · simp only [Bool.eq_false_iff.mpr h, Bool.false_eq_true, ↓reduceIte, Bool.false_and]; exact Ev.now _
end Go.Proofs.Ytlhhjdlaljmppaa.T
