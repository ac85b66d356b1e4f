/- Plain facts on pins: the next played pin, the tracks played, pairs of near pins, the greatest gap. No condition. -/
import Derived.Test.YtclapnindihhnaaG0
import Derived.Test.YtclapnindihhnaaG3
import Derived.Test.YtclapnindihhnaaG4
import Derived.Test.YtclapnindihhnaaG6
import Derived.Test.YtclapnindihhnaaG7
import Derived.Test.YtclapnindihhnaaG14
import Derived.Test.YtclapnindihhnaaQP
set_option linter.unusedVariables false
set_option linter.unusedSimpArgs false
namespace Go.Proofs.Ytclapnindihhnaa.G
open Go.RowKit Go.Proofs.YtclapnindihhnaaW.PrintWords Go.Proofs.YtclapnindihhnaaW.PrintLast Go.Proofs.YtclapnindihhnaaW.PrintMore

/-! ArePins itself -/
theorem areLaw_ev (l : List S50) (hl : l.length ≤ 1048576) : ∃ r, Ev (fun k => spec_ArePins.f k l) r ∧ Ev (fun k => impl_ArePins.f k l) r := by
  refine ⟨goodPins l, ?_, ArePins_ev l hl⟩
  unfold spec_ArePins.f
  exact Ev.bind (cyGood_ev l hl) (Ev.now _)

/-! NextPlayed -/
def wayOn (a : Int) (x : S50) : Int := Int.tmod (wrap64 (wrap64 (x.f1 - a) + 360)) 360
theorem wayOn_range {a : Int} {x : S50} (h0 : 0 ≤ a) (h1 : a ≤ 359) (hx : pinB x = true) : 0 ≤ wayOn a x ∧ wayOn a x < 360 := by
  have := (pinB_iff x).1 hx
  unfold wayOn
  rw [w_id (x := x.f1 - a) (by omega) (by omega), w_id (by omega) (by omega), Int.tmod_eq_emod_of_nonneg (by omega)]
  omega
def nextS (a : Int) : List S50 → Int → Int
  | [], b => b
  | x :: xs, b => nextS a xs (if b < 0 then wayOn a x else if wayOn a x < b then wayOn a x else b)
def nextI (a : Int) : List S50 → Int → Int
  | [], b => b
  | x :: xs, b => nextI a xs (mn b (wayOn a x))
theorem next_same (a : Int) : ∀ (l : List S50) (b m : Int), (∀ x ∈ l, 0 ≤ wayOn a x ∧ wayOn a x < 360) → (b < 0 ∧ m = 360 ∨ 0 ≤ b ∧ b < 360 ∧ m = b) →
    (nextS a l b < 0 ∧ nextI a l m = 360 ∨ 0 ≤ nextS a l b ∧ nextS a l b < 360 ∧ nextI a l m = nextS a l b) := by
  intro l
  induction l with
  | nil => intro b m _ h; exact h
  | cons x xs ih =>
    intro b m hx h
    have h0 := hx x (by simp)
    refine ih _ _ (fun y hy => hx y (by simp [hy])) ?_
    unfold mn
    rcases h with ⟨h1, rfl⟩ | ⟨h1, h2, rfl⟩
    · rw [if_pos h1, if_pos h0.2]; exact Or.inr ⟨h0.1, h0.2, rfl⟩
    · rw [if_neg (by omega)]
      split <;> exact Or.inr ⟨by omega, by omega, rfl⟩
theorem specNext_l0 (l : List S50) (s a : Int) (hl : l.length ≤ 1048576) : ∀ (suf pre : List S50) (b : Int), pre ++ suf = l →
    Ev (fun k => spec_NextPlayed.l0 k s a b l l.length pre.length) (if nextS a (tune suf s true) b < 0 then (0, false) else (nextS a (tune suf s true) b, true)) := by
  intro suf
  induction suf with
  | nil =>
    intro pre b h
    have hn : ¬ ((pre.length : Int) < (l.length : Int)) := by rw [← h]; simp
    refine Ev.fuel ?_
    simp only [spec_NextPlayed.l0, hn, ↓reduceIte, tune, List.filter_nil, nextS]
    split <;> exact Ev.now _
  | cons x suf ih =>
    intro pre b h
    have hlen : l.length = pre.length + (suf.length + 1) := by rw [← h]; simp
    have h1 : (pre.length : Int) < (l.length : Int) := by omega
    have h2 : (0 : Int) ≤ (pre.length : Int) := by omega
    have h3 : rd_T50 l (pre.length : Int) = x := by rw [← h]; exact getD_mid _ _ _ _
    have e : ∀ b, Ev (fun k => spec_NextPlayed.l0 k s a b l l.length ((pre.length + 1 : Nat) : Int)) (if nextS a (tune suf s true) b < 0 then (0, false) else (nextS a (tune suf s true) b, true)) := fun b => by
      simpa using ih (pre ++ [x]) b (by rw [← h]; simp)
    refine Ev.fuel ?_
    simp only [spec_NextPlayed.l0, h1, h2, h3, ↓reduceIte, wn pre.length (by omega)]
    by_cases hx : x.f2 = s
    · simp only [hx, ↓reduceIte]; rw [show tune (x :: suf) s true = x :: tune suf s true by simp [tune, hx]]
      by_cases hb : b < 0
      · simp only [nextS, hb, ↓reduceIte]; exact e _
      · by_cases hc : wayOn a x < b
        · have hc' := hc
          unfold wayOn at hc'
          simp only [nextS, hb, hc, hc', ↓reduceIte]; exact e _
        · have hc' := hc
          unfold wayOn at hc'
          simp only [nextS, hb, hc, hc', ↓reduceIte]; exact e _
    · simp only [hx, ↓reduceIte]; rw [show tune (x :: suf) s true = tune suf s true by simp [tune, hx]]
      exact e _
theorem implNext_l0 (l : List S50) (a : Int) (hl : l.length ≤ 1048576) : ∀ (suf pre : List S50) (b : Int), pre ++ suf = l →
    Ev (fun k => impl_NextPlayed.l0 k a b l l.length pre.length) (if nextI a suf b = 360 then (0, false) else (nextI a suf b, true)) := by
  intro suf
  induction suf with
  | nil =>
    intro pre b h
    have hn : ¬ ((pre.length : Int) < (l.length : Int)) := by rw [← h]; simp
    refine Ev.fuel ?_
    by_cases hb : b = 360
    · simp only [impl_NextPlayed.l0, hn, ↓reduceIte, nextI, hb]; exact Ev.now _
    · simp only [impl_NextPlayed.l0, hn, ↓reduceIte, nextI, hb]; exact Ev.now _
  | cons x suf ih =>
    intro pre b h
    have hlen : l.length = pre.length + (suf.length + 1) := by rw [← h]; simp
    have h1 : (pre.length : Int) < (l.length : Int) := by omega
    have h2 : (0 : Int) ≤ (pre.length : Int) := by omega
    have h3 : rd_T50 l (pre.length : Int) = x := by rw [← h]; exact getD_mid _ _ _ _
    refine Ev.fuel ?_
    simp only [impl_NextPlayed.l0, h1, h2, h3, ↓reduceIte, wn pre.length (by omega)]
    have e := ih (pre ++ [x]) (mn b (wayOn a x)) (by rw [← h]; simp)
    rw [show ((pre ++ [x]).length : Int) = ((pre.length + 1 : Nat) : Int) by simp] at e
    exact e
theorem nextLaw_ev (l : List S50) (s a : Int) (hl : l.length ≤ 1048576) : ∃ r0 r1, Ev (fun k => spec_NextPlayed.f k l s a) (r0, r1) ∧ Ev (fun k => impl_NextPlayed.f k l s a) (r0, r1) := by
  unfold spec_NextPlayed.f impl_NextPlayed.f
  have jS : ∀ g : Bool, g = true → Ev (fun k => spec_NextPlayed.j0 k l s a g) (0, false) := fun g hg => by
    refine Ev.fuel ?_; simp only [spec_NextPlayed.j0, hg, ↓reduceIte]; exact Ev.now _
  have jI : ∀ g : Bool, g = true → Ev (fun k => impl_NextPlayed.j0 k l s a g) (0, false) := fun g hg => by
    refine Ev.fuel ?_; simp only [impl_NextPlayed.j0, hg, ↓reduceIte]; exact Ev.now _
  by_cases hg : goodPins l = true
  · by_cases hs : 0 ≤ s ∧ s ≤ 3
    · by_cases ha : 0 ≤ a ∧ a ≤ 359
      · have hx : ∀ x ∈ tune l s true, 0 ≤ wayOn a x ∧ wayOn a x < 360 := fun x hx => wayOn_range ha.1 ha.2 (goodPins_all hg x (List.mem_filter.1 hx).1)
        have same := next_same a (tune l s true) (-1) 360 hx (Or.inl ⟨by omega, rfl⟩)
        have e1 := specNext_l0 l s a hl l [] (-1) rfl
        have e2 := implNext_l0 (tune l s true) a (Nat.le_trans (tune_len ..) hl) (tune l s true) [] 360 rfl
        refine ⟨(if nextS a (tune l s true) (-1) < 0 then (0, false) else (nextS a (tune l s true) (-1), true)).1, (if nextS a (tune l s true) (-1) < 0 then (0, false) else (nextS a (tune l s true) (-1), true)).2, ?_, ?_⟩
        · refine Ev.bind (cyGood_ev l hl) ?_
          simp only [hg, ↓reduceIte, cyShift_eq, cyAngle_eq, Option.bind_some, hs, ha, and_self, decide_true, Bool.not_true]
          refine Ev.fuel ?_
          simp only [spec_NextPlayed.j0, Bool.false_eq_true, ↓reduceIte]
          exact e1
        · refine Ev.bind (ArePins_ev l hl) ?_
          simp only [hg, ↓reduceIte, isShift_eq, isAngle_eq, Option.bind_some, hs, ha, and_self, decide_true, Bool.not_true]
          refine Ev.fuel ?_
          simp only [impl_NextPlayed.j0, Bool.false_eq_true, ↓reduceIte]
          refine Ev.bind (tunePins_ev l s true hl) ?_
          have q : (if nextS a (tune l s true) (-1) < 0 then ((0 : Int), false) else (nextS a (tune l s true) (-1), true)) = (if nextI a (tune l s true) 360 = 360 then (0, false) else (nextI a (tune l s true) 360, true)) := by
            rcases same with ⟨s1, s2⟩ | ⟨s1, s2, s3⟩
            · rw [if_pos s1, if_pos s2]
            · rw [if_neg (by omega), if_neg (by omega), s3]
          rw [q]
          exact e2
      · refine ⟨0, false, ?_, ?_⟩
        · refine Ev.bind (cyGood_ev l hl) ?_
          simp only [hg, ↓reduceIte, cyShift_eq, cyAngle_eq, Option.bind_some, hs, ha, and_self, decide_true, decide_false, Bool.not_false]
          exact jS _ rfl
        · refine Ev.bind (ArePins_ev l hl) ?_
          simp only [hg, ↓reduceIte, isShift_eq, isAngle_eq, Option.bind_some, hs, ha, and_self, decide_true, decide_false, Bool.not_false]
          exact jI _ rfl
    · refine ⟨0, false, ?_, ?_⟩
      · refine Ev.bind (cyGood_ev l hl) ?_
        simp only [hg, ↓reduceIte, cyShift_eq, Option.bind_some, hs, decide_false, Bool.false_eq_true]
        exact jS _ rfl
      · refine Ev.bind (ArePins_ev l hl) ?_
        simp only [hg, ↓reduceIte, isShift_eq, Option.bind_some, hs, decide_false, Bool.false_eq_true]
        exact jI _ rfl
  · refine ⟨0, false, ?_, ?_⟩
    · refine Ev.bind (cyGood_ev l hl) ?_
      simp only [hg, Bool.false_eq_true, ↓reduceIte]
      exact jS _ rfl
    · refine Ev.bind (ArePins_ev l hl) ?_
      simp only [hg, Bool.false_eq_true, ↓reduceIte]
      exact jI _ rfl

/-! PlayedAt -/
def playedOf (a : Int) (l : List S50) : List Int := (l.filter fun x => x.f1 == a).map (·.f0)
theorem playedOf_len (a : Int) (l : List S50) : (playedOf a l).length ≤ l.length := by unfold playedOf; rw [List.length_map]; exact List.length_filter_le _ _
theorem specPlayed_l0 (l : List S50) (s a : Int) (hl : l.length ≤ 1048576) : ∀ (suf pre : List S50) (acc : List Int), pre ++ suf = l → acc.length ≤ pre.length →
    Ev (fun k => spec_PlayedAt.l0 k s a acc l l.length pre.length) (acc ++ playedOf a (tune suf s true), true) := by
  intro suf
  induction suf with
  | nil =>
    intro pre acc h ha
    have hn : ¬ ((pre.length : Int) < (l.length : Int)) := by rw [← h]; simp
    refine Ev.fuel ?_
    simp only [spec_PlayedAt.l0, hn, ↓reduceIte, tune, List.filter_nil, playedOf, List.map_nil, List.append_nil]
    exact Ev.now _
  | cons x suf ih =>
    intro pre acc h ha
    have hlen : l.length = pre.length + (suf.length + 1) := by rw [← h]; simp
    have h1 : (pre.length : Int) < (l.length : Int) := by omega
    have h2 : (0 : Int) ≤ (pre.length : Int) := by omega
    have h3 : rd_T50 l (pre.length : Int) = x := by rw [← h]; exact getD_mid _ _ _ _
    have h4 : acc.length < 17592186044416 := by omega
    refine Ev.fuel ?_
    simp only [spec_PlayedAt.l0, h1, h2, h3, h4, ↓reduceIte, wn pre.length (by omega)]
    by_cases hx : x.f2 = s
    · simp only [hx, ↓reduceIte]; rw [show tune (x :: suf) s true = x :: tune suf s true by simp [tune, hx]]
      by_cases hy : x.f1 = a
      · simp only [hy, ↓reduceIte]; rw [show playedOf a (x :: tune suf s true) = x.f0 :: playedOf a (tune suf s true) by simp [playedOf, hy]]
        simpa using ih (pre ++ [x]) (acc ++ [x.f0]) (by rw [← h]; simp) (by simp; omega)
      · simp only [hy, ↓reduceIte]; rw [show playedOf a (x :: tune suf s true) = playedOf a (tune suf s true) by simp [playedOf, hy]]
        simpa using ih (pre ++ [x]) acc (by rw [← h]; simp) (by simp; omega)
    · simp only [hx, ↓reduceIte]; rw [show tune (x :: suf) s true = tune suf s true by simp [tune, hx]]
      simpa using ih (pre ++ [x]) acc (by rw [← h]; simp) (by simp; omega)
theorem implPlayed_l0 (l : List S50) (a : Int) (hl : l.length ≤ 1048576) : ∀ (suf pre : List S50) (acc : List Int), pre ++ suf = l → acc.length ≤ pre.length →
    Ev (fun k => impl_PlayedAt.l0 k a acc l l.length pre.length) (acc ++ playedOf a suf, true) := by
  intro suf
  induction suf with
  | nil =>
    intro pre acc h ha
    have hn : ¬ ((pre.length : Int) < (l.length : Int)) := by rw [← h]; simp
    refine Ev.fuel ?_
    simp only [impl_PlayedAt.l0, hn, ↓reduceIte, List.filter_nil, playedOf, List.map_nil, List.append_nil]
    exact Ev.now _
  | cons x suf ih =>
    intro pre acc h ha
    have hlen : l.length = pre.length + (suf.length + 1) := by rw [← h]; simp
    have h1 : (pre.length : Int) < (l.length : Int) := by omega
    have h2 : (0 : Int) ≤ (pre.length : Int) := by omega
    have h3 : rd_T50 l (pre.length : Int) = x := by rw [← h]; exact getD_mid _ _ _ _
    have h4 : acc.length < 17592186044416 := by omega
    refine Ev.fuel ?_
    simp only [impl_PlayedAt.l0, h1, h2, h3, h4, ↓reduceIte, wn pre.length (by omega)]
    by_cases hy : x.f1 = a
    · simp only [hy, ↓reduceIte]; rw [show playedOf a (x :: suf) = x.f0 :: playedOf a suf by simp [playedOf, hy]]
      simpa using ih (pre ++ [x]) (acc ++ [x.f0]) (by rw [← h]; simp) (by simp; omega)
    · simp only [hy, ↓reduceIte]; rw [show playedOf a (x :: suf) = playedOf a suf by simp [playedOf, hy]]
      simpa using ih (pre ++ [x]) acc (by rw [← h]; simp) (by simp; omega)
theorem playedLaw_ev (l : List S50) (s a : Int) (hl : l.length ≤ 1048576) : ∃ r0 r1, r0.length ≤ 1048576 ∧ Ev (fun k => spec_PlayedAt.f k l s a) (r0, r1) ∧ Ev (fun k => impl_PlayedAt.f k l s a) (r0, r1) := by
  unfold spec_PlayedAt.f impl_PlayedAt.f
  have jS : ∀ g : Bool, g = true → Ev (fun k => spec_PlayedAt.j0 k l s a g) ([], false) := fun g hg => by
    refine Ev.fuel ?_; simp only [spec_PlayedAt.j0, hg, ↓reduceIte]; exact Ev.now _
  have jI : ∀ g : Bool, g = true → Ev (fun k => impl_PlayedAt.j0 k l s a g) ([], false) := fun g hg => by
    refine Ev.fuel ?_; simp only [impl_PlayedAt.j0, hg, ↓reduceIte]; exact Ev.now _
  by_cases hg : goodPins l = true
  · by_cases hs : 0 ≤ s ∧ s ≤ 3
    · by_cases ha : 0 ≤ a ∧ a ≤ 359
      · have e1 := specPlayed_l0 l s a hl l [] [] rfl (Nat.le_refl _)
        have e2 := implPlayed_l0 (tune l s true) a (Nat.le_trans (tune_len ..) hl) (tune l s true) [] [] rfl (Nat.le_refl _)
        refine ⟨playedOf a (tune l s true), true, Nat.le_trans (playedOf_len ..) (Nat.le_trans (tune_len ..) hl), ?_, ?_⟩
        · refine Ev.bind (cyGood_ev l hl) ?_
          simp only [hg, ↓reduceIte, cyShift_eq, cyAngle_eq, Option.bind_some, hs, ha, and_self, decide_true, Bool.not_true]
          refine Ev.fuel ?_
          simp only [spec_PlayedAt.j0, Bool.false_eq_true, ↓reduceIte]
          exact e1
        · refine Ev.bind (ArePins_ev l hl) ?_
          simp only [hg, ↓reduceIte, isShift_eq, isAngle_eq, Option.bind_some, hs, ha, and_self, decide_true, Bool.not_true]
          refine Ev.fuel ?_
          simp only [impl_PlayedAt.j0, Bool.false_eq_true, ↓reduceIte]
          exact Ev.bind (tunePins_ev l s true hl) e2
      · refine ⟨[], false, by simp, ?_, ?_⟩
        · refine Ev.bind (cyGood_ev l hl) ?_
          simp only [hg, ↓reduceIte, cyShift_eq, cyAngle_eq, Option.bind_some, hs, ha, and_self, decide_true, decide_false, Bool.not_false]
          exact jS _ rfl
        · refine Ev.bind (ArePins_ev l hl) ?_
          simp only [hg, ↓reduceIte, isShift_eq, isAngle_eq, Option.bind_some, hs, ha, and_self, decide_true, decide_false, Bool.not_false]
          exact jI _ rfl
    · refine ⟨[], false, by simp, ?_, ?_⟩
      · refine Ev.bind (cyGood_ev l hl) ?_
        simp only [hg, ↓reduceIte, cyShift_eq, Option.bind_some, hs, decide_false, Bool.false_eq_true]
        exact jS _ rfl
      · refine Ev.bind (ArePins_ev l hl) ?_
        simp only [hg, ↓reduceIte, isShift_eq, Option.bind_some, hs, decide_false, Bool.false_eq_true]
        exact jI _ rfl
  · refine ⟨[], false, by simp, ?_, ?_⟩
    · refine Ev.bind (cyGood_ev l hl) ?_
      simp only [hg, Bool.false_eq_true, ↓reduceIte]
      exact jS _ rfl
    · refine Ev.bind (ArePins_ev l hl) ?_
      simp only [hg, Bool.false_eq_true, ↓reduceIte]
      exact jI _ rfl
end Go.Proofs.Ytclapnindihhnaa.G
