/- Plain facts on near pins: the greatest gap, the best turn. No condition. -/
import Derived.Test.YthgemodkebahoaaA0
import Derived.Test.YthgemodkebahoaaA1
import Derived.Test.YthgemodkebahoaaA2
import Derived.Test.YthgemodkebahoaaA3
import Derived.Test.YthgemodkebahoaaA4
import Derived.Test.YthgemodkebahoaaA5
import Derived.Test.YthgemodkebahoaaA6
import Derived.Test.YthgemodkebahoaaA11
import Derived.Test.YthgemodkebahoaaA18
import Derived.Test.YthgemodkebahoaaAQDP
set_option linter.unusedVariables false
set_option linter.unusedSimpArgs false
namespace Go.Proofs.Ythgemodkebahoaa.A
open Go.RowKit Go.Proofs.YthgemodkebahoaaW.PrintWords Go.Proofs.YthgemodkebahoaaW.PrintLast Go.Proofs.YthgemodkebahoaaW.PrintMore

theorem Ev.uniq {α : Type} {g : Nat → Option α} {a b : α} (h : Ev g a) (k : Ev g b) : a = b := by
  obtain ⟨K, h⟩ := h
  obtain ⟨J, k⟩ := k
  have h1 := h (max K J) (by omega)
  have h2 := k (max K J) (by omega)
  rw [h1] at h2
  injection h2
/-! ### Comparisons -/
theorem sameInts_l0 (l : List Int) (hl : l.length ≤ 1048576) : ∀ (m i : Nat), i + m = l.length → Ev (fun k => laws_sameInts.l0 k l l l.length i) true := by
  intro m
  induction m with
  | zero =>
    intro i h
    refine Ev.fuel ?_
    simp only [laws_sameInts.l0, show ¬ ((i : Int) < (l.length : Int)) from by omega, ↓reduceIte]
    exact Ev.now _
  | succ m ih =>
    intro i h
    refine Ev.fuel ?_
    simp only [laws_sameInts.l0, show (i : Int) < (l.length : Int) from by omega, show (0 : Int) ≤ (i : Int) from by omega, ↓reduceIte, wn i (by omega)]
    exact ih (i + 1) (by omega)
theorem sameInts_ev (l : List Int) (hl : l.length ≤ 1048576) : Ev (fun k => laws_sameInts.f k l l) true := by
  unfold laws_sameInts.f
  simp only [↓reduceIte]
  exact sameInts_l0 l hl l.length 0 (by omega)
theorem sameLists_l0 (l : List (List Int)) (hl : l.length ≤ 1048576) (he : ∀ x ∈ l, x.length ≤ 1048576) : ∀ (m i : Nat), i + m = l.length → Ev (fun k => laws_sameLists.l0 k l l l.length i) true := by
  intro m
  induction m with
  | zero =>
    intro i h
    refine Ev.fuel ?_
    simp only [laws_sameLists.l0, show ¬ ((i : Int) < (l.length : Int)) from by omega, ↓reduceIte]
    exact Ev.now _
  | succ m ih =>
    intro i h
    have hm : rd_L8 l (i : Int) ∈ l := by
      unfold rd_L8
      rw [Int.toNat_natCast, List.getD_eq_getElem?_getD, List.getElem?_eq_getElem (by omega)]
      exact List.getElem_mem _
    refine Ev.fuel ?_
    simp only [laws_sameLists.l0, show (i : Int) < (l.length : Int) from by omega, show (0 : Int) ≤ (i : Int) from by omega, ↓reduceIte, wn i (by omega)]
    refine Ev.bind (sameInts_ev _ (he _ hm)) ?_
    simp only [↓reduceIte]
    exact ih (i + 1) (by omega)
theorem sameLists_ev (l : List (List Int)) (hl : l.length ≤ 1048576) (he : ∀ x ∈ l, x.length ≤ 1048576) : Ev (fun k => laws_sameLists.f k l l) true := by
  unfold laws_sameLists.f
  simp only [↓reduceIte]
  exact sameLists_l0 l hl he l.length 0 (by omega)
theorem pSamePins_l0 (l : List S39) (hl : l.length ≤ 1048576) : ∀ (m i : Nat), i + m = l.length → Ev (fun k => laws_pSamePins.l0 k l l l.length i) true := by
  intro m
  induction m with
  | zero =>
    intro i h
    refine Ev.fuel ?_
    simp only [laws_pSamePins.l0, show ¬ ((i : Int) < (l.length : Int)) from by omega, ↓reduceIte]
    exact Ev.now _
  | succ m ih =>
    intro i h
    refine Ev.fuel ?_
    simp only [laws_pSamePins.l0, show (i : Int) < (l.length : Int) from by omega, show (0 : Int) ≤ (i : Int) from by omega, ↓reduceIte, wn i (by omega), beq_self_eq_true, Bool.not_true, Bool.or_self, Bool.false_eq_true]
    exact ih (i + 1) (by omega)
theorem pSamePins_ev (l : List S39) (hl : l.length ≤ 1048576) : Ev (fun k => laws_pSamePins.f k l l) true := by
  unfold laws_pSamePins.f
  simp only [↓reduceIte]
  exact pSamePins_l0 l hl l.length 0 (by omega)
/-! ### Near pins -/
theorem pairs1_two (gap : Int) (a : S39) (i : Int) : ∀ (l : List S39) (k : Int), ∀ p ∈ pairs1 gap a i l k, p.length = 2 := by
  intro l
  induction l with
  | nil => intro k p hp; simp [pairs1] at hp
  | cons x xs ih =>
    intro k p hp
    simp only [pairs1, List.mem_append] at hp
    rcases hp with hp | hp
    · split at hp
      · simp at hp; subst hp; rfl
      · simp at hp
    · exact ih _ p hp
theorem pairsOf_two (gap : Int) : ∀ (l : List S39) (i : Int), ∀ p ∈ pairsOf gap l i, p.length = 2 := by
  intro l
  induction l with
  | nil => intro i p hp; simp [pairsOf] at hp
  | cons x xs ih =>
    intro i p hp
    simp only [pairsOf, List.mem_append] at hp
    rcases hp with hp | hp
    · exact pairs1_two gap x i xs _ p hp
    · exact ih _ p hp
theorem pairsOf_len (gap : Int) : ∀ (l : List S39) (i : Int), l.length ≤ 60 → (pairsOf gap l i).length ≤ 60 * l.length := by
  intro l
  induction l with
  | nil => intro i _; simp [pairsOf]
  | cons x xs ih =>
    intro i h
    simp only [List.length_cons] at h
    have h1 := pairs1_len gap x i xs (i + 1)
    have h2 := ih (i + 1) (by omega)
    simp only [pairsOf, List.length_append, List.length_cons]
    omega
theorem isGap_at (g : Int) : impl_isGap.f g = some (decide (1 ≤ g ∧ g ≤ 180)) := by
  unfold impl_isGap.f
  split <;> (first | exact dec_eq (by omega) | exact dec_f (by omega) | exact dec_t (by omega))
theorem cyGap_at (g : Int) : spec_cyGap.f g = some (decide (1 ≤ g ∧ g ≤ 180)) := by unfold spec_cyGap.f; rw [l1In_eq]; rfl
def nearOf (l : List S39) (g : Int) : List (List Int) × Bool := if goodPins l = true ∧ (1 ≤ g ∧ g ≤ 180) then (pairsOf g l 0, true) else ([], false)
theorem nearImpl_ev (l : List S39) (g : Int) (hl : l.length ≤ 1048576) : Ev (fun k => impl_NearPins.f k l g) (nearOf l g) := by
  unfold impl_NearPins.f nearOf
  refine Ev.bind (ArePins_ev l hl) ?_
  by_cases hg : goodPins l = true
  · simp only [hg, ↓reduceIte, isGap_at, Option.bind_some, true_and]
    by_cases h : 1 ≤ g ∧ g ≤ 180
    · simp only [h, and_self, decide_true, ↓reduceIte]
      exact Ev.bind (nearPins_ev l g (goodPins_len hg) (goodPins_all hg)) (Ev.now _)
    · simp only [h, decide_false, Bool.false_eq_true, ↓reduceIte]; exact Ev.now _
  · simp only [hg, Bool.false_eq_true, ↓reduceIte, false_and]; exact Ev.now _
theorem nearSpec_ev (l : List S39) (g : Int) (hl : l.length ≤ 1048576) : Ev (fun k => spec_NearPins.f k l g) (nearOf l g) := by
  unfold spec_NearPins.f nearOf
  refine Ev.bind (cyGood_ev l hl) ?_
  by_cases hg : goodPins l = true
  · simp only [hg, ↓reduceIte, cyGap_at, Option.bind_some, true_and]
    by_cases h : 1 ≤ g ∧ g ≤ 180
    · simp only [h, and_self, decide_true, ↓reduceIte]
      exact Ev.bind (cyPairs_ev l g (goodPins_len hg) (by omega) (goodPins_all hg)) (Ev.now _)
    · simp only [h, decide_false, Bool.false_eq_true, ↓reduceIte]; exact Ev.now _
  · simp only [hg, Bool.false_eq_true, ↓reduceIte, false_and]; exact Ev.now _
theorem nearOf_small (l : List S39) (g : Int) : (nearOf l g).1.length ≤ 1048576 ∧ ∀ x ∈ (nearOf l g).1, x.length ≤ 1048576 := by
  unfold nearOf
  split
  · rename_i h
    have h1 := goodPins_len h.1
    have h2 := pairsOf_len g l 0 h1
    exact ⟨by show (pairsOf g l 0).length ≤ _; omega, fun x hx => by have := pairsOf_two g l 0 x hx; omega⟩
  · simp
/-! ### The greatest gap -/
def gapOf (l : List S39) : Int × Bool := if goodPins l = true then (leastOf 180 (dists l), decide (leastOf 180 (dists l) > 0)) else (0, false)
theorem gapBoth_ev (l : List S39) (hl : l.length ≤ 1048576) : Ev (fun k => impl_GreatestGap.f k l) (gapOf l) ∧ Ev (fun k => spec_GreatestGap.f k l) (gapOf l) := by
  have h1 : Ev (fun k => impl_GreatestGap.f k l) (gapOf l) := by
    unfold impl_GreatestGap.f gapOf
    refine Ev.bind (ArePins_ev l hl) ?_
    by_cases hg : goodPins l = true
    · simp only [hg, ↓reduceIte]
      exact gap_l0 l (goodPins_len hg) (goodPins_all hg) l [] 180 rfl
    · simp only [hg, Bool.false_eq_true, ↓reduceIte]; exact Ev.now _
  obtain ⟨r0, r1, e1, e2⟩ := gapLaw_ev l hl
  rw [Ev.uniq e2 h1] at e1
  exact ⟨h1, e1⟩
theorem gap_none {l : List S39} (hg : goodPins l = true) (h : leastOf 180 (dists l) > 0) : nearOf l (leastOf 180 (dists l)) = ([], true) := by
  have h2 := leastOf_le (dists l) 180
  unfold nearOf
  rw [if_pos ⟨hg, by omega, h2⟩, (pairsOf_nil _ l 0).2 ((leastOf_ge _ (dists l) 180).1 (Int.le_refl _)).2]
theorem gap_some {l : List S39} (hg : goodPins l = true) (h : leastOf 180 (dists l) > 0) (h2 : leastOf 180 (dists l) < 180) : (nearOf l (leastOf 180 (dists l) + 1)).2 = true ∧ ((nearOf l (leastOf 180 (dists l) + 1)).1.length : Int) ≠ 0 := by
  unfold nearOf
  rw [if_pos ⟨hg, by omega, by omega⟩]
  refine ⟨rfl, fun h3 => ?_⟩
  have h4 : pairsOf (leastOf 180 (dists l) + 1) l 0 = [] := List.eq_nil_of_length_eq_zero (by simpa using h3)
  have h5 := (leastOf_ge (leastOf 180 (dists l) + 1) (dists l) 180).2 ⟨by omega, (pairsOf_nil _ l 0).1 h4⟩
  omega
/-! ### Turned tunes, the best turn -/
theorem turned_ev (l : List S39) (s b : Int) (hl : l.length ≤ 1048576) (hg : goodPins l = true) (hs : 0 ≤ s ∧ s ≤ 3) (hb : 0 ≤ b ∧ b ≤ 359) : Ev (fun k => impl_TurnTune.f k l s b) ((sortRes (l.map (turn1 s b))).1, true) := by
  have hr : sortRes (l.map (turn1 s b)) = ((sortRes (l.map (turn1 s b))).1, true) := by
    unfold sortRes
    rw [if_pos (turned_good l s b hg hb)]
  unfold impl_TurnTune.f
  refine Ev.bind (ArePins_ev l hl) ?_
  simp only [hg, ↓reduceIte, isShift_eq, Option.bind_some, hs, and_self, decide_true, show ¬ b < 0 from by omega, show ¬ b ≥ 360 from by omega]
  have := turnTune_ev l s b hl
  rw [hr] at this
  exact Ev.bind this (Ev.now _)
theorem bestTurn_at (l : List S39) (s gap : Int) : ∀ (d b : Nat), (bestTurn l s gap d b).2 = true → ∃ n : Nat, (bestTurn l s gap d b).1 = (n : Int) ∧ b ≤ n ∧ n < b + d ∧ ((pairsOf gap (sortRes (l.map (turn1 s (n : Int)))).1 0).length : Int) = 0 ∧ ∀ m : Nat, b ≤ m → m < n → ((pairsOf gap (sortRes (l.map (turn1 s (m : Int)))).1 0).length : Int) ≠ 0 := by
  intro d
  induction d with
  | zero => intro b h; simp [bestTurn] at h
  | succ d ih =>
    intro b h
    unfold bestTurn at h ⊢
    by_cases hz : ((pairsOf gap (sortRes (l.map (turn1 s (b : Int)))).1 0).length : Int) = 0
    · rw [if_pos hz]
      exact ⟨b, rfl, Nat.le_refl _, by omega, hz, fun m h1 h2 => by omega⟩
    · rw [if_neg hz] at h ⊢
      obtain ⟨n, h1, h2, h3, h4, h5⟩ := ih (b + 1) h
      refine ⟨n, h1, by omega, by omega, h4, fun m h6 h7 => ?_⟩
      by_cases e : m = b
      · subst e; exact hz
      · exact h5 m (by omega) h7
def bestOf (l : List S39) (s gap : Int) : Int × Bool := if goodPins l = true ∧ (0 ≤ s ∧ s ≤ 3) ∧ (1 ≤ gap ∧ gap ≤ 180) then bestTurn l s gap 360 0 else (0, false)
theorem bestBoth_ev (l : List S39) (s gap : Int) (hl : l.length ≤ 1048576) : Ev (fun k => impl_BestTurn.f k l s gap) (bestOf l s gap) ∧ Ev (fun k => spec_BestTurn.f k l s gap) (bestOf l s gap) := by
  have h1 : Ev (fun k => impl_BestTurn.f k l s gap) (bestOf l s gap) := by
    have jT : Ev (fun k => impl_BestTurn.j0 k l s gap true) (0, false) := by
      refine Ev.fuel ?_
      simp only [impl_BestTurn.j0, ↓reduceIte]; exact Ev.now _
    unfold impl_BestTurn.f bestOf
    refine Ev.bind (ArePins_ev l hl) ?_
    by_cases hg : goodPins l = true
    · simp only [hg, ↓reduceIte, isShift_eq, isGap_at, Option.bind_some, true_and]
      by_cases hs : 0 ≤ s ∧ s ≤ 3
      · by_cases hb : 1 ≤ gap ∧ gap ≤ 180
        · simp only [hs, hb, and_self, decide_true, Bool.not_true, ↓reduceIte]
          refine Ev.fuel ?_
          simp only [impl_BestTurn.j0, Bool.false_eq_true, ↓reduceIte]
          exact implBest_l0 l s gap hl (by omega) 360 0 rfl
        · simp only [hs, hb, and_self, and_false, decide_true, decide_false, Bool.not_false, ↓reduceIte]
          exact jT
      · simp only [hs, false_and, decide_false, Bool.false_eq_true, ↓reduceIte]
        exact jT
    · simp only [hg, Bool.false_eq_true, ↓reduceIte, false_and]
      exact jT
  obtain ⟨r0, r1, e1, e2⟩ := bestTurnLaw_ev l s gap hl
  rw [Ev.uniq e2 h1] at e1
  exact ⟨h1, e1⟩
/-! ### A pin more -/
theorem add_len (l : List S39) (a b c : Int) (hl : l.length ≤ 1048576) {r : List S39 × Bool} (h : Ev (fun k => impl_AddPin.f k l a b c) r) (h2 : r.2 = true) : r.1.length = l.length + 1 := by
  have jT : Ev (fun k => impl_AddPin.j0 k l true a b c) ([], false) := by
    refine Ev.fuel ?_
    simp only [impl_AddPin.j0, ↓reduceIte]; exact Ev.now _
  have e2 := isPin_eq ⟨a, b, c⟩
  simp only at e2
  have key : ∀ q, Ev (fun k => impl_AddPin.f k l a b c) q → q.2 = false → False := fun q hq hf => by
    rw [Ev.uniq h hq, hf] at h2
    cases h2
  by_cases hg : goodPins l = true
  · have h60 := goodPins_len hg
    by_cases hx : pinB ⟨a, b, c⟩ = true
    · have hz : (l ++ [(⟨a, b, c⟩ : S39)]).length ≤ 1048576 := by simp; omega
      have e : Ev (fun k => impl_AddPin.f k l a b c) (sortRes (l ++ [(⟨a, b, c⟩ : S39)])) := by
        unfold impl_AddPin.f
        refine Ev.bind (ArePins_ev l hl) ?_
        simp only [hg, ↓reduceIte, e2, Option.bind_some, hx, Bool.not_true]
        refine Ev.fuel ?_
        simp only [impl_AddPin.j0, Bool.false_eq_true, ↓reduceIte, clonePins_eq l hl, Option.bind_some, show l.length + [(⟨a, b, c⟩ : S39)].length < 5864062014805 from by simp; omega]
        refine Ev.bind (pinsOf_ev _ hz) ?_
        exact Ev.now _
      have er := Ev.uniq h e
      rw [er] at h2 ⊢
      unfold sortRes at h2 ⊢
      split
      · show (SA.isort SPin.ltB (l ++ [(⟨a, b, c⟩ : S39)])).length = _
        rw [SA.isort_length]; simp
      · rename_i hh; rw [if_neg hh] at h2; cases h2
    · refine (key ([], false) ?_ rfl).elim
      unfold impl_AddPin.f
      refine Ev.bind (ArePins_ev l hl) ?_
      simp only [hg, ↓reduceIte, e2, Option.bind_some, hx, Bool.not_false]
      exact jT
  · refine (key ([], false) ?_ rfl).elim
    unfold impl_AddPin.f
    refine Ev.bind (ArePins_ev l hl) ?_
    simp only [hg, Bool.false_eq_true, ↓reduceIte]
    exact jT
/-! ### The law -/
theorem np_j5 {c : List Int} (hc : Bytes c) : Ev (fun k => laws_FnNearPins.j5 k c) true := by
  obtain ⟨v, n, d1, l1⟩ := DrawNearPins_ev hc
  obtain ⟨w, x, y, z, d2, l2⟩ := DrawAddPin_ev hc
  obtain ⟨u, t, d3, l3⟩ := DrawTuneOf_ev hc
  obtain ⟨a0, a1, al, as', ai⟩ := addLaw_ev w x y z (by omega)
  obtain ⟨t0, t1, tl, ts, ti⟩ := tuneLaw_ev u t (by omega)
  have hn := nearOf_small v n
  refine Ev.fuel ?_
  simp only [laws_FnNearPins.j5]
  refine Ev.bind d1 (Ev.bind (nearImpl_ev v n (by omega)) (Ev.bind (nearSpec_ev v n (by omega)) (Ev.bind d2 (Ev.bind ai (Ev.bind as' (Ev.bind d3 (Ev.bind ti (Ev.bind ts ?_))))))))
  simp only [beq_self_eq_true, ↓reduceIte]
  refine Ev.bind (sameLists_ev _ hn.1 hn.2) ?_
  simp only [↓reduceIte]
  refine Ev.bind (pSamePins_ev _ al) ?_
  simp only [↓reduceIte]
  have tail : Ev (fun k => (laws_pSamePins.f k t0 t0).bind fun t => some t) true := Ev.bind (pSamePins_ev _ tl) (Ev.now _)
  cases a1 with
  | true =>
    have h := add_len w x y z (by omega) ai rfl
    simp only at h
    simp only [↓reduceIte, show ((a0.length : Int) = wrap64 ((w.length : Int) + 1)) from by rw [wn w.length (by omega)]; omega]
    exact tail
  | false =>
    simp only [Bool.false_eq_true, ↓reduceIte]
    exact tail
theorem np_j2 {c : List Int} (hc : Bytes c) : Ev (fun k => laws_FnNearPins.j2 k c) true := by
  obtain ⟨u, s, g, d, lu⟩ := DrawBestTurn_ev hc
  obtain ⟨b1, b2⟩ := bestBoth_ev u s g (by omega)
  have hj5 := np_j5 hc
  refine Ev.fuel ?_
  simp only [laws_FnNearPins.j2]
  refine Ev.bind d (Ev.bind b1 (Ev.bind b2 ?_))
  simp only [bne_self_eq_false, Bool.false_eq_true, ↓reduceIte]
  refine Ev.fuel ?_
  simp only [laws_FnNearPins.j3, Bool.false_eq_true, ↓reduceIte]
  by_cases hok : goodPins u = true ∧ (0 ≤ s ∧ s ≤ 3) ∧ (1 ≤ g ∧ g ≤ 180)
  · have hbo : bestOf u s g = bestTurn u s g 360 0 := by unfold bestOf; rw [if_pos hok]
    rw [hbo]
    cases h2 : (bestTurn u s g 360 0).2 with
    | false => simp only [Bool.false_eq_true, ↓reduceIte]; exact hj5
    | true =>
      obtain ⟨n, h3, _, h4, h5, h6⟩ := bestTurn_at u s g 360 0 h2
      simp only [↓reduceIte, h3]
      have near : ∀ m : Nat, nearOf (sortRes (u.map (turn1 s (m : Int)))).1 g = (pairsOf g (sortRes (u.map (turn1 s (m : Int)))).1 0, true) := fun m => by
        unfold nearOf
        rw [if_pos ⟨sortRes_good _, hok.2.2⟩]
      have small : ∀ m : Nat, (sortRes (u.map (turn1 s (m : Int)))).1.length ≤ 1048576 := fun m => sortRes_len _ (by simp; omega)
      refine Ev.bind (turned_ev u s n (by omega) hok.1 hok.2.1 (by omega)) (Ev.bind (nearImpl_ev _ g (small n)) ?_)
      rw [near n]
      simp only [↓reduceIte, h5, gt_iff_lt, Int.lt_irrefl, decide_false]
      refine Ev.fuel ?_
      simp only [laws_FnNearPins.j4, Bool.false_eq_true, ↓reduceIte]
      by_cases hn : (n : Int) > 0
      · have e1 : wrap64 ((n : Int) - 1) = ((n - 1 : Nat) : Int) := by rw [w_id (by omega) (by omega)]; omega
        simp only [hn, ↓reduceIte, e1]
        refine Ev.bind (turned_ev u s ((n - 1 : Nat) : Int) (by omega) hok.1 hok.2.1 (by omega)) (Ev.bind (nearImpl_ev _ g (small (n - 1))) ?_)
        rw [near (n - 1)]
        simp only [↓reduceIte, h6 (n - 1) (by omega) (by omega)]
        exact hj5
      · simp only [hn, ↓reduceIte]; exact hj5
  · have hbo : bestOf u s g = (0, false) := by unfold bestOf; rw [if_neg hok]
    rw [hbo]
    simp only [Bool.false_eq_true, ↓reduceIte]
    exact hj5
theorem np_ev (l0 l1 : List Int) (h0 : l0.length ≤ 9223372036854775807) (w0 : ∀ x ∈ l0, (Lit.int .u8 x).wf = true) (h1 : l1.length ≤ 9223372036854775807) (w1 : ∀ x ∈ l1, (Lit.int .u8 x).wf = true) : Ev (fun k => laws_FnNearPins.f k l0 l1) true := by
  have byte : ∀ x : Int, (Lit.int .u8 x).wf = true → 0 ≤ x ∧ x ≤ 255 := by
    intro x hx
    simp [Lit.wf] at hx
    have h1 : IntKind.u8.min = 0 := by decide
    have h2 : IntKind.u8.max = 255 := by decide
    omega
  unfold laws_FnNearPins.f laws_big.f
  by_cases g0 : (l0.length : Int) > 1048576
  · simp only [g0, ↓reduceIte, Option.bind_some]; exact Ev.now _
  · rw [w_id (x := 1048576 - (l0.length : Int)) (by omega) (by omega)]
    by_cases g1 : (l1.length : Int) > 1048576 - (l0.length : Int)
    · simp only [g0, g1, ↓reduceIte, Option.bind_some, decide_true]; exact Ev.now _
    · simp only [g0, g1, ↓reduceIte, Option.bind_some, decide_false, Bool.false_eq_true]
      have hc0 : Bytes l0 := ⟨by omega, fun x hx => byte x (w0 x hx)⟩
      have hc1 : Bytes l1 := ⟨by omega, fun x hx => byte x (w1 x hx)⟩
      have hj2 := np_j2 hc1
      obtain ⟨l, d, hl⟩ := DrawGreatestGap_ev hc0
      obtain ⟨b1, b2⟩ := gapBoth_ev l (by omega)
      refine Ev.bind d (Ev.bind b1 (Ev.bind b2 ?_))
      simp only [bne_self_eq_false, Bool.false_eq_true, ↓reduceIte]
      refine Ev.fuel ?_
      simp only [laws_FnNearPins.j0, Bool.false_eq_true, ↓reduceIte]
      by_cases hg : goodPins l = true
      · have hgo : gapOf l = (leastOf 180 (dists l), decide (leastOf 180 (dists l) > 0)) := by unfold gapOf; rw [if_pos hg]
        rw [hgo]
        by_cases hp : leastOf 180 (dists l) > 0
        · have h180 := leastOf_le (dists l) 180
          simp only [hp, decide_true, ↓reduceIte]
          refine Ev.bind (nearImpl_ev l _ (by omega)) ?_
          rw [gap_none hg hp]
          simp only [↓reduceIte, List.length_nil, Int.natCast_zero, gt_iff_lt, Int.lt_irrefl, show ¬ (leastOf 180 (dists l) < 1) from by omega, show ¬ (180 < leastOf 180 (dists l)) from by omega, decide_false]
          refine Ev.fuel ?_
          simp only [laws_FnNearPins.j1, Bool.false_eq_true, ↓reduceIte]
          by_cases h2 : leastOf 180 (dists l) < 180
          · obtain ⟨s1, s2⟩ := gap_some hg hp h2
            simp only [h2, ↓reduceIte, w_id (x := leastOf 180 (dists l) + 1) (by omega) (by omega)]
            refine Ev.bind (nearImpl_ev l _ (by omega)) ?_
            simp only [s1, s2, ↓reduceIte]
            exact hj2
          · simp only [h2, ↓reduceIte]; exact hj2
        · simp only [hp, decide_false, Bool.false_eq_true, ↓reduceIte]; exact hj2
      · have hgo : gapOf l = (0, false) := by unfold gapOf; rw [if_neg hg]
        rw [hgo]
        simp only [Bool.false_eq_true, ↓reduceIte]; exact hj2
end Go.Proofs.Ythgemodkebahoaa.A
