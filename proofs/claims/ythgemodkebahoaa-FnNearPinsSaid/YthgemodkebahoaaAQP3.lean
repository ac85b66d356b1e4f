/- Plain facts on pins: pairs of near pins and the greatest gap. No condition. -/
import Derived.Test.YthgemodkebahoaaA0
import Derived.Test.YthgemodkebahoaaA3
import Derived.Test.YthgemodkebahoaaA4
import Derived.Test.YthgemodkebahoaaAQP
set_option linter.unusedVariables false
set_option linter.unusedSimpArgs false
namespace Go.Proofs.Ythgemodkebahoaa.A
open Go.RowKit Go.Proofs.YthgemodkebahoaaW.PrintWords Go.Proofs.YthgemodkebahoaaW.PrintLast Go.Proofs.YthgemodkebahoaaW.PrintMore

def ab (n : Int) : Int := if n > -n then n else -n
def angD (a b : Int) : Int := if ab (a - b) < 360 - ab (a - b) then ab (a - b) else 360 - ab (a - b)
def colP (x : S39) : Int := 4 * x.f0 + x.f2
def pdist (a b : S39) : Int := if ab (colP a - colP b) > 1 then 360 else angD a.f1 b.f1
theorem ab_cases (n : Int) : 0 ≤ n ∧ ab n = n ∨ n < 0 ∧ ab n = -n := by unfold ab; split <;> omega
theorem l1Abs_eq {n : Int} (h0 : -1000000 ≤ n) (h1 : n ≤ 1000000) : spec_l1Abs.f n = some (ab n) := by
  unfold spec_l1Abs.f spec_l1Most.f ab
  rw [w_id (by omega) (by omega)]
  split <;> rfl
theorem cyColumn_eq {x : S39} (h : pinB x = true) : spec_cyColumn.f x.f0 x.f1 x.f2 = some (colP x) := by
  have := (pinB_iff x).1 h
  unfold spec_cyColumn.f colP
  rw [w_id (x := 4 * x.f0) (by omega) (by omega), w_id (by omega) (by omega)]
theorem cyDistance_eq {a b : Int} (ha : 0 ≤ a ∧ a ≤ 359) (hb : 0 ≤ b ∧ b ≤ 359) : spec_cyDistance.f a b = some (angD a b) := by
  unfold spec_cyDistance.f angD spec_l1Least.f
  rw [w_id (x := a - b) (by omega) (by omega), l1Abs_eq (by omega) (by omega)]
  simp only [Option.bind_some]
  have := ab_cases (a - b)
  rw [w_id (x := 360 - ab (a - b)) (by omega) (by omega)]
  split <;> rfl
theorem cyNear_eq {a b : S39} {gap : Int} (ha : pinB a = true) (hb : pinB b = true) (hg : gap ≤ 360) : spec_cyNear.f a.f0 a.f1 a.f2 b.f0 b.f1 b.f2 gap = some (decide (pdist a b < gap)) := by
  have h1 := (pinB_iff a).1 ha
  have h2 := (pinB_iff b).1 hb
  unfold spec_cyNear.f pdist
  rw [cyColumn_eq ha, cyColumn_eq hb]
  simp only [Option.bind_some]
  have hc1 : colP a = 4 * a.f0 + a.f2 := rfl
  have hc2 : colP b = 4 * b.f0 + b.f2 := rfl
  rw [w_id (x := colP a - colP b) (by omega) (by omega), l1Abs_eq (by omega) (by omega), cyDistance_eq ⟨h1.2.2.1, h1.2.2.2.1⟩ ⟨h2.2.2.1, h2.2.2.2.1⟩]
  simp only [Option.bind_some]
  by_cases h : ab (colP a - colP b) ≤ 1
  · rw [if_pos h, if_neg (by omega)]
  · rw [if_neg h, if_pos (by omega)]; exact dec_f (by omega)
theorem distance_eq {a b : Int} (ha : 0 ≤ a ∧ a ≤ 1000) (hb : 0 ≤ b ∧ b ≤ 1000) : impl_distance.f a b = some (ab (a - b)) := by
  unfold impl_distance.f ab mx
  rw [w_id (x := a - b) (by omega) (by omega), w_id (x := b - a) (by omega) (by omega)]
  congr 1
  (repeat' split) <;> omega
theorem pinDistance_eq {a b : S39} (ha : pinB a = true) (hb : pinB b = true) : impl_pinDistance.f a.f0 a.f1 a.f2 b.f0 b.f1 b.f2 = some (pdist a b) := by
  have h1 := (pinB_iff a).1 ha
  have h2 := (pinB_iff b).1 hb
  unfold impl_pinDistance.f pdist angD mn
  rw [w_id (x := 4 * a.f0) (by omega) (by omega), w_id (x := 4 * a.f0 + a.f2) (by omega) (by omega), w_id (x := 4 * b.f0) (by omega) (by omega), w_id (x := 4 * b.f0 + b.f2) (by omega) (by omega),
    distance_eq ⟨by omega, by omega⟩ ⟨by omega, by omega⟩, distance_eq ⟨by omega, by omega⟩ ⟨by omega, by omega⟩]
  simp only [Option.bind_some]
  have := ab_cases (a.f1 - b.f1)
  rw [w_id (x := 360 - ab (a.f1 - b.f1)) (by omega) (by omega)]
  by_cases h : ab (colP a - colP b) > 1
  · rw [if_pos h, if_pos (show ab (4 * a.f0 + a.f2 - (4 * b.f0 + b.f2)) > 1 from h)]
  · rw [if_neg h, if_neg (show ¬ ab (4 * a.f0 + a.f2 - (4 * b.f0 + b.f2)) > 1 from h)]
    congr 1
    (repeat' split) <;> omega
theorem pdist_range {a b : S39} (ha : pinB a = true) (hb : pinB b = true) : 0 ≤ pdist a b ∧ pdist a b ≤ 360 := by
  have h1 := (pinB_iff a).1 ha
  have h2 := (pinB_iff b).1 hb
  have := ab_cases (a.f1 - b.f1)
  unfold pdist angD
  (repeat' split) <;> omega

/-! pairs -/
def pairs1 (gap : Int) (a : S39) (i : Int) : List S39 → Int → List (List Int)
  | [], _ => []
  | x :: xs, k => (if pdist a x < gap then [[i, k]] else []) ++ pairs1 gap a i xs (k + 1)
def pairsOf (gap : Int) : List S39 → Int → List (List Int)
  | [], _ => []
  | a :: r, i => pairs1 gap a i r (i + 1) ++ pairsOf gap r (i + 1)
theorem pairs1_len (gap : Int) (a : S39) (i : Int) : ∀ (l : List S39) (k : Int), (pairs1 gap a i l k).length ≤ l.length := by
  intro l
  induction l with
  | nil => intro k; simp [pairs1]
  | cons x xs ih =>
    intro k
    have := ih (k + 1)
    simp only [pairs1, List.length_append, List.length_cons]
    split <;> simp <;> omega
theorem cyPairs_l1 (l : List S39) (gap : Int) (hl : l.length ≤ 60) (hg : gap ≤ 360) (hp : ∀ x ∈ l, pinB x = true) (a : S39) (ha : pinB a = true) (i ni : Int) (r : List (List Int)) :
    ∀ (suf pre : List S39) (acc : List (List Int)), pre ++ suf = l → acc.length + suf.length ≤ 1000000 →
    Ev (fun k => spec_cyPairs.l0 k l gap (acc ++ pairs1 gap a i suf pre.length) l l.length (wrap64 (ni + 1))) r →
    Ev (fun k => spec_cyPairs.l1 k l gap acc i pre.length l l.length ni a.f0 a.f1 a.f2) r := by
  intro suf
  induction suf with
  | nil =>
    intro pre acc h hacc hr
    have hn : ¬ ((pre.length : Int) < (l.length : Int)) := by rw [← h]; simp
    refine Ev.fuel ?_
    simp only [spec_cyPairs.l1, hn, ↓reduceIte]
    simpa [pairs1] using hr
  | cons x suf ih =>
    intro pre acc h hacc hr
    have hlen : l.length = pre.length + (suf.length + 1) := by rw [← h]; simp
    simp only [List.length_cons] at hacc
    have h1 : (pre.length : Int) < (l.length : Int) := by omega
    have h2 : (0 : Int) ≤ (pre.length : Int) := by omega
    have h3 : rd_T39 l (pre.length : Int) = x := by rw [← h]; exact getD_mid _ _ _ _
    have h4 : acc.length < 5864062014805 := by omega
    have hx : pinB x = true := hp x (by rw [← h]; simp)
    have ec : ((pre ++ [x]).length : Int) = ((pre.length + 1 : Nat) : Int) := by simp
    refine Ev.fuel ?_
    simp only [spec_cyPairs.l1, h1, h2, h3, h4, ↓reduceIte, wn pre.length (by omega), cyNear_eq ha hx hg, Option.bind_some, decide_eq_true_eq]
    simp only [pairs1] at hr
    by_cases hd : pdist a x < gap
    · simp only [hd, ↓reduceIte] at hr ⊢
      rw [← ec]
      refine ih (pre ++ [x]) (acc ++ [[i, (pre.length : Int)]]) (by rw [← h]; simp) (by simp; omega) ?_
      rw [ec]
      simpa using hr
    · simp only [hd, ↓reduceIte] at hr ⊢
      rw [← ec]
      refine ih (pre ++ [x]) acc (by rw [← h]; simp) (by omega) ?_
      rw [ec]
      simpa using hr
theorem cyPairs_l0 (l : List S39) (gap : Int) (hl : l.length ≤ 60) (hg : gap ≤ 360) (hp : ∀ x ∈ l, pinB x = true) : ∀ (suf pre : List S39) (acc : List (List Int)), pre ++ suf = l → acc.length + suf.length * 60 ≤ 100000 →
    Ev (fun k => spec_cyPairs.l0 k l gap acc l l.length pre.length) (acc ++ pairsOf gap suf pre.length) := by
  intro suf
  induction suf with
  | nil =>
    intro pre acc h hacc
    have hn : ¬ ((pre.length : Int) < (l.length : Int)) := by rw [← h]; simp
    refine Ev.fuel ?_
    simp only [spec_cyPairs.l0, hn, ↓reduceIte]
    refine Ev.const ?_
    simp [pairsOf]
  | cons x suf ih =>
    intro pre acc h hacc
    have hlen : l.length = pre.length + (suf.length + 1) := by rw [← h]; simp
    simp only [List.length_cons] at hacc
    have h1 : (pre.length : Int) < (l.length : Int) := by omega
    have h2 : (0 : Int) ≤ (pre.length : Int) := by omega
    have h3 : rd_T39 l (pre.length : Int) = x := by rw [← h]; exact getD_mid _ _ _ _
    have hx : pinB x = true := hp x (by rw [← h]; simp)
    have ec : ((pre ++ [x]).length : Int) = ((pre.length + 1 : Nat) : Int) := by simp
    refine Ev.fuel ?_
    simp only [spec_cyPairs.l0, h1, h2, h3, ↓reduceIte, wn pre.length (by omega)]
    rw [← ec]
    refine cyPairs_l1 l gap hl hg hp x hx _ _ _ suf (pre ++ [x]) acc (by rw [← h]; simp) (by omega) ?_
    have pl := pairs1_len gap x pre.length suf ((pre ++ [x]).length : Int)
    rw [wn pre.length (by omega), ← ec]
    have e := ih (pre ++ [x]) (acc ++ pairs1 gap x pre.length suf ((pre ++ [x]).length : Int)) (by rw [← h]; simp) (by simp only [List.length_append] at pl ⊢; omega)
    rw [show pairsOf gap (x :: suf) pre.length = pairs1 gap x pre.length suf (pre.length + 1) ++ pairsOf gap suf (pre.length + 1) from rfl, ← List.append_assoc]
    rw [show ((pre.length : Int) + 1) = ((pre ++ [x]).length : Int) by simp]
    exact e
theorem cyPairs_ev (l : List S39) (gap : Int) (hl : l.length ≤ 60) (hg : gap ≤ 360) (hp : ∀ x ∈ l, pinB x = true) : Ev (fun k => spec_cyPairs.f k l gap) (pairsOf gap l 0) := by
  unfold spec_cyPairs.f
  exact cyPairs_l0 l gap hl hg hp l [] [] rfl (by simp; omega)

/-! distances of all pairs -/
def dist1 (a : S39) (l : List S39) : List Int := l.map (pdist a)
def dists : List S39 → List Int
  | [] => []
  | a :: r => dist1 a r ++ dists r
theorem pairs1_nil (gap : Int) (a : S39) (i : Int) : ∀ (l : List S39) (k : Int), pairs1 gap a i l k = [] ↔ ∀ d ∈ dist1 a l, gap ≤ d := by
  intro l
  induction l with
  | nil => intro k; simp [pairs1, dist1]
  | cons x xs ih =>
    intro k
    have := ih (k + 1)
    simp only [pairs1, dist1, List.map_cons, List.mem_cons, forall_eq_or_imp, List.append_eq_nil_iff] at this ⊢
    rw [this]
    by_cases h : pdist a x < gap
    · simp only [h, ↓reduceIte]
      exact ⟨fun q => absurd q.1 (by simp), fun q => absurd q.1 (by omega)⟩
    · simp only [h, ↓reduceIte, true_and]
      exact ⟨fun q => ⟨by omega, q⟩, fun q => q.2⟩
theorem pairsOf_nil (gap : Int) : ∀ (l : List S39) (i : Int), pairsOf gap l i = [] ↔ ∀ d ∈ dists l, gap ≤ d := by
  intro l
  induction l with
  | nil => intro i; simp [pairsOf, dists]
  | cons a r ih =>
    intro i
    simp only [pairsOf, dists, List.append_eq_nil_iff, ih, pairs1_nil, List.mem_append]
    exact ⟨fun q d hd => hd.elim (q.1 d) (q.2 d), fun q => ⟨fun d hd => q d (Or.inl hd), fun d hd => q d (Or.inr hd)⟩⟩
def leastOf (m : Int) : List Int → Int
  | [] => m
  | d :: ds => leastOf (mn m d) ds
theorem leastOf_append (a b : List Int) : ∀ m, leastOf m (a ++ b) = leastOf (leastOf m a) b := by
  induction a with
  | nil => intro m; rfl
  | cons x xs ih => intro m; exact ih _
theorem leastOf_ge (g : Int) : ∀ (l : List Int) (m : Int), g ≤ leastOf m l ↔ g ≤ m ∧ ∀ d ∈ l, g ≤ d := by
  intro l
  induction l with
  | nil => intro m; simp [leastOf]
  | cons x xs ih =>
    intro m
    simp only [leastOf, ih, List.mem_cons, forall_eq_or_imp, ← and_assoc]
    have : g ≤ mn m x ↔ g ≤ m ∧ g ≤ x := by unfold mn; split <;> omega
    rw [this]
theorem leastOf_le : ∀ (l : List Int) (m : Int), leastOf m l ≤ m := fun l m => ((leastOf_ge (leastOf m l) l m).1 (Int.le_refl _)).1
theorem gap_l1 (l : List S39) (hl : l.length ≤ 60) (hp : ∀ x ∈ l, pinB x = true) (n ni : Int) (r : Int × Bool) (i : Nat) (a : S39) (hi : i < l.length) (hai : rd_T39 l (i : Int) = a) (ha : pinB a = true) :
    ∀ (suf pre : List S39) (m : Int), pre ++ suf = l →
    Ev (fun k => impl_GreatestGap.l0 k l (leastOf m (dist1 a suf)) n (wrap64 (ni + 1))) r →
    Ev (fun k => impl_GreatestGap.l1 k l m (i : Int) pre.length n ni) r := by
  intro suf
  induction suf with
  | nil =>
    intro pre m h hr
    have hn : ¬ ((pre.length : Int) < (l.length : Int)) := by rw [← h]; simp
    refine Ev.fuel ?_
    simp only [impl_GreatestGap.l1, hn, ↓reduceIte]
    exact hr
  | cons x suf ih =>
    intro pre m h hr
    have hlen : l.length = pre.length + (suf.length + 1) := by rw [← h]; simp
    have h1 : (pre.length : Int) < (l.length : Int) := by omega
    have h2 : (0 : Int) ≤ (pre.length : Int) := by omega
    have h3 : rd_T39 l (pre.length : Int) = x := by rw [← h]; exact getD_mid _ _ _ _
    have h5 : (0 : Int) ≤ (i : Int) := by omega
    have h6 : (i : Int) < (l.length : Int) := by omega
    have hx : pinB x = true := hp x (by rw [← h]; simp)
    have ec : ((pre ++ [x]).length : Int) = ((pre.length + 1 : Nat) : Int) := by simp
    refine Ev.fuel ?_
    simp only [impl_GreatestGap.l1, h1, h2, h3, h5, h6, hai, ↓reduceIte, wn pre.length (by omega), pinDistance_eq ha hx, Option.bind_some]
    rw [← ec]
    exact ih (pre ++ [x]) (mn m (pdist a x)) (by rw [← h]; simp) hr
theorem gap_l0 (l : List S39) (hl : l.length ≤ 60) (hp : ∀ x ∈ l, pinB x = true) : ∀ (suf pre : List S39) (m : Int), pre ++ suf = l →
    Ev (fun k => impl_GreatestGap.l0 k l m l.length pre.length) (leastOf m (dists suf), decide (leastOf m (dists suf) > 0)) := by
  intro suf
  induction suf with
  | nil =>
    intro pre m h
    have hn : ¬ ((pre.length : Int) < (l.length : Int)) := by rw [← h]; simp
    refine Ev.fuel ?_
    simp only [impl_GreatestGap.l0, hn, ↓reduceIte]
    exact Ev.now _
  | cons x suf ih =>
    intro pre m h
    have hlen : l.length = pre.length + (suf.length + 1) := by rw [← h]; simp
    have h1 : (pre.length : Int) < (l.length : Int) := by omega
    have h3 : rd_T39 l (pre.length : Int) = x := by rw [← h]; exact getD_mid _ _ _ _
    have hx : pinB x = true := hp x (by rw [← h]; simp)
    have ec : ((pre ++ [x]).length : Int) = ((pre.length + 1 : Nat) : Int) := by simp
    refine Ev.fuel ?_
    simp only [impl_GreatestGap.l0, h1, ↓reduceIte, wn pre.length (by omega)]
    rw [← ec]
    refine gap_l1 l hl hp _ _ _ pre.length x (by omega) h3 hx suf (pre ++ [x]) m (by rw [← h]; simp) ?_
    rw [wn pre.length (by omega), ← ec]
    have e := ih (pre ++ [x]) (leastOf m (dist1 x suf)) (by rw [← h]; simp)
    rw [show dists (x :: suf) = dist1 x suf ++ dists suf from rfl, leastOf_append]
    exact e
theorem specGap_l0 (l : List S39) (hl : l.length ≤ 60) (hp : ∀ x ∈ l, pinB x = true) : ∀ (d : Nat) (g : Int), g - leastOf 180 (dists l) = d → g ≤ 180 → 1 ≤ leastOf 180 (dists l) →
    Ev (fun k => spec_GreatestGap.l0 k l g) (leastOf 180 (dists l), true) := by
  intro d
  induction d with
  | zero =>
    intro g hd hg hm
    have hge : pairsOf g l 0 = [] := (pairsOf_nil g l 0).2 (((leastOf_ge g (dists l) 180).1 (by omega)).2)
    refine Ev.fuel ?_
    simp only [spec_GreatestGap.l0]
    refine Ev.bind (cyPairs_ev l g hl (by omega) hp) ?_
    simp only [hge, List.length_nil, Int.natCast_zero, gt_iff_lt, Int.lt_irrefl, ↓reduceIte]
    refine Ev.const ?_
    rw [show g = leastOf 180 (dists l) by omega]
  | succ d ih =>
    intro g hd hg hm
    have hne : pairsOf g l 0 ≠ [] := fun h => by
      have := (leastOf_ge g (dists l) 180).2 ⟨hg, (pairsOf_nil g l 0).1 h⟩
      omega
    have hpos : ((pairsOf g l 0).length : Int) > 0 := by
      have := List.length_pos_iff.2 hne
      omega
    refine Ev.fuel ?_
    simp only [spec_GreatestGap.l0]
    refine Ev.bind (cyPairs_ev l g hl (by omega) hp) ?_
    simp only [hpos, ↓reduceIte]
    rw [w_id (by omega) (by omega)]
    exact ih (g - 1) (by omega) (by omega) hm
theorem dists_range : ∀ (l : List S39), (∀ x ∈ l, pinB x = true) → ∀ d ∈ dists l, 0 ≤ d := by
  intro l
  induction l with
  | nil => intro _ d hd; simp [dists] at hd
  | cons a r ih =>
    intro hp d hd
    simp only [dists, List.mem_append] at hd
    rcases hd with hd | hd
    · simp only [dist1, List.mem_map] at hd
      obtain ⟨x, hx, rfl⟩ := hd
      exact (pdist_range (hp a (by simp)) (hp x (by simp [hx]))).1
    · exact ih (fun x hx => hp x (by simp [hx])) d hd
theorem gapLaw_ev (l : List S39) (hl : l.length ≤ 1048576) : ∃ r0 r1, Ev (fun k => spec_GreatestGap.f k l) (r0, r1) ∧ Ev (fun k => impl_GreatestGap.f k l) (r0, r1) := by
  unfold spec_GreatestGap.f impl_GreatestGap.f
  have jS : ∀ g : Bool, g = true → Ev (fun k => spec_GreatestGap.j0 k l g) (0, false) := fun g hg => by
    refine Ev.fuel ?_; simp only [spec_GreatestGap.j0, hg, ↓reduceIte]; exact Ev.now _
  by_cases hg : goodPins l = true
  · have hl' := goodPins_len hg
    have hp := goodPins_all hg
    refine ⟨leastOf 180 (dists l), decide (leastOf 180 (dists l) > 0), ?_, ?_⟩
    · refine Ev.bind (cyGood_ev l hl) ?_
      simp only [hg, ↓reduceIte]
      refine Ev.bind (cyPairs_ev l 1 hl' (by omega) hp) ?_
      by_cases hm : 1 ≤ leastOf 180 (dists l)
      · have he : pairsOf 1 l 0 = [] := (pairsOf_nil 1 l 0).2 ((leastOf_ge 1 (dists l) 180).1 hm).2
        simp only [he, List.length_nil, Int.natCast_zero, gt_iff_lt, Int.lt_irrefl, decide_false]
        refine Ev.fuel ?_
        simp only [spec_GreatestGap.j0, Bool.false_eq_true, ↓reduceIte]
        rw [decide_eq_true (show (0 : Int) < leastOf 180 (dists l) by omega)]
        have := leastOf_le (dists l) 180
        exact specGap_l0 l hl' hp (180 - leastOf 180 (dists l)).toNat 180 (by omega) (by omega) hm
      · have hne : pairsOf 1 l 0 ≠ [] := fun h => hm ((leastOf_ge 1 (dists l) 180).2 ⟨by omega, (pairsOf_nil 1 l 0).1 h⟩)
        have hpos : ((pairsOf 1 l 0).length : Int) > 0 := by
          have := List.length_pos_iff.2 hne
          omega
        have h0 : leastOf 180 (dists l) = 0 := by
          have := (leastOf_ge 0 (dists l) 180).2 ⟨by omega, dists_range l hp⟩
          omega
        rw [h0]
        simp only [hpos, decide_true, gt_iff_lt, Int.lt_irrefl, decide_false]
        exact jS _ rfl
    · refine Ev.bind (ArePins_ev l hl) ?_
      simp only [hg, ↓reduceIte]
      exact gap_l0 l hl' hp l [] 180 rfl
  · refine ⟨0, false, ?_, ?_⟩
    · refine Ev.bind (cyGood_ev l hl) ?_
      simp only [hg, Bool.false_eq_true, ↓reduceIte]
      exact jS _ rfl
    · refine Ev.bind (ArePins_ev l hl) ?_
      simp only [hg, Bool.false_eq_true, ↓reduceIte]
      exact Ev.now _
end Go.Proofs.Ythgemodkebahoaa.A
