/- Plain facts on pins: pairs of near pins and the greatest gap. No condition. -/
import Derived.Test.YtclapnindihhnaaS0
import Derived.Test.YtclapnindihhnaaS13
import Derived.Test.YtclapnindihhnaaS14
import Derived.Test.YtclapnindihhnaaS15
import Derived.Test.YtclapnindihhnaaS16
import Derived.Test.YtclapnindihhnaaSQP
set_option linter.unusedVariables false
set_option linter.unusedSimpArgs false
namespace Go.Proofs.Ytclapnindihhnaa.S
open Go.RowKit Go.Proofs.YtclapnindihhnaaW.PrintWords Go.Proofs.YtclapnindihhnaaW.PrintLast Go.Proofs.YtclapnindihhnaaW.PrintMore

def ab (n : Int) : Int := if n > -n then n else -n
def angD (a b : Int) : Int := if ab (a - b) < 360 - ab (a - b) then ab (a - b) else 360 - ab (a - b)
def colP (x : S50) : Int := 4 * x.f0 + x.f2
def pdist (a b : S50) : Int := if ab (colP a - colP b) > 1 then 360 else angD a.f1 b.f1
theorem ab_cases (n : Int) : 0 ≤ n ∧ ab n = n ∨ n < 0 ∧ ab n = -n := by unfold ab; split <;> omega
theorem l1Abs_eq {n : Int} (h0 : -1000000 ≤ n) (h1 : n ≤ 1000000) : spec_l1Abs.f n = some (ab n) := by
  unfold spec_l1Abs.f spec_l1Most.f ab
  rw [w_id (by omega) (by omega)]
  split <;> rfl
theorem cyColumn_eq {x : S50} (h : pinB x = true) : spec_cyColumn.f x.f0 x.f1 x.f2 = some (colP x) := by
  have := (pinB_iff x).1 h
  unfold spec_cyColumn.f colP
  rw [w_id (x := 4 * x.f0) (by omega) (by omega), w_id (by omega) (by omega)]
theorem cyDistance_eq {a b : Int} (ha : 0 ≤ a ∧ a ≤ 359) (hb : 0 ≤ b ∧ b ≤ 359) : spec_cyDistance.f a b = some (angD a b) := by
  unfold spec_cyDistance.f angD spec_l1Least.f
  rw [w_id (x := a - b) (by omega) (by omega), l1Abs_eq (by omega) (by omega)]
  simp only [Option.bind_some]
  have := ab_cases (a - b)
  rw [w_id (x := 360 - ab (a - b)) (by omega) (by omega)]
  split <;> rfl
theorem cyNear_eq {a b : S50} {gap : Int} (ha : pinB a = true) (hb : pinB b = true) (hg : gap ≤ 360) : spec_cyNear.f a.f0 a.f1 a.f2 b.f0 b.f1 b.f2 gap = some (decide (pdist a b < gap)) := by
  have h1 := (pinB_iff a).1 ha
  have h2 := (pinB_iff b).1 hb
  unfold spec_cyNear.f pdist
  rw [cyColumn_eq ha, cyColumn_eq hb]
  simp only [Option.bind_some]
  have hc1 : colP a = 4 * a.f0 + a.f2 := rfl
  have hc2 : colP b = 4 * b.f0 + b.f2 := rfl
  rw [w_id (x := colP a - colP b) (by omega) (by omega), l1Abs_eq (by omega) (by omega), cyDistance_eq ⟨h1.2.2.1, h1.2.2.2.1⟩ ⟨h2.2.2.1, h2.2.2.2.1⟩]
  simp only [Option.bind_some]
  by_cases h : ab (colP a - colP b) ≤ 1
  · rw [if_pos h, if_neg (by omega)]
  · rw [if_neg h, if_pos (by omega)]; exact dec_f (by omega)
theorem distance_eq {a b : Int} (ha : 0 ≤ a ∧ a ≤ 1000) (hb : 0 ≤ b ∧ b ≤ 1000) : impl_distance.f a b = some (ab (a - b)) := by
  unfold impl_distance.f ab mx
  rw [w_id (x := a - b) (by omega) (by omega), w_id (x := b - a) (by omega) (by omega)]
  congr 1
  (repeat' split) <;> omega
theorem pinDistance_eq {a b : S50} (ha : pinB a = true) (hb : pinB b = true) : impl_pinDistance.f a.f0 a.f1 a.f2 b.f0 b.f1 b.f2 = some (pdist a b) := by
  have h1 := (pinB_iff a).1 ha
  have h2 := (pinB_iff b).1 hb
  unfold impl_pinDistance.f pdist angD mn
  rw [w_id (x := 4 * a.f0) (by omega) (by omega), w_id (x := 4 * a.f0 + a.f2) (by omega) (by omega), w_id (x := 4 * b.f0) (by omega) (by omega), w_id (x := 4 * b.f0 + b.f2) (by omega) (by omega),
    distance_eq ⟨by omega, by omega⟩ ⟨by omega, by omega⟩, distance_eq ⟨by omega, by omega⟩ ⟨by omega, by omega⟩]
  simp only [Option.bind_some]
  have := ab_cases (a.f1 - b.f1)
  rw [w_id (x := 360 - ab (a.f1 - b.f1)) (by omega) (by omega)]
  by_cases h : ab (colP a - colP b) > 1
  · rw [if_pos h, if_pos (show ab (4 * a.f0 + a.f2 - (4 * b.f0 + b.f2)) > 1 from h)]
  · rw [if_neg h, if_neg (show ¬ ab (4 * a.f0 + a.f2 - (4 * b.f0 + b.f2)) > 1 from h)]
    congr 1
    (repeat' split) <;> omega
theorem pdist_range {a b : S50} (ha : pinB a = true) (hb : pinB b = true) : 0 ≤ pdist a b ∧ pdist a b ≤ 360 := by
  have h1 := (pinB_iff a).1 ha
  have h2 := (pinB_iff b).1 hb
  have := ab_cases (a.f1 - b.f1)
  unfold pdist angD
  (repeat' split) <;> omega

/-! pairs -/
def pairs1 (gap : Int) (a : S50) (i : Int) : List S50 → Int → List (List Int)
  | [], _ => []
  | x :: xs, k => (if pdist a x < gap then [[i, k]] else []) ++ pairs1 gap a i xs (k + 1)
def pairsOf (gap : Int) : List S50 → Int → List (List Int)
  | [], _ => []
  | a :: r, i => pairs1 gap a i r (i + 1) ++ pairsOf gap r (i + 1)
theorem pairs1_len (gap : Int) (a : S50) (i : Int) : ∀ (l : List S50) (k : Int), (pairs1 gap a i l k).length ≤ l.length := by
  intro l
  induction l with
  | nil => intro k; simp [pairs1]
  | cons x xs ih =>
    intro k
    have := ih (k + 1)
    simp only [pairs1, List.length_append, List.length_cons]
    split <;> simp <;> omega
theorem cyPairs_l1 (l : List S50) (gap : Int) (hl : l.length ≤ 60) (hg : gap ≤ 360) (hp : ∀ x ∈ l, pinB x = true) (a : S50) (ha : pinB a = true) (i ni : Int) (r : List (List Int)) :
    ∀ (suf pre : List S50) (acc : List (List Int)), pre ++ suf = l → acc.length + suf.length ≤ 1000000 →
    Ev (fun k => spec_cyPairs.l0 k l gap (acc ++ pairs1 gap a i suf pre.length) l l.length (wrap64 (ni + 1))) r →
    Ev (fun k => spec_cyPairs.l1 k l gap acc i pre.length l l.length ni a.f0 a.f1 a.f2) r := by
  intro suf
  induction suf with
  | nil =>
    intro pre acc h hacc hr
    have hn : ¬ ((pre.length : Int) < (l.length : Int)) := by rw [← h]; simp
    refine Ev.fuel ?_
    simp only [spec_cyPairs.l1, hn, ↓reduceIte]
    simpa [pairs1] using hr
  | cons x suf ih =>
    intro pre acc h hacc hr
    have hlen : l.length = pre.length + (suf.length + 1) := by rw [← h]; simp
    simp only [List.length_cons] at hacc
    have h1 : (pre.length : Int) < (l.length : Int) := by omega
    have h2 : (0 : Int) ≤ (pre.length : Int) := by omega
    have h3 : rd_T50 l (pre.length : Int) = x := by rw [← h]; exact getD_mid _ _ _ _
    have h4 : acc.length < 5864062014805 := by omega
    have hx : pinB x = true := hp x (by rw [← h]; simp)
    have ec : ((pre ++ [x]).length : Int) = ((pre.length + 1 : Nat) : Int) := by simp
    refine Ev.fuel ?_
    simp only [spec_cyPairs.l1, h1, h2, h3, h4, ↓reduceIte, wn pre.length (by omega), cyNear_eq ha hx hg, Option.bind_some, decide_eq_true_eq]
    simp only [pairs1] at hr
    by_cases hd : pdist a x < gap
    · simp only [hd, ↓reduceIte] at hr ⊢
      rw [← ec]
      refine ih (pre ++ [x]) (acc ++ [[i, (pre.length : Int)]]) (by rw [← h]; simp) (by simp; omega) ?_
      rw [ec]
      simpa using hr
    · simp only [hd, ↓reduceIte] at hr ⊢
      rw [← ec]
      refine ih (pre ++ [x]) acc (by rw [← h]; simp) (by omega) ?_
      rw [ec]
      simpa using hr
theorem cyPairs_l0 (l : List S50) (gap : Int) (hl : l.length ≤ 60) (hg : gap ≤ 360) (hp : ∀ x ∈ l, pinB x = true) : ∀ (suf pre : List S50) (acc : List (List Int)), pre ++ suf = l → acc.length + suf.length * 60 ≤ 100000 →
    Ev (fun k => spec_cyPairs.l0 k l gap acc l l.length pre.length) (acc ++ pairsOf gap suf pre.length) := by
  intro suf
  induction suf with
  | nil =>
    intro pre acc h hacc
    have hn : ¬ ((pre.length : Int) < (l.length : Int)) := by rw [← h]; simp
    refine Ev.fuel ?_
    simp only [spec_cyPairs.l0, hn, ↓reduceIte]
    refine Ev.const ?_
    simp [pairsOf]
  | cons x suf ih =>
    intro pre acc h hacc
    have hlen : l.length = pre.length + (suf.length + 1) := by rw [← h]; simp
    simp only [List.length_cons] at hacc
    have h1 : (pre.length : Int) < (l.length : Int) := by omega
    have h2 : (0 : Int) ≤ (pre.length : Int) := by omega
    have h3 : rd_T50 l (pre.length : Int) = x := by rw [← h]; exact getD_mid _ _ _ _
    have hx : pinB x = true := hp x (by rw [← h]; simp)
    have ec : ((pre ++ [x]).length : Int) = ((pre.length + 1 : Nat) : Int) := by simp
    refine Ev.fuel ?_
    simp only [spec_cyPairs.l0, h1, h2, h3, ↓reduceIte, wn pre.length (by omega)]
    rw [← ec]
    refine cyPairs_l1 l gap hl hg hp x hx _ _ _ suf (pre ++ [x]) acc (by rw [← h]; simp) (by omega) ?_
    have pl := pairs1_len gap x pre.length suf ((pre ++ [x]).length : Int)
    rw [wn pre.length (by omega), ← ec]
    have e := ih (pre ++ [x]) (acc ++ pairs1 gap x pre.length suf ((pre ++ [x]).length : Int)) (by rw [← h]; simp) (by simp only [List.length_append] at pl ⊢; omega)
    rw [show pairsOf gap (x :: suf) pre.length = pairs1 gap x pre.length suf (pre.length + 1) ++ pairsOf gap suf (pre.length + 1) from rfl, ← List.append_assoc]
    rw [show ((pre.length : Int) + 1) = ((pre ++ [x]).length : Int) by simp]
    exact e
theorem cyPairs_ev (l : List S50) (gap : Int) (hl : l.length ≤ 60) (hg : gap ≤ 360) (hp : ∀ x ∈ l, pinB x = true) : Ev (fun k => spec_cyPairs.f k l gap) (pairsOf gap l 0) := by
  unfold spec_cyPairs.f
  exact cyPairs_l0 l gap hl hg hp l [] [] rfl (by simp; omega)

/-! distances of all pairs -/
end Go.Proofs.Ytclapnindihhnaa.S
