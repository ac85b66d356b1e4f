/- The plain part of the law of transpositions. No condition. -/
import Derived.Test.YtlhhjdlaljmppaaT0
import Derived.Test.YtlhhjdlaljmppaaT1
import Derived.Test.YtlhhjdlaljmppaaT2
import Derived.Test.YtlhhjdlaljmppaaT3
import Derived.Test.YtlhhjdlaljmppaaT6
import Derived.Test.YtlhhjdlaljmppaaT7
import Derived.Test.YtlhhjdlaljmppaaT10
import Derived.Test.YtlhhjdlaljmppaaT11
import Derived.Test.YtlhhjdlaljmppaaT12
import Derived.Test.YtlhhjdlaljmppaaT18
import Derived.Test.YtlhhjdlaljmppaaTQDS
import Derived.Test.YtlhhjdlaljmppaaTQBT
import Derived.Test.YtlhhjdlaljmppaaTQZ
set_option linter.unusedVariables false
set_option linter.unusedSimpArgs false
namespace Go.Proofs.Ytlhhjdlaljmppaa.T
open Go.RowKit Go.Proofs.YtlhhjdlaljmppaaW.PrintWords Go.Proofs.YtlhhjdlaljmppaaW.PrintLast Go.Proofs.YtlhhjdlaljmppaaW.PrintMore

/-! ### Comparisons -/
theorem sameInts_l0 (l : List Int) (hl : l.length ≤ 1048576) : ∀ (m i : Nat), i + m = l.length → Ev (fun k => laws_sameInts.l0 k l l l.length i) true := by
  intro m
  induction m with
  | zero =>
    intro i h
    refine Ev.fuel ?_
    simp only [laws_sameInts.l0, show ¬ ((i : Int) < (l.length : Int)) from by omega, ↓reduceIte]
    exact Ev.now _
  | succ m ih =>
    intro i h
    refine Ev.fuel ?_
    simp only [laws_sameInts.l0, show (i : Int) < (l.length : Int) from by omega, show (0 : Int) ≤ (i : Int) from by omega, ↓reduceIte, wn i (by omega)]
    exact ih (i + 1) (by omega)
theorem sameInts_ev (l : List Int) (hl : l.length ≤ 1048576) : Ev (fun k => laws_sameInts.f k l l) true := by
  unfold laws_sameInts.f
  simp only [↓reduceIte]
  exact sameInts_l0 l hl l.length 0 (by omega)
theorem pSameNotes_l0 (l : List S60) (hl : l.length ≤ 1048576) : ∀ (m i : Nat), i + m = l.length → Ev (fun k => laws_pSameNotes.l0 k l l l.length i) true := by
  intro m
  induction m with
  | zero =>
    intro i h
    refine Ev.fuel ?_
    simp only [laws_pSameNotes.l0, show ¬ ((i : Int) < (l.length : Int)) from by omega, ↓reduceIte]
    exact Ev.now _
  | succ m ih =>
    intro i h
    refine Ev.fuel ?_
    simp only [laws_pSameNotes.l0, show (i : Int) < (l.length : Int) from by omega, show (0 : Int) ≤ (i : Int) from by omega, ↓reduceIte, wn i (by omega), beq_self_eq_true, Bool.not_true, Bool.or_self, Bool.false_eq_true]
    exact ih (i + 1) (by omega)
theorem pSameNotes_ev (l : List S60) (hl : l.length ≤ 1048576) : Ev (fun k => laws_pSameNotes.f k l l) true := by
  unfold laws_pSameNotes.f
  simp only [↓reduceIte]
  exact pSameNotes_l0 l hl l.length 0 (by omega)
theorem pIn_l0 (l : List Int) (v : Int) (hl : l.length ≤ 1048576) : ∀ (suf pre : List Int), pre ++ suf = l → Ev (fun k => laws_pIn.l0 k v l (l.length : Int) pre.length) (decide (v ∈ suf)) := by
  intro suf
  induction suf with
  | nil =>
    intro pre h
    have : pre.length = l.length := by rw [← h]; simp
    refine Ev.fuel ?_
    simp only [laws_pIn.l0, show ¬ ((pre.length : Int) < (l.length : Int)) from by omega, ↓reduceIte]
    exact Ev.const (by simp)
  | cons x suf ih =>
    intro pre h
    have hlen : l.length = pre.length + (suf.length + 1) := by rw [← h]; simp
    have c3 : rd l (pre.length : Int) = x := by rw [← h]; exact getD_mid _ _ _ _
    refine Ev.fuel ?_
    simp only [laws_pIn.l0, show (pre.length : Int) < (l.length : Int) from by omega, show (0 : Int) ≤ (pre.length : Int) from by omega, c3, ↓reduceIte, wn pre.length (by omega)]
    by_cases hx : x = v
    · simp only [hx, ↓reduceIte]
      exact Ev.const (by simp)
    · simp only [hx, ↓reduceIte]
      have e := ih (pre ++ [x]) (by rw [← h]; simp)
      have e2 : decide (v ∈ x :: suf) = decide (v ∈ suf) := by
        apply decide_eq_decide.2
        simp only [List.mem_cons]
        exact ⟨fun h => h.resolve_left (fun q => hx q.symm), .inr⟩
      rw [e2]
      simpa using e
theorem pIn_ev (l : List Int) (v : Int) (hl : l.length ≤ 1048576) : Ev (fun k => laws_pIn.f k l v) (decide (v ∈ l)) := by
  unfold laws_pIn.f
  exact pIn_l0 l v hl l [] rfl
/-! ### What the functions hand back -/
def lossRes (l : List Int) (r : Int) (s : List S60) (b : Int) : Int × Bool := if (goodIns l r = true ∧ goodScore s = true) ∧ (-24 ≤ b ∧ b ≤ 24) then (lossOf l s b, true) else (0, false)
theorem lossBoth_ev (l : List Int) (r : Int) (s : List S60) (b : Int) (hl : l.length ≤ 1048576) (hs : s.length ≤ 1048576) : Ev (fun k => impl_TransposeLoss.f k l r s b) (lossRes l r s b) ∧ Ev (fun k => spec_TransposeLoss.f k l r s b) (lossRes l r s b) := by
  have h1 : Ev (fun k => impl_TransposeLoss.f k l r s b) (lossRes l r s b) := by
    unfold impl_TransposeLoss.f lossRes
    refine Ev.bind (IsInstrument_ev l r hl) ?_
    by_cases hg : goodIns l r = true
    · simp only [hg, ↓reduceIte, true_and]
      refine Ev.bind (IsScore_ev s hs) ?_
      by_cases hq : goodScore s = true
      · simp only [hq, ↓reduceIte, true_and, isBy_eq, Option.bind_some]
        by_cases hb : -24 ≤ b ∧ b ≤ 24
        · simp only [hb, and_self, decide_true, ↓reduceIte]
          exact Ev.bind (transposeLoss_ev l r s b hl (goodScore_len hq) (goodScore_all hq) hb) (Ev.now _)
        · simp only [hb, decide_false, Bool.false_eq_true, ↓reduceIte]; exact Ev.now _
      · simp only [hq, Bool.false_eq_true, ↓reduceIte, false_and]; exact Ev.now _
    · simp only [hg, Bool.false_eq_true, ↓reduceIte, false_and]; exact Ev.now _
  obtain ⟨r0, r1, e1, e2⟩ := lossLaw_ev l r s b hl hs
  rw [Ev.uniq e2 h1] at e1
  exact ⟨h1, e1⟩
def tableRes (l : List Int) (r : Int) (s : List S60) : List Int × Bool := if goodIns l r = true ∧ goodScore s = true then (tabOf (lossOf l s) 49 (-24), true) else ([], false)
theorem tableBoth_ev (l : List Int) (r : Int) (s : List S60) (hl : l.length ≤ 1048576) (hs : s.length ≤ 1048576) : Ev (fun k => impl_LossTable.f k l r s) (tableRes l r s) ∧ Ev (fun k => spec_LossTable.f k l r s) (tableRes l r s) := by
  have h2 : Ev (fun k => spec_LossTable.f k l r s) (tableRes l r s) := by
    unfold spec_LossTable.f tableRes
    refine Ev.bind (inAsked_ev l r s hl hs) ?_
    by_cases hg : goodIns l r = true ∧ goodScore s = true
    · rw [if_pos hg]
      simp only [hg.1, hg.2, Bool.and_self, ↓reduceIte]
      exact specTable_l0 l r s hl (goodScore_len hg.2) (goodScore_all hg.2) 49 (-24) [] (by omega) (by omega) (by simp)
    · rw [if_neg hg]
      have : (goodIns l r && goodScore s) = false := by cases h : (goodIns l r && goodScore s) with | false => rfl | true => exact absurd (Bool.and_eq_true _ _ ▸ h) hg
      simp only [this, Bool.false_eq_true, ↓reduceIte]
      exact Ev.now _
  obtain ⟨r0, r1, _, e1, e2⟩ := tableLaw_ev l r s hl hs
  rw [Ev.uniq e1 h2] at e2
  exact ⟨e2, h2⟩
def fullRes (l : List Int) (r : Int) (s : List S60) : List Int × Bool := if goodIns l r = true ∧ goodScore s = true then (fullOf (lossOf l s) 49 (-24), true) else ([], false)
theorem fullBoth_ev (l : List Int) (r : Int) (s : List S60) (hl : l.length ≤ 1048576) (hs : s.length ≤ 1048576) : Ev (fun k => impl_FullTranspositions.f k l r s) (fullRes l r s) ∧ Ev (fun k => spec_FullTranspositions.f k l r s) (fullRes l r s) := by
  have h2 : Ev (fun k => spec_FullTranspositions.f k l r s) (fullRes l r s) := by
    unfold spec_FullTranspositions.f fullRes
    refine Ev.bind (inAsked_ev l r s hl hs) ?_
    by_cases hg : goodIns l r = true ∧ goodScore s = true
    · rw [if_pos hg]
      simp only [hg.1, hg.2, Bool.and_self, ↓reduceIte]
      exact specFull_l0 l r s hl (goodScore_len hg.2) (goodScore_all hg.2) 49 (-24) [] (by omega) (by omega) (by simp)
    · rw [if_neg hg]
      have : (goodIns l r && goodScore s) = false := by cases h : (goodIns l r && goodScore s) with | false => rfl | true => exact absurd (Bool.and_eq_true _ _ ▸ h) hg
      simp only [this, Bool.false_eq_true, ↓reduceIte]
      exact Ev.now _
  obtain ⟨r0, r1, _, e1, e2⟩ := fullLaw_ev l r s hl hs
  rw [Ev.uniq e1 h2] at e2
  exact ⟨e2, h2⟩
def bestAt (l : List Int) (s : List S60) : Int × Int := (pairsI 1 24).foldl (bestStep (lossOf l s)) (0, lossOf l s 0)
def bestRes (l : List Int) (r : Int) (s : List S60) : Int × Int × Bool := if goodIns l r = true ∧ goodScore s = true then ((bestAt l s).1, (bestAt l s).2, true) else (0, 0, false)
theorem bestBoth_ev (l : List Int) (r : Int) (s : List S60) (hl : l.length ≤ 1048576) (hs : s.length ≤ 1048576) : Ev (fun k => impl_BestTransposition.f k l r s) (bestRes l r s) ∧ Ev (fun k => spec_BestTransposition.f k l r s) (bestRes l r s) := by
  have h1 : Ev (fun k => impl_BestTransposition.f k l r s) (bestRes l r s) := by
    unfold impl_BestTransposition.f bestRes
    refine Ev.bind (IsInstrument_ev l r hl) ?_
    by_cases hg : goodIns l r = true
    · simp only [hg, ↓reduceIte, true_and]
      refine Ev.bind (IsScore_ev s hs) ?_
      by_cases hq : goodScore s = true
      · have hn := goodScore_all hq
        have h30 := goodScore_len hq
        simp only [hq, ↓reduceIte]
        have eb : Ev (fun k => impl_bestBy_T.f k 24 l r s) (bestAt l s) := by
          unfold impl_bestBy_T.f bestAt
          exact Ev.bind (closure_ev l r s 0 hl h30 hn (by omega)) (bestBy_l0 l r s hl h30 hn 24 1 0 _ (by omega) (by omega))
        exact Ev.bind eb (Ev.now _)
      · simp only [hq, Bool.false_eq_true, ↓reduceIte]; exact Ev.now _
    · simp only [hg, Bool.false_eq_true, ↓reduceIte, false_and]; exact Ev.now _
  obtain ⟨r0, r1, r2, e1, e2⟩ := bestTrLaw_ev l r s hl hs
  rw [Ev.uniq e2 h1] at e1
  exact ⟨h1, e1⟩
/-! ### The best one is the first of the least -/
def posOf (x : Int) : Int := if x ≤ 0 then -2 * x else 2 * x + 1
def BestInv (f : Int → Int) (d : Int) (p : Int × Int) : Prop := p.2 = f p.1 ∧ (-d < p.1 ∧ p.1 < d) ∧ ∀ x, -d < x → x < d → p.2 ≤ f x ∧ (f x = p.2 → posOf p.1 ≤ posOf x)
theorem bestInv_step (f : Int → Int) (d : Int) (p : Int × Int) (hd : 1 ≤ d) (h : BestInv f d p) : BestInv f (d + 1) (bestStep f (bestStep f p (-d)) d) := by
  obtain ⟨b, m⟩ := p
  obtain ⟨h1, ⟨h2, h3⟩, h4⟩ := h
  simp only at h1 h2 h3 h4
  have split : ∀ x : Int, -(d + 1) < x → x < d + 1 → x = -d ∨ x = d ∨ (-d < x ∧ x < d) := by intro x h5 h6; omega
  unfold bestStep BestInv
  by_cases g1 : f (-d) < m
  · simp only [g1, ↓reduceIte]
    by_cases g2 : f d < f (-d)
    · simp only [g2, ↓reduceIte]
      refine ⟨trivial, by omega, fun x h5 h6 => ?_⟩
      rcases split x h5 h6 with rfl | rfl | ⟨h7, h8⟩
      · exact ⟨by omega, fun e => by omega⟩
      · exact ⟨Int.le_refl _, fun _ => Int.le_refl _⟩
      · have := (h4 x h7 h8).1; exact ⟨by omega, fun e => by omega⟩
    · simp only [g2, ↓reduceIte]
      refine ⟨trivial, by omega, fun x h5 h6 => ?_⟩
      rcases split x h5 h6 with rfl | rfl | ⟨h7, h8⟩
      · exact ⟨Int.le_refl _, fun _ => Int.le_refl _⟩
      · refine ⟨by omega, fun _ => ?_⟩
        unfold posOf
        rw [if_pos (by omega), if_neg (by omega)]
        omega
      · have := (h4 x h7 h8).1; exact ⟨by omega, fun e => by omega⟩
  · simp only [g1, ↓reduceIte]
    have pb : posOf b ≤ posOf (-d) := by
      unfold posOf
      rw [if_pos (show -d ≤ 0 by omega)]
      split <;> omega
    by_cases g2 : f d < m
    · simp only [g2, ↓reduceIte]
      refine ⟨trivial, by omega, fun x h5 h6 => ?_⟩
      rcases split x h5 h6 with rfl | rfl | ⟨h7, h8⟩
      · exact ⟨by omega, fun e => by omega⟩
      · exact ⟨Int.le_refl _, fun _ => Int.le_refl _⟩
      · have := (h4 x h7 h8).1; exact ⟨by omega, fun e => by omega⟩
    · simp only [g2, ↓reduceIte]
      refine ⟨h1, by omega, fun x h5 h6 => ?_⟩
      rcases split x h5 h6 with rfl | rfl | ⟨h7, h8⟩
      · exact ⟨by omega, fun _ => pb⟩
      · refine ⟨by omega, fun _ => ?_⟩
        have : posOf (-x) ≤ posOf x := by
          unfold posOf
          rw [if_pos (by omega), if_neg (by omega)]
          omega
        omega
      · exact h4 x h7 h8
theorem bestInv_all (f : Int → Int) : ∀ (n : Nat) (d : Int) (p : Int × Int), 1 ≤ d → BestInv f d p → BestInv f (d + n) ((pairsI d n).foldl (bestStep f) p) := by
  intro n
  induction n with
  | zero => intro d p _ h; simpa [pairsI] using h
  | succ n ih =>
    intro d p hd h
    simp only [pairsI, List.foldl_cons]
    have := ih (d + 1) _ (by omega) (bestInv_step f d p hd h)
    rw [show d + ((n + 1 : Nat) : Int) = d + 1 + (n : Int) from by omega]
    exact this
theorem bestAt_inv (l : List Int) (s : List S60) : BestInv (lossOf l s) 25 (bestAt l s) := by
  have := bestInv_all (lossOf l s) 24 1 (0, lossOf l s 0) (by omega) ⟨rfl, by simp, fun x h1 h2 => by
    have : x = 0 := by omega
    subst this
    exact ⟨Int.le_refl _, fun _ => Int.le_refl _⟩⟩
  exact this
theorem pos_sq {b x : Int} (h : posOf b ≤ posOf x) : ¬ (x * x < b * b) ∧ (x = -b → ¬ x < b) := by
  have ab : (b ≤ x ∨ b ≤ -x) ∧ (-b ≤ x ∨ -b ≤ -x) := by
    unfold posOf at h
    constructor <;> (split at h <;> split at h <;> omega)
  refine ⟨fun hlt => ?_, fun e h2 => ?_⟩
  · have h1 : b * b ≤ x * x := by
      have e : ∀ y : Int, y * y = (y.natAbs : Int) * (y.natAbs : Int) := fun y => (Int.natAbs_mul_self' y).symm
      rw [e b, e x]
      have : b.natAbs ≤ x.natAbs := by omega
      exact_mod_cast Nat.mul_le_mul this this
    omega
  · subst e
    unfold posOf at h
    split at h <;> split at h <;> omega
/-! ### Tables -/
theorem tabOf_at (f : Int → Int) : ∀ (n : Nat) (b : Int) (i : Nat), i < n → (tabOf f n b).getD i 0 = f (b + i) := by
  intro n
  induction n with
  | zero => intro b i h; omega
  | succ n ih =>
    intro b i h
    cases i with
    | zero => simp [tabOf]
    | succ i =>
      have := ih (b + 1) i (by omega)
      simp only [tabOf, List.getD_cons_succ, this]
      congr 1
      omega
theorem fullOf_mem (f : Int → Int) (x : Int) : ∀ (n : Nat) (b : Int), x ∈ fullOf f n b ↔ (b ≤ x ∧ x < b + n) ∧ f x = 0 := by
  intro n
  induction n with
  | zero => intro b; simp [fullOf]; omega
  | succ n ih =>
    intro b
    simp only [fullOf, List.mem_append, ih]
    by_cases e : x = b
    · subst e
      by_cases z : f x = 0
      · simp [z]; omega
      · simp [z]
    · have : x ∉ (if f b = 0 then [b] else []) := by split <;> simp [e]
      simp only [this, false_or]
      constructor
      · rintro ⟨h, z⟩; exact ⟨by omega, z⟩
      · rintro ⟨h, z⟩; exact ⟨by omega, z⟩
/-! ### Moved scores and missing pitches -/
theorem implTr_l0 (b : Int) (l : List S60) (hl : l.length ≤ 30) : ∀ (m i : Nat) (x : List S60), i + m = l.length → x.length = l.length → (∀ j : Nat, i ≤ j → x[j]? = l[j]?) → (∀ j : Nat, j < i → x[j]? = (l.map fun y => (⟨wrap64 (y.f0 + b), y.f1, y.f2⟩ : S60))[j]?) →
    Ev (fun k => impl_TransposeScore.l0 k b x (l.length : Int) i) (chRes (l.map fun y => ⟨wrap64 (y.f0 + b), y.f1, y.f2⟩)) := by
  intro m
  induction m with
  | zero =>
    intro i x h hx h1 h2
    have e : x = l.map fun y => (⟨wrap64 (y.f0 + b), y.f1, y.f2⟩ : S60) := by
      apply List.ext_getElem?
      intro j
      by_cases hj : j < i
      · exact h2 j hj
      · rw [List.getElem?_eq_none (by omega), List.getElem?_eq_none (by simp; omega)]
    refine Ev.fuel ?_
    simp only [impl_TransposeScore.l0, show ¬ ((i : Int) < (l.length : Int)) from by omega, ↓reduceIte]
    rw [e]
    have es : Ev (fun k => impl_scoreOf.f k (l.map fun y => (⟨wrap64 (y.f0 + b), y.f1, y.f2⟩ : S60))) (chRes (l.map fun y => ⟨wrap64 (y.f0 + b), y.f1, y.f2⟩)) := by
      unfold impl_scoreOf.f chRes
      refine Ev.bind (IsScore_ev _ (by simp; omega)) ?_
      split
      · exact Ev.now _
      · exact Ev.now _
    exact Ev.bind es (Ev.now _)
  | succ m ih =>
    intro i x h hx h1 h2
    have hi : i < l.length := by omega
    have c3 : rd_T60 x (i : Int) = l[i] := by
      have := h1 i (Nat.le_refl _)
      unfold rd_T60
      rw [Int.toNat_natCast, List.getD_eq_getElem?_getD, this, List.getElem?_eq_getElem hi]
      rfl
    refine Ev.fuel ?_
    simp only [impl_TransposeScore.l0, show (i : Int) < (l.length : Int) from by omega, show (0 : Int) ≤ (i : Int) from by omega, show (i : Int) < (x.length : Int) from by omega, ↓reduceIte, wn i (by omega), Int.toNat_natCast, c3]
    refine ih (i + 1) _ (by omega) (by simp [hx]) (fun j hj => ?_) (fun j hj => ?_)
    · rw [List.getElem?_set_ne (by omega)]; exact h1 j (by omega)
    · by_cases e : j = i
      · subst e
        rw [List.getElem?_set_self (by omega), List.getElem?_map, List.getElem?_eq_getElem hi]
        rfl
      · rw [List.getElem?_set_ne (by omega)]; exact h2 j (by omega)
def trRes (l : List S60) (b : Int) : List S60 × Bool := if goodScore l = true ∧ (-72 ≤ b ∧ b ≤ 72) then chRes (chOf b 0 l) else ([], false)
theorem chOf_good (b : Int) (l : List S60) (h : goodScore l = true) : chOf b 0 l = l.map fun y => ⟨wrap64 (y.f0 + b), y.f1, y.f2⟩ := by
  unfold chOf
  apply List.map_congr_left
  intro x hx
  have := (noteB_iff x).1 (goodScore_all h x hx)
  rw [w_id (x := x.f1 + 0) (by omega) (by omega), Int.add_zero]
theorem trBoth_ev (l : List S60) (b : Int) (hl : l.length ≤ 1048576) : Ev (fun k => impl_TransposeScore.f k l b) (trRes l b) ∧ Ev (fun k => spec_TransposeScore.f k l b) (trRes l b) := by
  constructor
  · have jT : ∀ g : Bool, g = true → Ev (fun k => impl_TransposeScore.j0 k l b g) ([], false) := by
      intro g hg
      refine Ev.fuel ?_
      simp only [impl_TransposeScore.j0, hg, ↓reduceIte]; exact Ev.now _
    unfold impl_TransposeScore.f trRes
    refine Ev.bind (IsScore_ev l hl) ?_
    by_cases hg : goodScore l = true
    · simp only [hg, ↓reduceIte, true_and]
      by_cases hb : b < -72
      · simp only [hb, ↓reduceIte]
        rw [if_neg (by omega)]
        exact jT _ rfl
      · simp only [hb, ↓reduceIte]
        by_cases hb2 : b > 72
        · rw [if_neg (by omega)]
          exact jT _ (by simp [hb2])
        · rw [if_pos (by omega)]
          simp only [hb2, decide_false]
          refine Ev.fuel ?_
          simp only [impl_TransposeScore.j0, Bool.false_eq_true, ↓reduceIte, cloneNotes_eq l hl, Option.bind_some]
          rw [chOf_good b l hg]
          exact implTr_l0 b l (goodScore_len hg) l.length 0 l (by omega) rfl (fun _ _ => rfl) (fun j hj => by omega)
    · simp only [hg, Bool.false_eq_true, ↓reduceIte, false_and]
      exact jT _ rfl
  · unfold spec_TransposeScore.f trRes
    refine Ev.bind (ntGood_ev l hl) ?_
    by_cases hg : goodScore l = true
    · simp only [hg, ↓reduceIte, true_and, l1In_eq, Option.bind_some]
      by_cases hb : -72 ≤ b ∧ b ≤ 72
      · simp only [hb, and_self, decide_true, ↓reduceIte]
        exact Ev.bind (ntChanged_ev b 0 l hl) (Ev.now _)
      · simp only [hb, decide_false, Bool.false_eq_true, ↓reduceIte]; exact Ev.now _
    · simp only [hg, Bool.false_eq_true, ↓reduceIte, false_and]; exact Ev.now _
theorem missing_l0 (p : List Int) (r : Int) (hp : p.length ≤ 1048576) (s : List S60) (hs : s.length ≤ 30) : ∀ (suf pre : List S60) (acc : List Int), pre ++ suf = s → acc.length ≤ pre.length →
    ∃ q : List Int, Ev (fun k => impl_MissingPitches.l0 k acc s (s.length : Int) pre.length p r) (q, true) ∧ (q = [] ↔ acc = [] ∧ ∀ x ∈ suf, x.f0 ∈ p) := by
  intro suf
  induction suf with
  | nil =>
    intro pre acc h ha
    have hpre : pre.length = s.length := by rw [← h]; simp
    refine ⟨Lib.compact (SI.sortF acc), Ev.fuel ?_, ?_⟩
    · simp only [impl_MissingPitches.l0, show ¬ ((pre.length : Int) < (s.length : Int)) from by omega, ↓reduceIte]
      have : impl_sortedSet.f acc = some (Lib.compact (SI.sortF acc)) := by
        unfold impl_sortedSet.f SI.setF
        rw [if_pos (by omega)]
      simp only [this, Option.bind_some]
      exact Ev.now _
    · have hm : ∀ x, x ∈ Lib.compact (SI.sortF acc) ↔ x ∈ acc := fun x => by rw [mem_compact, (SI.sortF_perm acc).mem_iff]
      constructor
      · intro e
        refine ⟨?_, by simp⟩
        rw [e] at hm
        cases acc with
        | nil => rfl
        | cons x xs => exact absurd ((hm x).2 (List.mem_cons_self ..)) (by simp)
      · rintro ⟨rfl, _⟩
        cases hq : Lib.compact (SI.sortF []) with
        | nil => rfl
        | cons x xs => rw [hq] at hm; exact absurd ((hm x).1 (List.mem_cons_self ..)) (by simp)
  | cons x suf ih =>
    intro pre acc h ha
    have hlen : s.length = pre.length + (suf.length + 1) := by rw [← h]; simp
    have c3 : rd_T60 s (pre.length : Int) = x := by rw [← h]; exact getD_mid _ _ _ _
    by_cases hx : x.f0 ∈ p
    · obtain ⟨q, e, hq⟩ := ih (pre ++ [x]) acc (by rw [← h]; simp) (by simp; omega)
      refine ⟨q, Ev.fuel ?_, ?_⟩
      · simp only [impl_MissingPitches.l0, show (pre.length : Int) < (s.length : Int) from by omega, show (0 : Int) ≤ (pre.length : Int) from by omega, c3, ↓reduceIte, wn pre.length (by omega)]
        refine Ev.bind (Contains_ev p x.f0 hp) ?_
        simp only [hx, decide_true, ↓reduceIte]
        simpa using e
      · rw [hq]; simp [hx]
    · obtain ⟨q, e, hq⟩ := ih (pre ++ [x]) (acc ++ [x.f0]) (by rw [← h]; simp) (by simp; omega)
      refine ⟨q, Ev.fuel ?_, ?_⟩
      · simp only [impl_MissingPitches.l0, show (pre.length : Int) < (s.length : Int) from by omega, show (0 : Int) ≤ (pre.length : Int) from by omega, c3, ↓reduceIte, wn pre.length (by omega), show acc.length < 17592186044416 from by omega]
        refine Ev.bind (Contains_ev p x.f0 hp) ?_
        simp only [hx, decide_false, Bool.false_eq_true, ↓reduceIte]
        simpa using e
      · rw [hq]; simp [hx]
theorem missing_ev (p : List Int) (r : Int) (s : List S60) (hp : p.length ≤ 1048576) (hg : goodIns p r = true) (hs : goodScore s = true) : ∃ q : List Int, Ev (fun k => impl_MissingPitches.f k p r s) (q, true) ∧ (q = [] ↔ ∀ x ∈ s, x.f0 ∈ p) := by
  have h30 := goodScore_len hs
  obtain ⟨q, e, hq⟩ := missing_l0 p r hp s h30 s [] [] rfl (Nat.le_refl _)
  refine ⟨q, ?_, by rw [hq]; simp⟩
  unfold impl_MissingPitches.f
  refine Ev.bind (IsInstrument_ev p r hp) ?_
  simp only [hg, ↓reduceIte]
  refine Ev.bind (IsScore_ev s (by omega)) ?_
  simp only [hs, Bool.not_true]
  refine Ev.fuel ?_
  simp only [impl_MissingPitches.j0, Bool.false_eq_true, ↓reduceIte]
  exact e
theorem lossOf_zero (p : List Int) (l : List S60) (b : Int) : lossOf p l b = 0 ↔ ∀ x ∈ l, x.f0 + b ∈ p := by
  induction l with
  | nil => simp [lossOf]
  | cons x l ih =>
    rw [lossOf_cons]
    have := lossOf_range p l b
    by_cases h : x.f0 + b ∈ p
    · simp [h, ih]
    · simp [h]; omega
/-! ### The law -/
theorem tr_j3 {c : List Int} (hc : Bytes c) : Ev (fun k => laws_FnTranspositions.j3 k c) true := by
  obtain ⟨p, rep, m, by_, d, hp, hm⟩ := DrawTransposeLoss_ev hc
  obtain ⟨i1, s1⟩ := lossBoth_ev p rep m by_ (by omega) (by omega)
  obtain ⟨i2, s2⟩ := trBoth_ev m by_ (by omega)
  refine Ev.fuel ?_
  simp only [laws_FnTranspositions.j3]
  refine Ev.bind d (Ev.bind i1 (Ev.bind s1 ?_))
  simp only [bne_self_eq_false, Bool.false_eq_true, ↓reduceIte]
  refine Ev.fuel ?_
  simp only [laws_FnTranspositions.j4, Bool.false_eq_true, ↓reduceIte]
  by_cases hok : (goodIns p rep = true ∧ goodScore m = true) ∧ (-24 ≤ by_ ∧ by_ ≤ 24)
  · have hl : lossRes p rep m by_ = (lossOf p m by_, true) := by unfold lossRes; rw [if_pos hok]
    have htr : trRes m by_ = chRes (chOf by_ 0 m) := by unfold trRes; rw [if_pos ⟨hok.1.2, by omega⟩]
    rw [hl]
    simp only [↓reduceIte]
    refine Ev.bind i2 (Ev.bind s2 ?_)
    simp only [bne_self_eq_false, Bool.false_eq_true, ↓reduceIte]
    have hlen : (trRes m by_).1.length ≤ 30 := by rw [htr]; exact chRes_len _
    refine Ev.bind (pSameNotes_ev _ (by omega)) ?_
    simp only [Bool.not_true]
    refine Ev.fuel ?_
    simp only [laws_FnTranspositions.j5, Bool.false_eq_true, ↓reduceIte]
    rw [htr]
    by_cases hg : goodScore (chOf by_ 0 m) = true
    · have hch : chRes (chOf by_ 0 m) = (chOf by_ 0 m, true) := by unfold chRes; rw [if_pos hg]
      rw [hch]
      obtain ⟨q, e, hq⟩ := missing_ev p rep (chOf by_ 0 m) (by omega) hok.1.1 hg
      simp only [↓reduceIte]
      refine Ev.bind e ?_
      have key : (((q.length : Int) == 0) != (lossOf p m by_ == 0)) = false := by
        have h1 : (q.length : Int) = 0 ↔ lossOf p m by_ = 0 := by
          rw [lossOf_zero]
          have h2 : (q.length : Int) = 0 ↔ q = [] := by cases q <;> simp; omega
          rw [h2, hq, chOf_good _ _ hok.1.2]
          constructor
          · intro h x hx
            have := h ⟨wrap64 (x.f0 + by_), x.f1, x.f2⟩ (List.mem_map_of_mem hx)
            have hx' := (noteB_iff x).1 (goodScore_all hok.1.2 x hx)
            rwa [show wrap64 (x.f0 + by_) = x.f0 + by_ from w_id (by omega) (by omega)] at this
          · intro h y hy
            obtain ⟨x, hx, rfl⟩ := List.mem_map.1 hy
            have hx' := (noteB_iff x).1 (goodScore_all hok.1.2 x hx)
            show wrap64 (x.f0 + by_) ∈ p
            rw [show wrap64 (x.f0 + by_) = x.f0 + by_ from w_id (by omega) (by omega)]
            exact h x hx
        by_cases hz : lossOf p m by_ = 0
        · rw [h1.2 hz, hz]; rfl
        · have hnz : ¬ (q.length : Int) = 0 := fun h => hz (h1.1 h)
          rw [show ((q.length : Int) == 0) = false from by simpa using hnz, show (lossOf p m by_ == 0) = false from by simpa using hz]; rfl
      simp only [↓reduceIte, key, Bool.false_eq_true]
      exact Ev.now _
    · have hch : chRes (chOf by_ 0 m) = ([], false) := by unfold chRes; rw [if_neg hg]
      rw [hch]
      simp only [Bool.false_eq_true, ↓reduceIte]
      exact Ev.now _
  · have hl : lossRes p rep m by_ = (0, false) := by unfold lossRes; rw [if_neg hok]
    rw [hl]
    simp only [Bool.false_eq_true, ↓reduceIte]
    exact Ev.now _
theorem tr_l0 {c : List Int} (hc : Bytes c) (p : List Int) (rep : Int) (l : List S60) (hp : p.length ≤ 60) (hl : l.length ≤ 31) (hg : goodIns p rep = true ∧ goodScore l = true) : ∀ (d i : Nat), i + d = 49 →
    Ev (fun k => laws_FnTranspositions.l0 k c l (bestAt p l).1 (bestAt p l).2 (fullOf (lossOf p l) 49 (-24)) (tabOf (lossOf p l) 49 (-24)) ((tabOf (lossOf p l) 49 (-24)).length : Int) i p rep) true := by
  obtain ⟨h1, h2, h3⟩ := bestAt_inv p l
  have ht := tabOf_len (lossOf p l) 49 (-24)
  have hf := fullOf_len (lossOf p l) 49 (-24)
  intro d
  induction d with
  | zero =>
    intro i h
    refine Ev.fuel ?_
    simp only [laws_FnTranspositions.l0, ht, show ¬ ((i : Int) < ((49 : Nat) : Int)) from by omega, ↓reduceIte]
    exact tr_j3 hc
  | succ d ih =>
    intro i h
    have e1 : wrap64 ((i : Int) - 24) = (i : Int) - 24 := w_id (by omega) (by omega)
    have e2 : rd (tabOf (lossOf p l) 49 (-24)) (i : Int) = lossOf p l ((i : Int) - 24) := by
      unfold rd
      rw [Int.toNat_natCast, tabOf_at _ _ _ _ (by omega), show (-24 : Int) + (i : Int) = (i : Int) - 24 from by omega]
    have hi := (lossBoth_ev p rep l ((i : Int) - 24) (by omega) (by omega)).1
    have hres : lossRes p rep l ((i : Int) - 24) = (lossOf p l ((i : Int) - 24), true) := by unfold lossRes; rw [if_pos ⟨hg, by omega, by omega⟩]
    rw [hres] at hi
    obtain ⟨h4, h5⟩ := h3 ((i : Int) - 24) (by omega) (by omega)
    have hin : Ev (fun k => laws_pIn.f k (fullOf (lossOf p l) 49 (-24)) ((i : Int) - 24)) (decide (lossOf p l ((i : Int) - 24) = 0)) := by
      have := pIn_ev (fullOf (lossOf p l) 49 (-24)) ((i : Int) - 24) (by omega)
      have e : decide ((i : Int) - 24 ∈ fullOf (lossOf p l) 49 (-24)) = decide (lossOf p l ((i : Int) - 24) = 0) := by
        apply decide_eq_decide.2
        rw [fullOf_mem]
        constructor
        · exact fun q => q.2
        · exact fun q => ⟨by omega, q⟩
      rwa [e] at this
    have ih := ih (i + 1) (by omega)
    have fin : Ev (fun k => (laws_pIn.f k (fullOf (lossOf p l) 49 (-24)) ((i : Int) - 24)).bind fun t => if (t != (lossOf p l ((i : Int) - 24) == 0)) = true then some false else laws_FnTranspositions.l0 k c l (bestAt p l).1 (bestAt p l).2 (fullOf (lossOf p l) 49 (-24)) (tabOf (lossOf p l) 49 (-24)) ((tabOf (lossOf p l) 49 (-24)).length : Int) ((i + 1 : Nat) : Int) p rep) true := by
      refine Ev.bind hin ?_
      have : (decide (lossOf p l ((i : Int) - 24) = 0) != (lossOf p l ((i : Int) - 24) == 0)) = false := by
        by_cases z : lossOf p l ((i : Int) - 24) = 0 <;> simp [z]
      simp only [this, Bool.false_eq_true, ↓reduceIte]
      exact ih
    have hb := h2
    have sq : ∀ y : Int, -25 < y → y < 25 → wrap64 (y * y) = y * y := by
      intro y g1 g2
      have a1 : 0 ≤ y * y := by
        rw [← Int.natAbs_mul_self' y]
        exact_mod_cast Nat.zero_le _
      have a2 : y * y ≤ 24 * 24 := by
        have e : y * y = (y.natAbs : Int) * (y.natAbs : Int) := (Int.natAbs_mul_self' y).symm
        rw [e]
        have : y.natAbs ≤ 24 := by omega
        exact_mod_cast Nat.mul_le_mul this this
      exact w_id (by omega) (by omega)
    refine Ev.fuel ?_
    simp only [laws_FnTranspositions.l0, show (i : Int) < ((tabOf (lossOf p l) 49 (-24)).length : Int) from by rw [ht]; omega, show (0 : Int) ≤ (i : Int) from by omega, ↓reduceIte, e1, e2, wn i (by omega), sq ((i : Int) - 24) (by omega) (by omega), sq _ hb.1 hb.2, w_id (x := -(bestAt p l).1) (by omega) (by omega)]
    refine Ev.bind hi ?_
    simp only [↓reduceIte, show ¬ (lossOf p l ((i : Int) - 24) < (bestAt p l).2) from by omega]
    by_cases g1 : lossOf p l ((i : Int) - 24) = (bestAt p l).2
    · have g2 := pos_sq (h5 g1)
      simp only [if_pos g1, if_neg g2.1]
      by_cases g3 : (i : Int) - 24 = -(bestAt p l).1
      · simp only [if_pos g3, if_neg (g2.2 g3)]
        exact fin
      · simp only [if_neg g3]
        exact fin
    · simp only [if_neg g1]
      exact fin
theorem ft_ev (l0 l1 : List Int) (h0 : l0.length ≤ 9223372036854775807) (w0 : ∀ x ∈ l0, (Lit.int .u8 x).wf = true) (h1 : l1.length ≤ 9223372036854775807) (w1 : ∀ x ∈ l1, (Lit.int .u8 x).wf = true) : Ev (fun k => laws_FnTranspositions.f k l0 l1) true := by
  have byte : ∀ x : Int, (Lit.int .u8 x).wf = true → 0 ≤ x ∧ x ≤ 255 := by
    intro x hx
    simp [Lit.wf] at hx
    have h1 : IntKind.u8.min = 0 := by decide
    have h2 : IntKind.u8.max = 255 := by decide
    omega
  unfold laws_FnTranspositions.f laws_big.f
  by_cases g0 : (l0.length : Int) > 1048576
  · simp only [g0, ↓reduceIte, Option.bind_some]; exact Ev.now _
  · rw [w_id (x := 1048576 - (l0.length : Int)) (by omega) (by omega)]
    by_cases g1 : (l1.length : Int) > 1048576 - (l0.length : Int)
    · simp only [g0, g1, ↓reduceIte, Option.bind_some, decide_true]; exact Ev.now _
    · simp only [g0, g1, ↓reduceIte, Option.bind_some, decide_false, Bool.false_eq_true]
      have hc0 : Bytes l0 := ⟨by omega, fun x hx => byte x (w0 x hx)⟩
      have hc1 : Bytes l1 := ⟨by omega, fun x hx => byte x (w1 x hx)⟩
      obtain ⟨p, rep, l, d, hp, hl⟩ := DrawBestTransposition_ev hc0
      obtain ⟨b1, b2⟩ := bestBoth_ev p rep l (by omega) (by omega)
      obtain ⟨t1, t2⟩ := tableBoth_ev p rep l (by omega) (by omega)
      obtain ⟨f1, f2⟩ := fullBoth_ev p rep l (by omega) (by omega)
      refine Ev.bind d (Ev.bind b1 (Ev.bind b2 (Ev.bind t1 (Ev.bind t2 (Ev.bind f1 (Ev.bind f2 ?_))))))
      have htl : (tableRes p rep l).1.length ≤ 1048576 := by unfold tableRes; split <;> simp [tabOf_len]
      have hfl : (fullRes p rep l).1.length ≤ 1048576 := by
        have := fullOf_len (lossOf p l) 49 (-24)
        unfold fullRes; split <;> simp; omega
      simp only [bne_self_eq_false, Bool.false_eq_true, ↓reduceIte]
      refine Ev.bind (sameInts_ev _ htl) ?_
      simp only [↓reduceIte]
      refine Ev.bind (sameInts_ev _ hfl) ?_
      simp only [↓reduceIte]
      by_cases hg : goodIns p rep = true ∧ goodScore l = true
      · have eb : bestRes p rep l = ((bestAt p l).1, (bestAt p l).2, true) := by unfold bestRes; rw [if_pos hg]
        have et : tableRes p rep l = (tabOf (lossOf p l) 49 (-24), true) := by unfold tableRes; rw [if_pos hg]
        have ef : fullRes p rep l = (fullOf (lossOf p l) 49 (-24), true) := by unfold fullRes; rw [if_pos hg]
        rw [eb, et, ef]
        simp only [bne_self_eq_false, Bool.false_eq_true, ↓reduceIte]
        obtain ⟨v1, v2, v3⟩ := bestAt_inv p l
        have ht := tabOf_len (lossOf p l) 49 (-24)
        refine Ev.fuel ?_
        have e1 : wrap64 ((bestAt p l).1 + 24) = (bestAt p l).1 + 24 := w_id (by omega) (by omega)
        have e2 : rd (tabOf (lossOf p l) 49 (-24)) ((bestAt p l).1 + 24) = (bestAt p l).2 := by
          unfold rd
          rw [tabOf_at _ _ _ _ (by omega), v1, show (-24 : Int) + (((bestAt p l).1 + 24).toNat : Int) = (bestAt p l).1 from by omega]
        have e3 : (((bestAt p l).2 == 0) != decide (((fullOf (lossOf p l) 49 (-24)).length : Int) > 0)) = false := by
          by_cases z : (bestAt p l).2 = 0
          · have hm : (bestAt p l).1 ∈ fullOf (lossOf p l) 49 (-24) := (fullOf_mem _ _ _ _).2 ⟨by omega, by rw [← v1]; exact z⟩
            have : ((fullOf (lossOf p l) 49 (-24)).length : Int) > 0 := by have := List.length_pos_of_mem hm; omega
            rw [decide_eq_true this, z]; rfl
          · have : ¬ ((fullOf (lossOf p l) 49 (-24)).length : Int) > 0 := by
              intro h
              obtain ⟨x, hx⟩ := List.exists_mem_of_length_pos (show 0 < (fullOf (lossOf p l) 49 (-24)).length by omega)
              obtain ⟨h5, h6⟩ := (fullOf_mem _ _ _ _).1 hx
              have h7 := (v3 x (by omega) (by omega)).1
              have h8 := lossOf_range p l (bestAt p l).1
              omega
            rw [show decide (((fullOf (lossOf p l) 49 (-24)).length : Int) > 0) = false from by simpa using this, show ((bestAt p l).2 == 0) = false from by simpa using z]; rfl
        simp only [laws_FnTranspositions.j0, Bool.false_eq_true, ↓reduceIte, show ((tabOf (lossOf p l) 49 (-24)).length : Int) = 49 from by rw [ht]; rfl, e1, show (0 : Int) ≤ (bestAt p l).1 + 24 from by omega, show (bestAt p l).1 + 24 < 49 from by omega, e2, e3]
        refine Ev.fuel ?_
        simp only [laws_FnTranspositions.j1, Bool.false_eq_true, ↓reduceIte]
        exact tr_l0 hc1 p rep l hp hl hg 49 0 (by omega)
      · have eb : bestRes p rep l = (0, 0, false) := by unfold bestRes; rw [if_neg hg]
        have et : tableRes p rep l = ([], false) := by unfold tableRes; rw [if_neg hg]
        have ef : fullRes p rep l = ([], false) := by unfold fullRes; rw [if_neg hg]
        rw [eb, et, ef]
        simp only [bne_self_eq_false, Bool.false_eq_true, ↓reduceIte]
        refine Ev.fuel ?_
        simp only [laws_FnTranspositions.j0, Bool.false_eq_true, ↓reduceIte]
        exact tr_j3 hc1
end Go.Proofs.Ytlhhjdlaljmppaa.T
