/- Plain facts on transpositions: losses, tables, the nearest and the folded pitch. No condition. -/
import Derived.Test.YtlhhjdlaljmppaaT0
import Derived.Test.YtlhhjdlaljmppaaT5
import Derived.Test.YtlhhjdlaljmppaaT6
import Derived.Test.YtlhhjdlaljmppaaT7
import Derived.Test.YtlhhjdlaljmppaaTQI
import Derived.Test.YtlhhjdlaljmppaaTQS
set_option linter.unusedVariables false
set_option linter.unusedSimpArgs false
namespace Go.Proofs.Ytlhhjdlaljmppaa.T
open Go.RowKit Go.Proofs.YtlhhjdlaljmppaaW.PrintWords Go.Proofs.YtlhhjdlaljmppaaW.PrintLast Go.Proofs.YtlhhjdlaljmppaaW.PrintMore

theorem trBy_eq (a : Int) : spec_trBy.f a = some (decide (-24 ≤ a ∧ a ≤ 24)) := by unfold spec_trBy.f; rw [l1In_eq]; rfl
theorem isBy_eq (a : Int) : impl_isBy.f a = some (decide (-24 ≤ a ∧ a ≤ 24)) := by
  unfold impl_isBy.f
  split <;> (first | exact dec_eq (by omega) | exact dec_f (by omega))
def lossOf (l : List Int) (s : List S60) (b : Int) : Int := ((s.filter fun x => decide (x.f0 + b ∉ l)).length : Int)
theorem lossOf_cons (l : List Int) (x : S60) (s : List S60) (b : Int) : lossOf l (x :: s) b = (if x.f0 + b ∈ l then 0 else 1) + lossOf l s b := by
  unfold lossOf
  rw [List.filter_cons]
  by_cases h : x.f0 + b ∈ l
  · simp [h]
  · simp [h]; omega
theorem lossOf_range (l : List Int) (s : List S60) (b : Int) : 0 ≤ lossOf l s b ∧ lossOf l s b ≤ s.length := by
  unfold lossOf
  have := List.length_filter_le (fun x : S60 => decide (x.f0 + b ∉ l)) s
  omega
theorem trLoss_l0 (l : List Int) (r : Int) (s : List S60) (b : Int) (hl : l.length ≤ 1048576) (hs : s.length ≤ 30) (hn : ∀ x ∈ s, noteB x = true) (hb : -24 ≤ b ∧ b ≤ 24) : ∀ (suf pre : List S60) (n : Int), pre ++ suf = s → 0 ≤ n → n ≤ pre.length →
    Ev (fun k => spec_trLoss.l0 k b n s s.length pre.length l r) (n + lossOf l suf b) := by
  intro suf
  induction suf with
  | nil =>
    intro pre n h h0 h1
    have hn : ¬ ((pre.length : Int) < (s.length : Int)) := by rw [← h]; simp
    refine Ev.fuel ?_
    simp only [spec_trLoss.l0, hn, ↓reduceIte]
    exact Ev.const (by simp [lossOf])
  | cons x suf ih =>
    intro pre n h h0 h1
    have hlen : s.length = pre.length + (suf.length + 1) := by rw [← h]; simp
    have c1 : (pre.length : Int) < (s.length : Int) := by omega
    have c2 : (0 : Int) ≤ (pre.length : Int) := by omega
    have c3 : rd_T60 s (pre.length : Int) = x := by rw [← h]; exact getD_mid _ _ _ _
    have hx := (noteB_iff x).1 (hn x (by rw [← h]; simp))
    have w1 : wrap64 (x.f0 + b) = x.f0 + b := w_id (by omega) (by omega)
    have w2 : wrap64 (n + 1) = n + 1 := w_id (by omega) (by omega)
    have iff := idxFrom_neg (x.f0 + b) l 0 (by omega)
    rw [lossOf_cons]
    refine Ev.fuel ?_
    simp only [spec_trLoss.l0, c1, c2, c3, ↓reduceIte, wn pre.length (by omega), w1, w2]
    refine Ev.bind (inTrack_ev l r (x.f0 + b) hl) ?_
    by_cases hm : x.f0 + b ∈ l
    · have : ¬ idxFrom (x.f0 + b) l 0 < 0 := fun q => iff.1 q hm
      simp only [this, hm, ↓reduceIte]
      have e := ih (pre ++ [x]) n (by rw [← h]; simp) h0 (by simp; omega)
      rw [Int.zero_add]
      simpa using e
    · have : idxFrom (x.f0 + b) l 0 < 0 := iff.2 hm
      simp only [this, hm, ↓reduceIte]
      have e := ih (pre ++ [x]) (n + 1) (by rw [← h]; simp) (by omega) (by simp; omega)
      rw [← Int.add_assoc]
      simpa using e
theorem trLoss_ev (l : List Int) (r : Int) (s : List S60) (b : Int) (hl : l.length ≤ 1048576) (hs : s.length ≤ 30) (hn : ∀ x ∈ s, noteB x = true) (hb : -24 ≤ b ∧ b ≤ 24) : Ev (fun k => spec_trLoss.f k l r s b) (lossOf l s b) := by
  unfold spec_trLoss.f
  have e := trLoss_l0 l r s b hl hs hn hb s [] 0 rfl (by omega) (by simp)
  rw [Int.zero_add] at e
  exact e
theorem transposeLoss_l0 (l : List Int) (r : Int) (s : List S60) (b : Int) (hl : l.length ≤ 1048576) (hs : s.length ≤ 30) (hn : ∀ x ∈ s, noteB x = true) (hb : -24 ≤ b ∧ b ≤ 24) : ∀ (suf pre : List S60) (n : Int), pre ++ suf = s → 0 ≤ n → n ≤ pre.length →
    Ev (fun k => impl_transposeLoss.l0 k b n s s.length pre.length l r) (n + lossOf l suf b) := by
  intro suf
  induction suf with
  | nil =>
    intro pre n h h0 h1
    have hn : ¬ ((pre.length : Int) < (s.length : Int)) := by rw [← h]; simp
    refine Ev.fuel ?_
    simp only [impl_transposeLoss.l0, hn, ↓reduceIte]
    exact Ev.const (by simp [lossOf])
  | cons x suf ih =>
    intro pre n h h0 h1
    have hlen : s.length = pre.length + (suf.length + 1) := by rw [← h]; simp
    have c1 : (pre.length : Int) < (s.length : Int) := by omega
    have c2 : (0 : Int) ≤ (pre.length : Int) := by omega
    have c3 : rd_T60 s (pre.length : Int) = x := by rw [← h]; exact getD_mid _ _ _ _
    have hx := (noteB_iff x).1 (hn x (by rw [← h]; simp))
    have w1 : wrap64 (x.f0 + b) = x.f0 + b := w_id (by omega) (by omega)
    have w2 : wrap64 (n + 1) = n + 1 := w_id (by omega) (by omega)
    rw [lossOf_cons]
    refine Ev.fuel ?_
    simp only [impl_transposeLoss.l0, c1, c2, c3, ↓reduceIte, wn pre.length (by omega), w1, w2]
    refine Ev.bind (Contains_ev l (x.f0 + b) hl) ?_
    by_cases hm : x.f0 + b ∈ l
    · simp only [hm, decide_true, ↓reduceIte]
      have e := ih (pre ++ [x]) n (by rw [← h]; simp) h0 (by simp; omega)
      rw [Int.zero_add]
      simpa using e
    · simp only [hm, decide_false, Bool.false_eq_true, ↓reduceIte]
      have e := ih (pre ++ [x]) (n + 1) (by rw [← h]; simp) (by omega) (by simp; omega)
      rw [← Int.add_assoc]
      simpa using e
theorem transposeLoss_ev (l : List Int) (r : Int) (s : List S60) (b : Int) (hl : l.length ≤ 1048576) (hs : s.length ≤ 30) (hn : ∀ x ∈ s, noteB x = true) (hb : -24 ≤ b ∧ b ≤ 24) : Ev (fun k => impl_transposeLoss.f k l r s b) (lossOf l s b) := by
  unfold impl_transposeLoss.f
  have e := transposeLoss_l0 l r s b hl hs hn hb s [] 0 rfl (by omega) (by simp)
  rw [Int.zero_add] at e
  exact e
theorem lossLaw_ev (l : List Int) (r : Int) (s : List S60) (b : Int) (hl : l.length ≤ 1048576) (hs : s.length ≤ 1048576) : ∃ r0 r1, Ev (fun k => spec_TransposeLoss.f k l r s b) (r0, r1) ∧ Ev (fun k => impl_TransposeLoss.f k l r s b) (r0, r1) := by
  unfold spec_TransposeLoss.f impl_TransposeLoss.f
  have ea := inAsked_ev l r s hl hs
  have ei := IsInstrument_ev l r hl
  have es := IsScore_ev s hs
  by_cases hg : goodIns l r = true
  · by_cases hq : goodScore s = true
    · simp only [hg, hq, Bool.true_and] at ea ei es
      by_cases hb : -24 ≤ b ∧ b ≤ 24
      · refine ⟨lossOf l s b, true, ?_, ?_⟩
        · refine Ev.bind ea ?_
          simp only [↓reduceIte, trBy_eq, Option.bind_some, hb, and_self, decide_true]
          exact Ev.bind (trLoss_ev l r s b hl (goodScore_len hq) (goodScore_all hq) hb) (Ev.now _)
        · refine Ev.bind ei ?_
          simp only [↓reduceIte]
          refine Ev.bind es ?_
          simp only [↓reduceIte, isBy_eq, Option.bind_some, hb, and_self, decide_true]
          exact Ev.bind (transposeLoss_ev l r s b hl (goodScore_len hq) (goodScore_all hq) hb) (Ev.now _)
      · refine ⟨0, false, ?_, ?_⟩
        · refine Ev.bind ea ?_
          simp only [↓reduceIte, trBy_eq, Option.bind_some, hb, decide_false, Bool.false_eq_true]
          exact Ev.now _
        · refine Ev.bind ei ?_
          simp only [↓reduceIte]
          refine Ev.bind es ?_
          simp only [↓reduceIte, isBy_eq, Option.bind_some, hb, decide_false, Bool.false_eq_true]
          exact Ev.now _
    · simp only [hg, Bool.eq_false_iff.mpr hq, Bool.true_and] at ea ei es
      refine ⟨0, false, ?_, ?_⟩
      · refine Ev.bind ea ?_
        simp only [Bool.false_eq_true, ↓reduceIte]; exact Ev.now _
      · refine Ev.bind ei ?_
        simp only [↓reduceIte]
        refine Ev.bind es ?_
        simp only [Bool.false_eq_true, ↓reduceIte]; exact Ev.now _
  · simp only [Bool.eq_false_iff.mpr hg, Bool.false_and] at ea ei
    refine ⟨0, false, ?_, ?_⟩
    · refine Ev.bind ea ?_
      simp only [Bool.false_eq_true, ↓reduceIte]; exact Ev.now _
    · refine Ev.bind ei ?_
      simp only [Bool.false_eq_true, ↓reduceIte]; exact Ev.now _
def tabOf (f : Int → Int) : Nat → Int → List Int
  | 0, _ => []
  | n + 1, b => f b :: tabOf f n (b + 1)
theorem tabOf_len (f : Int → Int) : ∀ (n : Nat) (b : Int), (tabOf f n b).length = n := by
  intro n
  induction n with
  | zero => intro b; rfl
  | succ n ih => intro b; simp [tabOf, ih]
theorem specTable_l0 (l : List Int) (r : Int) (s : List S60) (hl : l.length ≤ 1048576) (hs : s.length ≤ 30) (hn : ∀ x ∈ s, noteB x = true) : ∀ (d : Nat) (b : Int) (acc : List Int), 25 - b = d → -24 ≤ b → acc.length + d ≤ 1000 →
    Ev (fun k => spec_LossTable.l0 k s acc b l r) (acc ++ tabOf (lossOf l s) d b, true) := by
  intro d
  induction d with
  | zero =>
    intro b acc h h0 h1
    refine Ev.fuel ?_
    simp only [spec_LossTable.l0, show ¬ b ≤ 24 from by omega, ↓reduceIte, tabOf, List.append_nil]
    exact Ev.now _
  | succ d ih =>
    intro b acc h h0 h1
    refine Ev.fuel ?_
    simp only [spec_LossTable.l0, show b ≤ 24 from by omega, ↓reduceIte]
    refine Ev.bind (trLoss_ev l r s b hl hs hn ⟨h0, by omega⟩) ?_
    simp only [show acc.length < 17592186044416 from by omega, ↓reduceIte, w_id (x := b + 1) (by omega) (by omega)]
    have e := ih (b + 1) (acc ++ [lossOf l s b]) (by omega) (by omega) (by simp; omega)
    simpa [tabOf] using e
theorem implTable_l0 (l : List Int) (r : Int) (s : List S60) (hl : l.length ≤ 1048576) (hs : s.length ≤ 30) (hn : ∀ x ∈ s, noteB x = true) : ∀ (d : Nat) (b : Int) (acc : List Int), 25 - b = d → -24 ≤ b → acc.length + d ≤ 1000 →
    Ev (fun k => impl_LossTable.l0 k s acc b l r) (acc ++ tabOf (lossOf l s) d b, true) := by
  intro d
  induction d with
  | zero =>
    intro b acc h h0 h1
    refine Ev.fuel ?_
    simp only [impl_LossTable.l0, show ¬ b ≤ 24 from by omega, ↓reduceIte, tabOf, List.append_nil]
    exact Ev.now _
  | succ d ih =>
    intro b acc h h0 h1
    refine Ev.fuel ?_
    simp only [impl_LossTable.l0, show b ≤ 24 from by omega, ↓reduceIte]
    refine Ev.bind (transposeLoss_ev l r s b hl hs hn ⟨h0, by omega⟩) ?_
    simp only [show acc.length < 17592186044416 from by omega, ↓reduceIte, w_id (x := b + 1) (by omega) (by omega)]
    have e := ih (b + 1) (acc ++ [lossOf l s b]) (by omega) (by omega) (by simp; omega)
    simpa [tabOf] using e
theorem tableLaw_ev (l : List Int) (r : Int) (s : List S60) (hl : l.length ≤ 1048576) (hs : s.length ≤ 1048576) : ∃ r0 r1, r0.length ≤ 1048576 ∧ Ev (fun k => spec_LossTable.f k l r s) (r0, r1) ∧ Ev (fun k => impl_LossTable.f k l r s) (r0, r1) := by
  unfold spec_LossTable.f impl_LossTable.f
  have ea := inAsked_ev l r s hl hs
  have ei := IsInstrument_ev l r hl
  have es := IsScore_ev s hs
  have jT : ∀ g : Bool, g = true → Ev (fun k => impl_LossTable.j0 k s g l r) ([], false) := fun g hg => by
    refine Ev.fuel ?_; simp only [impl_LossTable.j0, hg, ↓reduceIte]; exact Ev.now _
  by_cases hg : goodIns l r = true
  · by_cases hq : goodScore s = true
    · simp only [hg, hq, Bool.true_and] at ea ei es
      refine ⟨tabOf (lossOf l s) 49 (-24), true, by rw [tabOf_len]; omega, ?_, ?_⟩
      · refine Ev.bind ea ?_
        simp only [↓reduceIte]
        exact specTable_l0 l r s hl (goodScore_len hq) (goodScore_all hq) 49 (-24) [] (by omega) (by omega) (by simp)
      · refine Ev.bind ei ?_
        simp only [↓reduceIte]
        refine Ev.bind es ?_
        simp only [Bool.not_true]
        refine Ev.fuel ?_
        simp only [impl_LossTable.j0, Bool.false_eq_true, ↓reduceIte]
        exact implTable_l0 l r s hl (goodScore_len hq) (goodScore_all hq) 49 (-24) [] (by omega) (by omega) (by simp)
    · simp only [hg, Bool.eq_false_iff.mpr hq, Bool.true_and] at ea ei es
      refine ⟨[], false, by simp, ?_, ?_⟩
      · refine Ev.bind ea ?_
        simp only [Bool.false_eq_true, ↓reduceIte]; exact Ev.now _
      · refine Ev.bind ei ?_
        simp only [↓reduceIte]
        exact Ev.bind es (jT _ rfl)
  · simp only [Bool.eq_false_iff.mpr hg, Bool.false_and] at ea ei
    refine ⟨[], false, by simp, ?_, ?_⟩
    · refine Ev.bind ea ?_
      simp only [Bool.false_eq_true, ↓reduceIte]; exact Ev.now _
    · refine Ev.bind ei ?_
      simp only [Bool.false_eq_true, ↓reduceIte]; exact jT _ rfl
def fullOf (f : Int → Int) : Nat → Int → List Int
  | 0, _ => []
  | n + 1, b => (if f b = 0 then [b] else []) ++ fullOf f n (b + 1)
theorem fullOf_len (f : Int → Int) : ∀ (n : Nat) (b : Int), (fullOf f n b).length ≤ n := by
  intro n
  induction n with
  | zero => intro b; simp [fullOf]
  | succ n ih =>
    intro b
    have := ih (b + 1)
    simp only [fullOf, List.length_append]
    split <;> simp <;> omega
theorem specFull_l0 (l : List Int) (r : Int) (s : List S60) (hl : l.length ≤ 1048576) (hs : s.length ≤ 30) (hn : ∀ x ∈ s, noteB x = true) : ∀ (d : Nat) (b : Int) (acc : List Int), 25 - b = d → -24 ≤ b → acc.length + d ≤ 1000 →
    Ev (fun k => spec_FullTranspositions.l0 k s acc b l r) (acc ++ fullOf (lossOf l s) d b, true) := by
  intro d
  induction d with
  | zero =>
    intro b acc h h0 h1
    refine Ev.fuel ?_
    simp only [spec_FullTranspositions.l0, show ¬ b ≤ 24 from by omega, ↓reduceIte, fullOf, List.append_nil]
    exact Ev.now _
  | succ d ih =>
    intro b acc h h0 h1
    refine Ev.fuel ?_
    simp only [spec_FullTranspositions.l0, show b ≤ 24 from by omega, ↓reduceIte]
    refine Ev.bind (trLoss_ev l r s b hl hs hn ⟨h0, by omega⟩) ?_
    simp only [show acc.length < 17592186044416 from by omega, ↓reduceIte, w_id (x := b + 1) (by omega) (by omega), fullOf]
    by_cases hz : lossOf l s b = 0
    · simp only [hz, ↓reduceIte]
      have e := ih (b + 1) (acc ++ [b]) (by omega) (by omega) (by simp; omega)
      simpa using e
    · simp only [hz, ↓reduceIte]
      have e := ih (b + 1) acc (by omega) (by omega) (by omega)
      simpa using e
theorem implFull_l0 (l : List Int) (r : Int) (s : List S60) (hl : l.length ≤ 1048576) (hs : s.length ≤ 30) (hn : ∀ x ∈ s, noteB x = true) : ∀ (d : Nat) (b : Int) (acc : List Int), 25 - b = d → -24 ≤ b → acc.length + d ≤ 1000 →
    Ev (fun k => impl_FullTranspositions.l0 k s acc b l r) (acc ++ fullOf (lossOf l s) d b, true) := by
  intro d
  induction d with
  | zero =>
    intro b acc h h0 h1
    refine Ev.fuel ?_
    simp only [impl_FullTranspositions.l0, show ¬ b ≤ 24 from by omega, ↓reduceIte, fullOf, List.append_nil]
    exact Ev.now _
  | succ d ih =>
    intro b acc h h0 h1
    refine Ev.fuel ?_
    simp only [impl_FullTranspositions.l0, show b ≤ 24 from by omega, ↓reduceIte]
    refine Ev.bind (transposeLoss_ev l r s b hl hs hn ⟨h0, by omega⟩) ?_
    simp only [show acc.length < 17592186044416 from by omega, ↓reduceIte, w_id (x := b + 1) (by omega) (by omega), fullOf]
    by_cases hz : lossOf l s b = 0
    · simp only [hz, ↓reduceIte]
      have e := ih (b + 1) (acc ++ [b]) (by omega) (by omega) (by simp; omega)
      simpa using e
    · simp only [hz, ↓reduceIte]
      have e := ih (b + 1) acc (by omega) (by omega) (by omega)
      simpa using e
theorem fullLaw_ev (l : List Int) (r : Int) (s : List S60) (hl : l.length ≤ 1048576) (hs : s.length ≤ 1048576) : ∃ r0 r1, r0.length ≤ 1048576 ∧ Ev (fun k => spec_FullTranspositions.f k l r s) (r0, r1) ∧ Ev (fun k => impl_FullTranspositions.f k l r s) (r0, r1) := by
  unfold spec_FullTranspositions.f impl_FullTranspositions.f
  have ea := inAsked_ev l r s hl hs
  have ei := IsInstrument_ev l r hl
  have es := IsScore_ev s hs
  have jT : ∀ g : Bool, g = true → Ev (fun k => impl_FullTranspositions.j0 k s g l r) ([], false) := fun g hg => by
    refine Ev.fuel ?_; simp only [impl_FullTranspositions.j0, hg, ↓reduceIte]; exact Ev.now _
  by_cases hg : goodIns l r = true
  · by_cases hq : goodScore s = true
    · simp only [hg, hq, Bool.true_and] at ea ei es
      have hle := fullOf_len (lossOf l s) 49 (-24)
      refine ⟨fullOf (lossOf l s) 49 (-24), true, by omega, ?_, ?_⟩
      · refine Ev.bind ea ?_
        simp only [↓reduceIte]
        exact specFull_l0 l r s hl (goodScore_len hq) (goodScore_all hq) 49 (-24) [] (by omega) (by omega) (by simp)
      · refine Ev.bind ei ?_
        simp only [↓reduceIte]
        refine Ev.bind es ?_
        simp only [Bool.not_true]
        refine Ev.fuel ?_
        simp only [impl_FullTranspositions.j0, Bool.false_eq_true, ↓reduceIte]
        exact implFull_l0 l r s hl (goodScore_len hq) (goodScore_all hq) 49 (-24) [] (by omega) (by omega) (by simp)
    · simp only [hg, Bool.eq_false_iff.mpr hq, Bool.true_and] at ea ei es
      refine ⟨[], false, by simp, ?_, ?_⟩
      · refine Ev.bind ea ?_
        simp only [Bool.false_eq_true, ↓reduceIte]; exact Ev.now _
      · refine Ev.bind ei ?_
        simp only [↓reduceIte]
        exact Ev.bind es (jT _ rfl)
  · simp only [Bool.eq_false_iff.mpr hg, Bool.false_and] at ea ei
    refine ⟨[], false, by simp, ?_, ?_⟩
    · refine Ev.bind ea ?_
      simp only [Bool.false_eq_true, ↓reduceIte]; exact Ev.now _
    · refine Ev.bind ei ?_
      simp only [Bool.false_eq_true, ↓reduceIte]; exact jT _ rfl
end Go.Proofs.Ytlhhjdlaljmppaa.T
