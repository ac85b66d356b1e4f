/- The plain law of the best transposition. No condition. -/
import Derived.Test.YtlhhjdlaljmppaaT0
import Derived.Test.YtlhhjdlaljmppaaT5
import Derived.Test.YtlhhjdlaljmppaaT6
import Derived.Test.YtlhhjdlaljmppaaT10
import Derived.Test.YtlhhjdlaljmppaaTQT
set_option linter.unusedVariables false
set_option linter.unusedSimpArgs false
namespace Go.Proofs.Ytlhhjdlaljmppaa.T
open Go.RowKit Go.Proofs.YtlhhjdlaljmppaaW.PrintWords Go.Proofs.YtlhhjdlaljmppaaW.PrintLast Go.Proofs.YtlhhjdlaljmppaaW.PrintMore

def pairsI : Int → Nat → List Int
  | _, 0 => []
  | d, n + 1 => -d :: d :: pairsI (d + 1) n
theorem pairsI_len : ∀ (n : Nat) (d : Int), (pairsI d n).length = 2 * n := by
  intro n
  induction n with
  | zero => intro d; rfl
  | succ n ih => intro d; simp only [pairsI, List.length_cons, ih]; omega
theorem pairsI_range : ∀ (n : Nat) (d : Int), 1 ≤ d → d + n ≤ 25 → ∀ x ∈ pairsI d n, -24 ≤ x ∧ x ≤ 24 := by
  intro n
  induction n with
  | zero => intro d _ _ x hx; simp [pairsI] at hx
  | succ n ih =>
    intro d h1 h2 x hx
    simp only [pairsI, List.mem_cons] at hx
    rcases hx with rfl | rfl | hx
    · omega
    · omega
    · exact ih (d + 1) (by omega) (by omega) x hx
theorem trOrder_l0 : ∀ (n : Nat) (d : Int) (acc : List Int), d + n = 25 → 1 ≤ d → (acc.length : Int) ≤ 2 * d → Ev (fun k => spec_trOrder.l0 k 24 acc d) (acc ++ pairsI d n) := by
  intro n
  induction n with
  | zero =>
    intro d acc h h1 ha
    have hn : ¬ d ≤ 24 := by omega
    refine Ev.fuel ?_
    simp only [spec_trOrder.l0, hn, ↓reduceIte, pairsI, List.append_nil]
    exact Ev.now _
  | succ n ih =>
    intro d acc h h1 ha
    have hn : d ≤ 24 := by omega
    have hb : acc.length + [-d, d].length < 17592186044416 := by simp only [List.length_cons, List.length_nil]; omega
    refine Ev.fuel ?_
    simp only [spec_trOrder.l0, hn, ↓reduceIte, Option.bind_some, w_id (x := -d) (by omega) (by omega), w_id (x := d + 1) (by omega) (by omega), hb]
    have e := ih (d + 1) (acc ++ [-d, d]) (by omega) (by omega) (by simp; omega)
    simpa [pairsI] using e
def bestStep (f : Int → Int) (p : Int × Int) (x : Int) : Int × Int := if f x < p.2 then (x, f x) else p
theorem specBest_l0 (l : List Int) (r : Int) (s : List S60) (hl : l.length ≤ 1048576) (hs : s.length ≤ 30) (hn : ∀ x ∈ s, noteB x = true) (ps : List Int) (hp : ps.length ≤ 1000) (hr : ∀ x ∈ ps, -24 ≤ x ∧ x ≤ 24) : ∀ (suf pre : List Int) (b m : Int), pre ++ suf = ps → 0 ≤ m →
    Ev (fun k => spec_BestTransposition.l0 k s b m ps ps.length pre.length l r) ((suf.foldl (bestStep (lossOf l s)) (b, m)).1, (suf.foldl (bestStep (lossOf l s)) (b, m)).2, true) := by
  intro suf
  induction suf with
  | nil =>
    intro pre b m h h0
    have hn : ¬ ((pre.length : Int) < (ps.length : Int)) := by rw [← h]; simp
    refine Ev.fuel ?_
    simp only [spec_BestTransposition.l0, hn, ↓reduceIte, List.foldl_nil]
    exact Ev.now _
  | cons x suf ih =>
    intro pre b m h h0
    have hlen : ps.length = pre.length + (suf.length + 1) := by rw [← h]; simp
    have h1 : (pre.length : Int) < (ps.length : Int) := by omega
    have h2 : (0 : Int) ≤ (pre.length : Int) := by omega
    have hx : rd ps (pre.length : Int) = x := by rw [← h]; exact getD_mid _ _ _ _
    have hm : ¬ m < 0 := by omega
    have hxr := hr x (by rw [← h]; simp)
    have e : ∀ b m, 0 ≤ m → Ev (fun k => spec_BestTransposition.l0 k s b m ps ps.length ((pre.length + 1 : Nat) : Int) l r) ((suf.foldl (bestStep (lossOf l s)) (b, m)).1, (suf.foldl (bestStep (lossOf l s)) (b, m)).2, true) := fun b m h0 => by
      simpa using ih (pre ++ [x]) b m (by rw [← h]; simp) h0
    refine Ev.fuel ?_
    simp only [spec_BestTransposition.l0, h1, h2, hx, ↓reduceIte, wn pre.length (by omega)]
    refine Ev.bind (trLoss_ev l r s x hl hs hn hxr) ?_
    by_cases hc : lossOf l s x < m
    · simp only [hm, hc, ↓reduceIte, List.foldl_cons, bestStep]
      exact e x _ (lossOf_range l s x).1
    · simp only [hm, hc, ↓reduceIte, List.foldl_cons, bestStep]
      exact e b m h0
theorem closure_ev (l : List Int) (r : Int) (s : List S60) (b : Int) (hl : l.length ≤ 1048576) (hs : s.length ≤ 30) (hn : ∀ x ∈ s, noteB x = true) (hb : -24 ≤ b ∧ b ≤ 24) : Ev (fun k => impl_BestTransposition_1.f k l r s b) (lossOf l s b) := by
  unfold impl_BestTransposition_1.f
  exact Ev.bind (transposeLoss_ev l r s b hl hs hn hb) (Ev.now _)
theorem bestBy_l1 (l : List Int) (r : Int) (s : List S60) (hl : l.length ≤ 1048576) (hs : s.length ≤ 30) (hn : ∀ x ∈ s, noteB x = true) (d : Int) (ps : List Int) (hp : ps.length ≤ 1000) (hr : ∀ x ∈ ps, -24 ≤ x ∧ x ≤ 24) (res : Int × Int) : ∀ (suf pre : List Int) (b m : Int), pre ++ suf = ps →
    Ev (fun k => impl_bestBy_T.l0 k 24 (suf.foldl (bestStep (lossOf l s)) (b, m)).1 (suf.foldl (bestStep (lossOf l s)) (b, m)).2 (wrap64 (d + 1)) l r s) res →
    Ev (fun k => impl_bestBy_T.l1 k 24 b m d ps ps.length pre.length l r s) res := by
  intro suf
  induction suf with
  | nil =>
    intro pre b m h hres
    have hn : ¬ ((pre.length : Int) < (ps.length : Int)) := by rw [← h]; simp
    refine Ev.fuel ?_
    simp only [impl_bestBy_T.l1, hn, ↓reduceIte]
    exact hres
  | cons x suf ih =>
    intro pre b m h hres
    have hlen : ps.length = pre.length + (suf.length + 1) := by rw [← h]; simp
    have h1 : (pre.length : Int) < (ps.length : Int) := by omega
    have h2 : (0 : Int) ≤ (pre.length : Int) := by omega
    have hx : rd ps (pre.length : Int) = x := by rw [← h]; exact getD_mid _ _ _ _
    have hxr := hr x (by rw [← h]; simp)
    refine Ev.fuel ?_
    simp only [impl_bestBy_T.l1, h1, h2, hx, ↓reduceIte, wn pre.length (by omega)]
    refine Ev.bind (closure_ev l r s x hl hs hn hxr) ?_
    rw [List.foldl_cons] at hres
    by_cases hc : lossOf l s x < m
    · simp only [hc, ↓reduceIte, bestStep] at hres ⊢
      simpa using ih (pre ++ [x]) x (lossOf l s x) (by rw [← h]; simp) hres
    · simp only [hc, ↓reduceIte, bestStep] at hres ⊢
      simpa using ih (pre ++ [x]) b m (by rw [← h]; simp) hres
theorem bestBy_l0 (l : List Int) (r : Int) (s : List S60) (hl : l.length ≤ 1048576) (hs : s.length ≤ 30) (hn : ∀ x ∈ s, noteB x = true) : ∀ (n : Nat) (d b m : Int), d + n = 25 → 1 ≤ d →
    Ev (fun k => impl_bestBy_T.l0 k 24 b m d l r s) ((pairsI d n).foldl (bestStep (lossOf l s)) (b, m)) := by
  intro n
  induction n with
  | zero =>
    intro d b m h h1
    have hn : ¬ d ≤ 24 := by omega
    refine Ev.fuel ?_
    simp only [impl_bestBy_T.l0, hn, ↓reduceIte, pairsI, List.foldl_nil]
    exact Ev.now _
  | succ n ih =>
    intro d b m h h1
    have hd : d ≤ 24 := by omega
    refine Ev.fuel ?_
    simp only [impl_bestBy_T.l0, hd, ↓reduceIte, w_id (x := -d) (by omega) (by omega)]
    refine bestBy_l1 l r s hl hs hn d [-d, d] (by simp) (by intro x hx; simp at hx; omega) _ [-d, d] [] b m rfl ?_
    rw [w_id (x := d + 1) (by omega) (by omega)]
    simp only [pairsI, List.foldl_cons, List.foldl_nil]
    exact ih (d + 1) _ _ (by omega) (by omega)
theorem bestTrLaw_ev (l : List Int) (r : Int) (s : List S60) (hl : l.length ≤ 1048576) (hs : s.length ≤ 1048576) : ∃ r0 r1 r2, Ev (fun k => spec_BestTransposition.f k l r s) (r0, r1, r2) ∧ Ev (fun k => impl_BestTransposition.f k l r s) (r0, r1, r2) := by
  unfold spec_BestTransposition.f impl_BestTransposition.f
  have ea := inAsked_ev l r s hl hs
  have e1 := IsInstrument_ev l r hl
  have e2 := IsScore_ev s hs
  by_cases h1 : goodIns l r = true
  · by_cases h2 : goodScore s = true
    · simp only [h1, h2, Bool.and_self] at ea e1 e2
      have hn := goodScore_all h2
      have h30 := goodScore_len h2
      refine ⟨((pairsI 1 24).foldl (bestStep (lossOf l s)) (0, lossOf l s 0)).1, ((pairsI 1 24).foldl (bestStep (lossOf l s)) (0, lossOf l s 0)).2, true, ?_, ?_⟩
      · refine Ev.bind ea ?_
        simp only [↓reduceIte]
        have eo : Ev (fun k => spec_trOrder.f k 24) (0 :: pairsI 1 24) := by
          unfold spec_trOrder.f
          exact trOrder_l0 24 1 [0] (by omega) (by omega) (by simp)
        refine Ev.bind eo ?_
        have hlen : (0 :: pairsI 1 24).length = 49 := by rw [List.length_cons, pairsI_len]
        have hall : ∀ x ∈ (0 :: pairsI 1 24), -24 ≤ x ∧ x ≤ 24 := by
          intro x hx
          rcases List.mem_cons.1 hx with rfl | hx
          · omega
          · exact pairsI_range 24 1 (by omega) (by omega) x hx
        refine Ev.fuel ?_
        have c1 : (0 : Int) < ((0 :: pairsI 1 24).length : Int) := by rw [hlen]; decide
        have c3 : rd (0 :: pairsI 1 24) 0 = 0 := rfl
        have c4 : wrap64 (0 + 1) = ((([0] : List Int).length : Nat) : Int) := by rw [w_id (by omega) (by omega)]; rfl
        simp only [spec_BestTransposition.l0, c1, c3, Int.le_refl, ↓reduceIte]
        refine Ev.bind (trLoss_ev l r s 0 hl h30 hn (by omega)) ?_
        simp only [show (-1 : Int) < 0 from by decide, ↓reduceIte]
        rw [c4]
        exact specBest_l0 l r s hl h30 hn (0 :: pairsI 1 24) (by omega) hall (pairsI 1 24) [0] 0 (lossOf l s 0) rfl (lossOf_range l s 0).1
      · refine Ev.bind e1 ?_
        simp only [↓reduceIte]
        refine Ev.bind e2 ?_
        simp only [↓reduceIte]
        have eb : Ev (fun k => impl_bestBy_T.f k 24 l r s) ((pairsI 1 24).foldl (bestStep (lossOf l s)) (0, lossOf l s 0)) := by
          unfold impl_bestBy_T.f
          exact Ev.bind (closure_ev l r s 0 hl h30 hn (by omega)) (bestBy_l0 l r s hl h30 hn 24 1 0 _ (by omega) (by omega))
        exact Ev.bind eb (Ev.now _)
    · simp only [h1, Bool.eq_false_iff.mpr h2, Bool.and_false] at ea e1 e2
      refine ⟨0, 0, false, ?_, ?_⟩
      · refine Ev.bind ea ?_
        simp only [Bool.false_eq_true, ↓reduceIte]; exact Ev.now _
      · refine Ev.bind e1 ?_
        simp only [↓reduceIte]
        refine Ev.bind e2 ?_
        simp only [Bool.false_eq_true, ↓reduceIte]; exact Ev.now _
  · simp only [Bool.eq_false_iff.mpr h1, Bool.false_and] at ea e1
    refine ⟨0, 0, false, ?_, ?_⟩
    · refine Ev.bind ea ?_
      simp only [Bool.false_eq_true, ↓reduceIte]; exact Ev.now _
    · refine Ev.bind e1 ?_
      simp only [Bool.false_eq_true, ↓reduceIte]; exact Ev.now _
end Go.Proofs.Ytlhhjdlaljmppaa.T
