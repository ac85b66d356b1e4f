/- The plain law of the best fold. No condition. -/
import Derived.Test.YtafapmanfncfkaaD0
import Derived.Test.YtafapmanfncfkaaD3
import Derived.Test.YtafapmanfncfkaaD8
import Derived.Test.YtafapmanfncfkaaD9
import Derived.Test.YtafapmanfncfkaaDQFS
set_option linter.unusedVariables false
set_option linter.unusedSimpArgs false
namespace Go.Proofs.Ytafapmanfncfkaa.D
open Go.RowKit Go.Proofs.YtafapmanfncfkaaW.PrintWords Go.Proofs.YtafapmanfncfkaaW.PrintLast Go.Proofs.YtafapmanfncfkaaW.PrintMore

theorem foldS_cnt (l : List Int) (b : Int) : ∀ (xs o : List S55) (c : Int), c ≤ (foldS l b xs o c).2 ∧ (foldS l b xs o c).2 ≤ c + xs.length := by
  intro xs
  induction xs with
  | nil => intro o c; simp [foldS]
  | cons x xs ih =>
    intro o c
    unfold foldS
    simp only [List.length_cons]
    split
    · have := ih o (c + 1); omega
    · split
      · have := ih (SNote.srt (o ++ [⟨foldTo l (x.f0 + b), x.f1, x.f2⟩])) c; omega
      · have := ih o (c + 1); omega
def outOf (l : List Int) (s : List S55) (b : Int) : Int := (foldS l b s [] 0).2
theorem outOf_range (l : List Int) (s : List S55) (b : Int) : 0 ≤ outOf l s b ∧ outOf l s b ≤ s.length := by
  have := foldS_cnt l b s [] 0
  unfold outOf
  omega
def validOf (b : Int) : List S55 → List S55
  | [] => []
  | x :: xs => if 24 ≤ x.f0 + b ∧ x.f0 + b ≤ 96 then ⟨x.f0 + b, x.f1, x.f2⟩ :: validOf b xs else validOf b xs
theorem validOf_len (b : Int) : ∀ xs : List S55, (validOf b xs).length ≤ xs.length := by
  intro xs
  induction xs with
  | nil => simp [validOf]
  | cons x xs ih => unfold validOf; split <;> simp <;> omega
theorem validOf_note (b : Int) : ∀ xs : List S55, (∀ x ∈ xs, noteB x = true) → ∀ x ∈ validOf b xs, noteB x = true := by
  intro xs
  induction xs with
  | nil => intro _ x hx; simp [validOf] at hx
  | cons y ys ih =>
    intro h x hx
    have hy := (noteB_iff y).1 (h y (by simp))
    unfold validOf at hx
    split at hx
    · rename_i hv
      rcases List.mem_cons.1 hx with rfl | hx
      · exact (noteB_iff _).2 (by simp only; omega)
      · exact ih (fun x hx => h x (by simp [hx])) x hx
    · exact ih (fun x hx => h x (by simp [hx])) x hx
theorem fold_valid (l : List Int) (b : Int) : ∀ (xs o : List S55) (c c' : Int), (foldS l b xs o c).2 - c = (foldS l 0 (validOf b xs) o c').2 - c' + ((xs.length : Int) - ((validOf b xs).length : Int)) := by
  intro xs
  induction xs with
  | nil => intro o c c'; simp [foldS, validOf]
  | cons x xs ih =>
    intro o c c'
    by_cases hv : 24 ≤ x.f0 + b ∧ x.f0 + b ≤ 96
    · simp only [validOf, hv, and_self, ↓reduceIte, foldS, Int.add_zero, List.length_cons]
      split
      · have := ih o (c + 1) (c' + 1); omega
      · split
        · have := ih (SNote.srt (o ++ [⟨foldTo l (x.f0 + b), x.f1, x.f2⟩])) c c'; omega
        · have := ih o (c + 1) (c' + 1); omega
    · have hf : foldTo l (x.f0 + b) = -1 := by unfold foldTo; rw [if_neg hv]
      simp only [validOf, hv, ↓reduceIte, foldS, hf, List.length_cons]
      have := ih o (c + 1) c'; omega
def pairsI : Int → Nat → List Int
  | _, 0 => []
  | d, n + 1 => -d :: d :: pairsI (d + 1) n
theorem pairsI_len : ∀ (n : Nat) (d : Int), (pairsI d n).length = 2 * n := by
  intro n
  induction n with
  | zero => intro d; rfl
  | succ n ih => intro d; simp only [pairsI, List.length_cons, ih]; omega
theorem pairsI_range : ∀ (n : Nat) (d : Int), 1 ≤ d → d + n ≤ 12 → ∀ x ∈ pairsI d n, -11 ≤ x ∧ x ≤ 11 := by
  intro n
  induction n with
  | zero => intro d _ _ x hx; simp [pairsI] at hx
  | succ n ih =>
    intro d h1 h2 x hx
    simp only [pairsI, List.mem_cons] at hx
    rcases hx with rfl | rfl | hx
    · omega
    · omega
    · exact ih (d + 1) (by omega) (by omega) x hx
theorem trOrder_l0 : ∀ (n : Nat) (d : Int) (acc : List Int), d + n = 12 → 1 ≤ d → (acc.length : Int) ≤ 2 * d → Ev (fun k => spec_trOrder.l0 k 11 acc d) (acc ++ pairsI d n) := by
  intro n
  induction n with
  | zero =>
    intro d acc h h1 ha
    have hn : ¬ d ≤ 11 := by omega
    refine Ev.fuel ?_
    simp only [spec_trOrder.l0, hn, ↓reduceIte, pairsI, List.append_nil]
    exact Ev.now _
  | succ n ih =>
    intro d acc h h1 ha
    have hn : d ≤ 11 := by omega
    have hb : acc.length + [-d, d].length < 17592186044416 := by simp only [List.length_cons, List.length_nil]; omega
    refine Ev.fuel ?_
    simp only [spec_trOrder.l0, hn, ↓reduceIte, Option.bind_some, w_id (x := -d) (by omega) (by omega), w_id (x := d + 1) (by omega) (by omega), hb]
    have e := ih (d + 1) (acc ++ [-d, d]) (by omega) (by omega) (by simp; omega)
    simpa [pairsI] using e
def bestStep (f : Int → Int) (p : Int × Int) (x : Int) : Int × Int := if f x < p.2 then (x, f x) else p
theorem specBest_l0 (l : List Int) (r : Int) (s : List S55) (hl : l.length ≤ 1048576) (hs : s.length ≤ 30) (ha : ∀ x ∈ l, 24 ≤ x ∧ x ≤ 96) (hn : ∀ x ∈ s, noteB x = true) (ps : List Int) (hp : ps.length ≤ 1000) (hr : ∀ x ∈ ps, -11 ≤ x ∧ x ≤ 11) : ∀ (suf pre : List Int) (b m : Int), pre ++ suf = ps → 0 ≤ m →
    Ev (fun k => spec_BestFold.l0 k s b m ps ps.length pre.length l r) ((suf.foldl (bestStep (outOf l s)) (b, m)).1, (suf.foldl (bestStep (outOf l s)) (b, m)).2, true) := by
  intro suf
  induction suf with
  | nil =>
    intro pre b m h h0
    have hn : ¬ ((pre.length : Int) < (ps.length : Int)) := by rw [← h]; simp
    refine Ev.fuel ?_
    simp only [spec_BestFold.l0, hn, ↓reduceIte, List.foldl_nil]
    exact Ev.now _
  | cons x suf ih =>
    intro pre b m h h0
    have hlen : ps.length = pre.length + (suf.length + 1) := by rw [← h]; simp
    have h1 : (pre.length : Int) < (ps.length : Int) := by omega
    have h2 : (0 : Int) ≤ (pre.length : Int) := by omega
    have hx : rd ps (pre.length : Int) = x := by rw [← h]; exact getD_mid _ _ _ _
    have hm : ¬ m < 0 := by omega
    have hxr := hr x (by rw [← h]; simp)
    have e : ∀ b m, 0 ≤ m → Ev (fun k => spec_BestFold.l0 k s b m ps ps.length ((pre.length + 1 : Nat) : Int) l r) ((suf.foldl (bestStep (outOf l s)) (b, m)).1, (suf.foldl (bestStep (outOf l s)) (b, m)).2, true) := fun b m h0 => by
      simpa using ih (pre ++ [x]) b m (by rw [← h]; simp) h0
    refine Ev.fuel ?_
    simp only [spec_BestFold.l0, h1, h2, hx, ↓reduceIte, wn pre.length (by omega)]
    refine Ev.bind (trFold_ev l r x s hl ha hs hn (by omega)) ?_
    by_cases hc : outOf l s x < m
    · have hc' : (foldS l x s [] 0).2 < m := hc
      simp only [hm, hc, hc', ↓reduceIte, List.foldl_cons, bestStep]
      exact e x _ (outOf_range l s x).1
    · have hc' : ¬ (foldS l x s [] 0).2 < m := hc
      simp only [hm, hc, hc', ↓reduceIte, List.foldl_cons, bestStep]
      exact e b m h0
theorem closure_l0 (l : List Int) (r : Int) (s : List S55) (b : Int) (hl : l.length ≤ 1048576) (ha : ∀ x ∈ l, 24 ≤ x ∧ x ≤ 96) (hs : s.length ≤ 30) (hn : ∀ x ∈ s, noteB x = true) (hb : -24 ≤ b ∧ b ≤ 24) (V : List S55) (hV : V.length ≤ s.length) (hVn : ∀ x ∈ V, noteB x = true) : ∀ (suf pre v : List S55), pre ++ suf = s → v ++ validOf b suf = V →
    Ev (fun k => impl_BestFold_1.l0 k v s.length pre.length b s l r) ((foldS l 0 V [] 0).2 + s.length - V.length) := by
  intro suf
  induction suf with
  | nil =>
    intro pre v h hv
    have hn : ¬ ((pre.length : Int) < (s.length : Int)) := by rw [← h]; simp
    have hv' : v = V := by simpa [validOf] using hv
    subst hv'
    have hc := foldS_cnt l 0 v [] 0
    refine Ev.fuel ?_
    simp only [impl_BestFold_1.l0, hn, ↓reduceIte]
    refine Ev.bind (foldScore_ev l r v hl ha (by omega) hVn) ?_
    rw [w_id (x := (foldS l 0 v [] 0).2 + (s.length : Int)) (by omega) (by omega), w_id (by omega) (by omega)]
    exact Ev.now _
  | cons x suf ih =>
    intro pre v h hv
    have hlen : s.length = pre.length + (suf.length + 1) := by rw [← h]; simp
    have h1 : (pre.length : Int) < (s.length : Int) := by omega
    have h2 : (0 : Int) ≤ (pre.length : Int) := by omega
    have h3 : rd_T55 s (pre.length : Int) = x := by rw [← h]; exact getD_mid _ _ _ _
    have hx := (noteB_iff x).1 (hn x (by rw [← h]; simp))
    have hvl : v.length ≤ V.length := by rw [← hv]; simp
    have h4 : v.length < 5864062014805 := by omega
    refine Ev.fuel ?_
    simp only [impl_BestFold_1.l0, h1, h2, h3, h4, ↓reduceIte, wn pre.length (by omega), isPitch_eq, Option.bind_some, w_id (x := x.f0 + b) (by omega) (by omega), decide_eq_true_eq]
    by_cases hp : 24 ≤ x.f0 + b ∧ x.f0 + b ≤ 96
    · simp only [hp, and_self, ↓reduceIte]
      simp only [validOf, hp, and_self, ↓reduceIte] at hv
      simpa using ih (pre ++ [x]) (v ++ [⟨x.f0 + b, x.f1, x.f2⟩]) (by rw [← h]; simp) (by rw [← hv]; simp)
    · simp only [hp, ↓reduceIte]
      simp only [validOf, hp, ↓reduceIte] at hv
      simpa using ih (pre ++ [x]) v (by rw [← h]; simp) hv
theorem closure_ev (l : List Int) (r : Int) (s : List S55) (b : Int) (hl : l.length ≤ 1048576) (ha : ∀ x ∈ l, 24 ≤ x ∧ x ≤ 96) (hs : s.length ≤ 30) (hn : ∀ x ∈ s, noteB x = true) (hb : -24 ≤ b ∧ b ≤ 24) : Ev (fun k => impl_BestFold_1.f k l r s b) (outOf l s b) := by
  unfold impl_BestFold_1.f
  have e := closure_l0 l r s b hl ha hs hn hb (validOf b s) (validOf_len b s) (validOf_note b s hn) s [] [] rfl rfl
  have h := fold_valid l b s [] 0 0
  have h2 : outOf l s b = (foldS l 0 (validOf b s) [] 0).2 + s.length - (validOf b s).length := by unfold outOf; omega
  rw [h2]
  simpa using e
theorem bestBy_l1 (l : List Int) (r : Int) (s : List S55) (hl : l.length ≤ 1048576) (hs : s.length ≤ 30) (ha : ∀ x ∈ l, 24 ≤ x ∧ x ≤ 96) (hn : ∀ x ∈ s, noteB x = true) (d : Int) (ps : List Int) (hp : ps.length ≤ 1000) (hr : ∀ x ∈ ps, -11 ≤ x ∧ x ≤ 11) (res : Int × Int) : ∀ (suf pre : List Int) (b m : Int), pre ++ suf = ps →
    Ev (fun k => impl_bestBy_F.l0 k 11 (suf.foldl (bestStep (outOf l s)) (b, m)).1 (suf.foldl (bestStep (outOf l s)) (b, m)).2 (wrap64 (d + 1)) l r s) res →
    Ev (fun k => impl_bestBy_F.l1 k 11 b m d ps ps.length pre.length l r s) res := by
  intro suf
  induction suf with
  | nil =>
    intro pre b m h hres
    have hn : ¬ ((pre.length : Int) < (ps.length : Int)) := by rw [← h]; simp
    refine Ev.fuel ?_
    simp only [impl_bestBy_F.l1, hn, ↓reduceIte]
    exact hres
  | cons x suf ih =>
    intro pre b m h hres
    have hlen : ps.length = pre.length + (suf.length + 1) := by rw [← h]; simp
    have h1 : (pre.length : Int) < (ps.length : Int) := by omega
    have h2 : (0 : Int) ≤ (pre.length : Int) := by omega
    have hx : rd ps (pre.length : Int) = x := by rw [← h]; exact getD_mid _ _ _ _
    have hxr := hr x (by rw [← h]; simp)
    refine Ev.fuel ?_
    simp only [impl_bestBy_F.l1, h1, h2, hx, ↓reduceIte, wn pre.length (by omega)]
    refine Ev.bind (closure_ev l r s x hl ha hs hn (by omega)) ?_
    rw [List.foldl_cons] at hres
    by_cases hc : outOf l s x < m
    · simp only [hc, ↓reduceIte, bestStep] at hres ⊢
      simpa using ih (pre ++ [x]) x (outOf l s x) (by rw [← h]; simp) hres
    · simp only [hc, ↓reduceIte, bestStep] at hres ⊢
      simpa using ih (pre ++ [x]) b m (by rw [← h]; simp) hres
theorem bestBy_l0 (l : List Int) (r : Int) (s : List S55) (hl : l.length ≤ 1048576) (hs : s.length ≤ 30) (ha : ∀ x ∈ l, 24 ≤ x ∧ x ≤ 96) (hn : ∀ x ∈ s, noteB x = true) : ∀ (n : Nat) (d b m : Int), d + n = 12 → 1 ≤ d →
    Ev (fun k => impl_bestBy_F.l0 k 11 b m d l r s) ((pairsI d n).foldl (bestStep (outOf l s)) (b, m)) := by
  intro n
  induction n with
  | zero =>
    intro d b m h h1
    have hn : ¬ d ≤ 11 := by omega
    refine Ev.fuel ?_
    simp only [impl_bestBy_F.l0, hn, ↓reduceIte, pairsI, List.foldl_nil]
    exact Ev.now _
  | succ n ih =>
    intro d b m h h1
    have hd : d ≤ 11 := by omega
    refine Ev.fuel ?_
    simp only [impl_bestBy_F.l0, hd, ↓reduceIte, w_id (x := -d) (by omega) (by omega)]
    refine bestBy_l1 l r s hl hs ha hn d [-d, d] (by simp) (by intro x hx; simp at hx; omega) _ [-d, d] [] b m rfl ?_
    rw [w_id (x := d + 1) (by omega) (by omega)]
    simp only [pairsI, List.foldl_cons, List.foldl_nil]
    exact ih (d + 1) _ _ (by omega) (by omega)
theorem bestFoldLaw_ev (l : List Int) (r : Int) (s : List S55) (hl : l.length ≤ 1048576) (hs : s.length ≤ 1048576) : ∃ r0 r1 r2, Ev (fun k => spec_BestFold.f k l r s) (r0, r1, r2) ∧ Ev (fun k => impl_BestFold.f k l r s) (r0, r1, r2) := by
  unfold spec_BestFold.f impl_BestFold.f
  have ea := inAsked_ev l r s hl hs
  have e1 := IsInstrument_ev l r hl
  have e2 := IsScore_ev s hs
  by_cases h1 : goodIns l r = true
  · by_cases h2 : goodScore s = true
    · simp only [h1, h2, Bool.and_self] at ea e1 e2
      have hn := goodScore_all h2
      have ha := goodIns_all h1
      have h30 := goodScore_len h2
      refine ⟨((pairsI 1 11).foldl (bestStep (outOf l s)) (0, outOf l s 0)).1, ((pairsI 1 11).foldl (bestStep (outOf l s)) (0, outOf l s 0)).2, true, ?_, ?_⟩
      · refine Ev.bind ea ?_
        simp only [↓reduceIte]
        have eo : Ev (fun k => spec_trOrder.f k 11) (0 :: pairsI 1 11) := by
          unfold spec_trOrder.f
          exact trOrder_l0 11 1 [0] (by omega) (by omega) (by simp)
        refine Ev.bind eo ?_
        have hlen : (0 :: pairsI 1 11).length = 23 := by rw [List.length_cons, pairsI_len]
        have hall : ∀ x ∈ (0 :: pairsI 1 11), -11 ≤ x ∧ x ≤ 11 := by
          intro x hx
          rcases List.mem_cons.1 hx with rfl | hx
          · omega
          · exact pairsI_range 11 1 (by omega) (by omega) x hx
        refine Ev.fuel ?_
        have c1 : (0 : Int) < ((0 :: pairsI 1 11).length : Int) := by rw [hlen]; decide
        have c3 : rd (0 :: pairsI 1 11) 0 = 0 := rfl
        have c4 : wrap64 (0 + 1) = ((([0] : List Int).length : Nat) : Int) := by rw [w_id (by omega) (by omega)]; rfl
        simp only [spec_BestFold.l0, c1, c3, Int.le_refl, ↓reduceIte]
        refine Ev.bind (trFold_ev l r 0 s hl ha h30 hn (by omega)) ?_
        simp only [show (-1 : Int) < 0 from by decide, ↓reduceIte]
        rw [c4]
        exact specBest_l0 l r s hl h30 ha hn (0 :: pairsI 1 11) (by omega) hall (pairsI 1 11) [0] 0 (outOf l s 0) rfl (outOf_range l s 0).1
      · refine Ev.bind e1 ?_
        simp only [↓reduceIte]
        refine Ev.bind e2 ?_
        simp only [↓reduceIte]
        have eb : Ev (fun k => impl_bestBy_F.f k 11 l r s) ((pairsI 1 11).foldl (bestStep (outOf l s)) (0, outOf l s 0)) := by
          unfold impl_bestBy_F.f
          exact Ev.bind (closure_ev l r s 0 hl ha h30 hn (by omega)) (bestBy_l0 l r s hl h30 ha hn 11 1 0 _ (by omega) (by omega))
        exact Ev.bind eb (Ev.now _)
    · simp only [h1, Bool.eq_false_iff.mpr h2, Bool.and_false] at ea e1 e2
      refine ⟨0, 0, false, ?_, ?_⟩
      · refine Ev.bind ea ?_
        simp only [Bool.false_eq_true, ↓reduceIte]; exact Ev.now _
      · refine Ev.bind e1 ?_
        simp only [↓reduceIte]
        refine Ev.bind e2 ?_
        simp only [Bool.false_eq_true, ↓reduceIte]; exact Ev.now _
  · simp only [Bool.eq_false_iff.mpr h1, Bool.false_and] at ea e1
    refine ⟨0, 0, false, ?_, ?_⟩
    · refine Ev.bind ea ?_
      simp only [Bool.false_eq_true, ↓reduceIte]; exact Ev.now _
    · refine Ev.bind e1 ?_
      simp only [Bool.false_eq_true, ↓reduceIte]; exact Ev.now _
end Go.Proofs.Ytafapmanfncfkaa.D
