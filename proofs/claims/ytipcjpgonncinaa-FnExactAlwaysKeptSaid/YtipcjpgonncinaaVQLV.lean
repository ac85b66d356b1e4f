/- Plain facts on voices for a loss, and on notes that are always kept. No condition. -/
import Derived.Test.YtipcjpgonncinaaV0
import Derived.Test.YtipcjpgonncinaaV6
import Derived.Test.YtipcjpgonncinaaV8
import Derived.Test.YtipcjpgonncinaaV9
import Derived.Test.YtipcjpgonncinaaVQLS
set_option linter.unusedVariables false
set_option linter.unusedSimpArgs false
namespace Go.Proofs.Ytipcjpgonncinaa.V
open Go.RowKit Go.Proofs.YtipcjpgonncinaaW.PrintWords Go.Proofs.YtipcjpgonncinaaW.PrintLast Go.Proofs.YtipcjpgonncinaaW.PrintMore

/-! ### Voices for a loss -/
theorem least_congr {n : Nat} {P Q : List Int → Bool} {L : List Int → Int} (hP : ∀ A B, P (A ++ B) = true → P A = true) (hQ : ∀ A B, Q (A ++ B) = true → Q A = true) (p0 : P [] = true) (q0 : Q [] = true) (hL : ∀ K, IncFrom (n : Int) 0 K → 0 ≤ L K) (h : ∀ K, IncFrom (n : Int) 0 K → P K = Q K) : (found n P L).2.1 = (found n Q L).2.1 := by
  obtain ⟨a0, a1, a2, a3, _⟩ := found_at hP p0 hL
  obtain ⟨b0, b1, b2, b3, _⟩ := found_at hQ q0 hL
  have h1 := (search_iff hP p0 n _).1 a1
  have h2 := (search_iff hQ q0 n _).1 b1
  have h3 := a3 _ ((search_iff hP p0 n _).2 ⟨h2.1, by rw [h _ h2.1]; exact h2.2⟩)
  have h4 := b3 _ ((search_iff hQ q0 n _).2 ⟨h1.1, by rw [← h _ h1.1]; exact h1.2⟩)
  omega
def firstV (w : Int → Bool) : Nat → Int → Int × Bool
  | 0, _ => (0, false)
  | m + 1, x => if w x = true then (x, true) else firstV w m (x + 1)
theorem firstV_app (w : Int → Bool) (b : Nat) : ∀ (a : Nat) (x : Int), (∀ y, x + a ≤ y → w y = true → ∃ z, x ≤ z ∧ z < x + a ∧ w z = true) → firstV w (a + b) x = firstV w a x := by
  have none : ∀ (b : Nat) (x : Int), (∀ y, x ≤ y → w y = false) → firstV w b x = (0, false) := by
    intro b
    induction b with
    | zero => intros; rfl
    | succ b ih =>
      intro x h
      unfold firstV
      rw [if_neg (by rw [h x (Int.le_refl _)]; simp)]
      exact ih (x + 1) fun y hy => h y (by omega)
  intro a
  induction a with
  | zero =>
    intro x h
    rw [Nat.zero_add, none b x]
    · rfl
    · intro y hy
      cases e : w y with
      | false => rfl
      | true =>
        obtain ⟨z, z1, z2, _⟩ := h y (by omega) e
        omega
  | succ a ih =>
    intro x h
    rw [show a + 1 + b = (a + b) + 1 by omega]
    unfold firstV
    by_cases e : w x = true
    · rw [if_pos e, if_pos e]
    · rw [if_neg e, if_neg e]
      refine ih (x + 1) fun y hy hw => ?_
      obtain ⟨z, z1, z2, z3⟩ := h y (by omega) hw
      refine ⟨z, ?_, by omega, z3⟩
      by_cases ez : z = x
      · subst ez; exact absurd z3 e
      · omega
theorem voicesForSpec_l0 (l : List Int) (r : Int) (s : List S51) (a : Int) (hl : l.length ≤ 1048576) (hs : s.length ≤ 12) (hn : ∀ x ∈ s, noteB x = true) (ha : Apart s) : ∀ (m : Nat) (x : Int), x + m = 21 → 1 ≤ x →
    Ev (fun k => spec_VoicesFor.l0 k l r s a x) (firstV (fun v => decide ((found s.length (playableB l r s v) (fun K => lossS K s 0)).2.1 ≤ a)) m x) := by
  intro m
  induction m with
  | zero =>
    intro x h h1
    refine Ev.fuel ?_
    simp only [spec_VoicesFor.l0, show ¬ x ≤ 20 from by omega, ↓reduceIte]
    exact Ev.now _
  | succ m ih =>
    intro x h h1
    refine Ev.fuel ?_
    simp only [spec_VoicesFor.l0, show x ≤ 20 from by omega, ↓reduceIte, w_id (x := x + 1) (by omega) (by omega)]
    refine Ev.bind (search_ev l r s x hl hs hn ha) ?_
    unfold firstV
    by_cases e : (found s.length (playableB l r s x) (fun K => lossS K s 0)).2.1 ≤ a
    · simp only [e, ↓reduceIte, decide_true]; exact Ev.now _
    · simp only [e, ↓reduceIte, decide_false, Bool.false_eq_true]; exact ih (x + 1) (by omega) (by omega)
theorem voicesForImpl_l0 (l : List Int) (r : Int) (s : List S51) (a : Int) (hl : l.length ≤ 1048576) (hs : s.length ≤ 12) (hn : ∀ x ∈ s, noteB x = true) : ∀ (m : Nat) (x : Int), x + m = 13 → 1 ≤ x →
    Ev (fun k => impl_VoicesFor.l0 k s a x l r) (firstV (fun v => decide ((listed s.length (playableB l r s v) (fun K => lossS K s 0)).2 ≤ a)) m x) := by
  intro m
  induction m with
  | zero =>
    intro x h h1
    refine Ev.fuel ?_
    simp only [impl_VoicesFor.l0, show ¬ x ≤ 12 from by omega, ↓reduceIte]
    exact Ev.now _
  | succ m ih =>
    intro x h h1
    refine Ev.fuel ?_
    simp only [impl_VoicesFor.l0, show x ≤ 12 from by omega, ↓reduceIte, w_id (x := x + 1) (by omega) (by omega)]
    refine Ev.bind (leastParts_ev l r s x hl hs hn) ?_
    unfold firstV
    by_cases e : (listed s.length (playableB l r s x) (fun K => lossS K s 0)).2 ≤ a
    · simp only [e, ↓reduceIte, decide_true]; exact Ev.now _
    · simp only [e, ↓reduceIte, decide_false, Bool.false_eq_true]; exact ih (x + 1) (by omega) (by omega)
theorem firstV_congr {w u : Int → Bool} : ∀ (m : Nat) (x : Int), (∀ y, x ≤ y → w y = u y) → firstV w m x = firstV u m x
  | 0, _, _ => rfl
  | m + 1, x, h => by
    unfold firstV
    rw [h x (Int.le_refl _), firstV_congr m (x + 1) fun y hy => h y (by omega)]
theorem voicesForLaw_ev (l : List Int) (r : Int) (s : List S51) (a : Int) (hl : l.length ≤ 1048576) (hs : s.length ≤ 1048576) : ∃ r0 r1, Ev (fun k => spec_VoicesFor.f k l r s a) (r0, r1) ∧ Ev (fun k => impl_VoicesFor.f k l r s a) (r0, r1) := by
  unfold spec_VoicesFor.f impl_VoicesFor.f
  have e0 := inGood_ev l r hl
  have e3 := thGood_ev s hs
  have e1 := IsInstrument_ev l r hl
  have e2 := isThin_ev s hs
  have jT : Ev (fun k => impl_VoicesFor.j0 k s a true l r) (0, false) := by
    refine Ev.fuel ?_
    simp only [impl_VoicesFor.j0, ↓reduceIte]; exact Ev.now _
  by_cases h1 : goodIns l r = true
  · simp only [h1] at e0 e1
    by_cases h2 : goodThin s = true
    · simp only [h2] at e2 e3
      have h' := (goodThin_iff s).1 h2
      have hn := goodScore_all h'.1
      have ha := goodScore_apart h'.1
      by_cases h3 : 0 ≤ a ∧ a ≤ 2000
      · have c1 := voicesForSpec_l0 l r s a hl h'.2 hn ha 20 1 (by omega) (by omega)
        have c2 := voicesForImpl_l0 l r s a hl h'.2 hn 12 1 (by omega) (by omega)
        have hL : ∀ K, IncFrom (s.length : Int) 0 K → 0 ≤ lossS K s 0 := fun K _ => loss_nonneg s hn K
        have same : ∀ v : Int, 1 ≤ v → (found s.length (playableB l r s v) (fun K => lossS K s 0)).2.1 = (listed s.length (playableB l r s v) (fun K => lossS K s 0)).2 := fun v hv => least_same (playable_pre l r s v) (playable_nil l r s v (by omega)) hL
        have many : ∀ v : Int, 13 ≤ v → (found s.length (playableB l r s v) (fun K => lossS K s 0)).2.1 = (found s.length (playableB l r s 12) (fun K => lossS K s 0)).2.1 := fun v hv =>
          least_congr (playable_pre l r s v) (playable_pre l r s 12) (playable_nil l r s v (by omega)) (playable_nil l r s 12 (by omega)) hL fun K hK => by
            have := hK.len (by omega)
            exact playable_many l r s v 12 K (by omega) (by omega)
        have e : firstV (fun v => decide ((found s.length (playableB l r s v) (fun K => lossS K s 0)).2.1 ≤ a)) 20 1 = firstV (fun v => decide ((listed s.length (playableB l r s v) (fun K => lossS K s 0)).2 ≤ a)) 12 1 := by
          rw [firstV_app _ 8 12 1 fun y hy hw => ⟨12, by omega, by omega, by rw [many y (by omega)] at hw; exact hw⟩]
          exact firstV_congr 12 1 fun y hy => by rw [same y hy]
        rw [← e] at c2
        generalize firstV (fun v => decide ((found s.length (playableB l r s v) (fun K => lossS K s 0)).2.1 ≤ a)) 20 1 = q at c1 c2
        obtain ⟨q0, q1⟩ := q
        refine ⟨q0, q1, ?_, ?_⟩
        · refine Ev.bind e0 ?_
          simp only [↓reduceIte]
          refine Ev.bind e3 ?_
          simp only [↓reduceIte, l1In_eq, Option.bind_some, h3, and_self, decide_true]
          exact c1
        · refine Ev.bind e1 ?_
          simp only [↓reduceIte]
          refine Ev.bind e2 ?_
          simp only [↓reduceIte, show ¬ a < 0 from by omega, show ¬ a > 2000 from by omega, decide_false]
          refine Ev.fuel ?_
          simp only [impl_VoicesFor.j0, Bool.false_eq_true, ↓reduceIte]
          exact c2
      · refine ⟨0, false, ?_, ?_⟩
        · refine Ev.bind e0 ?_
          simp only [↓reduceIte]
          refine Ev.bind e3 ?_
          simp only [↓reduceIte, l1In_eq, Option.bind_some, h3, decide_false, Bool.false_eq_true]
          exact Ev.now _
        · refine Ev.bind e1 ?_
          simp only [↓reduceIte]
          refine Ev.bind e2 ?_
          simp only [↓reduceIte]
          by_cases h4 : a < 0
          · simp only [h4, ↓reduceIte]; exact jT
          · simp only [h4, ↓reduceIte, show a > 2000 from by omega, decide_true]; exact jT
    · simp only [Bool.eq_false_iff.mpr h2] at e2 e3
      refine ⟨0, false, ?_, ?_⟩
      · refine Ev.bind e0 ?_
        simp only [↓reduceIte]
        refine Ev.bind e3 ?_
        simp only [Bool.false_eq_true, ↓reduceIte]; exact Ev.now _
      · refine Ev.bind e1 ?_
        simp only [↓reduceIte]
        refine Ev.bind e2 ?_
        simp only [Bool.false_eq_true, ↓reduceIte]; exact jT
  · simp only [Bool.eq_false_iff.mpr h1] at e0 e1
    refine ⟨0, false, ?_, ?_⟩
    · refine Ev.bind e0 ?_
      simp only [Bool.false_eq_true, ↓reduceIte]; exact Ev.now _
    · refine Ev.bind e1 ?_
      simp only [Bool.false_eq_true, ↓reduceIte]; exact jT
/-! ### Notes that are always kept -/
def outFrom (w : Nat → Bool) : Nat → Nat → List Int
  | 0, _ => []
  | m + 1, i => if w i = true then (i : Int) :: outFrom w m (i + 1) else outFrom w m (i + 1)
theorem outFrom_congr {w u : Nat → Bool} (h : ∀ q, w q = u q) : ∀ (m i : Nat), outFrom w m i = outFrom u m i
  | 0, _ => rfl
  | m + 1, i => by unfold outFrom; rw [h i, outFrom_congr h m (i + 1)]
theorem outFrom_len (w : Nat → Bool) : ∀ (m i : Nat), (outFrom w m i).length ≤ m
  | 0, _ => by simp [outFrom]
  | m + 1, i => by
    have := outFrom_len w m (i + 1)
    unfold outFrom
    split
    · simp only [List.length_cons]; omega
    · omega
theorem stepP_len {P : List Int → Bool} {L : List Int → Int} : ∀ (Ks : List (List Int)) (st : List (List Int) × Int), (Ks.foldl (stepP P L) st).1.length ≤ st.1.length + Ks.length
  | [], st => by simp
  | K :: Ks, st => by
    have h := stepP_len (P := P) (L := L) Ks (stepP P L st K)
    have h2 : (stepP P L st K).1.length ≤ st.1.length + 1 := by
      unfold stepP
      split
      · omega
      · split <;> simp
    simp only [List.foldl_cons, List.length_cons]
    omega
theorem listed_len (n : Nat) (P : List Int → Bool) (L : List Int → Int) : (listed n P L).1.length ≤ 2 ^ n := by
  have := stepP_len (P := P) (L := L) (allParts n) ([], -1)
  unfold listed
  simp only [List.length_nil, Nat.zero_add] at this
  exact Nat.le_trans this (by simp [allParts])
theorem alwaysSpec_l0 (w : Nat → Bool) (n : Nat) (hn : n ≤ 1000) : ∀ (m i : Nat) (acc : List Int), i + m = n → acc.length ≤ i → Ev (fun k => spec_AlwaysKept.l0 k acc ((List.range n).map w) n i) (acc ++ outFrom w m i, true) := by
  intro m
  induction m with
  | zero =>
    intro i acc h ha
    refine Ev.fuel ?_
    simp only [spec_AlwaysKept.l0, show ¬ ((i : Int) < (n : Int)) from by omega, ↓reduceIte, outFrom, List.append_nil]
    exact Ev.now _
  | succ m ih =>
    intro i acc h ha
    have hr : rdOf false ((List.range n).map w) (i : Int) = w i := by
      unfold rdOf
      rw [Int.toNat_natCast, List.getD_eq_getElem?_getD, List.getElem?_map, List.getElem?_range (by omega)]
      rfl
    refine Ev.fuel ?_
    simp only [spec_AlwaysKept.l0, show (i : Int) < (n : Int) from by omega, show (0 : Int) ≤ (i : Int) from by omega, List.length_map, List.length_range, ↓reduceIte, hr, show acc.length < 17592186044416 from by omega, wn i (by omega)]
    unfold outFrom
    by_cases e : w i = true
    · simp only [e, ↓reduceIte]
      have := ih (i + 1) (acc ++ [(i : Int)]) (by omega) (by simp; omega)
      simpa using this
    · simp only [e, ↓reduceIte]
      exact ih (i + 1) acc (by omega) (by omega)
theorem alwaysImpl_l1 (ps : List (List Int)) (hp : ps.length ≤ 100000) (hk : ∀ K ∈ ps, K.length ≤ 1048576) (acc : List Int) (hacc : acc.length ≤ 1000) (n i : Int) (R : List Int × Bool) : ∀ (suf pre : List (List Int)) (b : Bool), pre ++ suf = ps →
    (if (b && suf.all fun K => decide (i ∈ K)) = true then Ev (fun k => impl_AlwaysKept.l0 k ps (acc ++ [i]) n (wrap64 (i + 1))) R else Ev (fun k => impl_AlwaysKept.l0 k ps acc n (wrap64 (i + 1))) R) →
    Ev (fun k => impl_AlwaysKept.l1 k ps acc i b n i ps ps.length pre.length) R := by
  intro suf
  induction suf with
  | nil =>
    intro pre b h hR
    refine Ev.fuel ?_
    simp only [impl_AlwaysKept.l1, show ¬ ((pre.length : Int) < (ps.length : Int)) from by rw [← h]; simp, ↓reduceIte]
    cases b with
    | true => simp only [↓reduceIte, show acc.length < 17592186044416 from by omega]; simpa using hR
    | false => simp only [Bool.false_eq_true, ↓reduceIte]; simpa using hR
  | cons K suf ih =>
    intro pre b h hR
    have hlen : ps.length = pre.length + (suf.length + 1) := by rw [← h]; simp
    have c3 : rd_L3 ps (pre.length : Int) = K := by rw [← h]; exact getD_mid _ _ _ _
    refine Ev.fuel ?_
    simp only [impl_AlwaysKept.l1, show (pre.length : Int) < (ps.length : Int) from by omega, show (0 : Int) ≤ (pre.length : Int) from by omega, ↓reduceIte, c3, wn pre.length (by omega)]
    have e : ∀ b', (b && (K :: suf).all fun K => decide (i ∈ K)) = (b' && suf.all fun K => decide (i ∈ K)) → Ev (fun k => impl_AlwaysKept.l1 k ps acc i b' n i ps ps.length ((pre.length + 1 : Nat) : Int)) R := by
      intro b' hb
      have := ih (pre ++ [K]) b' (by rw [← h]; simp) (by rw [← hb]; exact hR)
      simpa using this
    cases b with
    | true =>
      simp only [↓reduceIte]
      exact Ev.bind (Contains_ev K i (hk K (by rw [← h]; simp))) (e _ (by simp))
    | false =>
      simp only [Bool.false_eq_true, ↓reduceIte]
      exact e _ (by simp)
theorem alwaysImpl_l0 (ps : List (List Int)) (hp : ps.length ≤ 100000) (hk : ∀ K ∈ ps, K.length ≤ 1048576) (n : Nat) (hn : n ≤ 1000) : ∀ (m i : Nat) (acc : List Int), i + m = n → acc.length ≤ i → Ev (fun k => impl_AlwaysKept.l0 k ps acc n i) (acc ++ outFrom (fun q => ps.all fun K => decide ((q : Int) ∈ K)) m i, true) := by
  intro m
  induction m with
  | zero =>
    intro i acc h ha
    refine Ev.fuel ?_
    simp only [impl_AlwaysKept.l0, show ¬ ((i : Int) < (n : Int)) from by omega, ↓reduceIte, outFrom, List.append_nil]
    exact Ev.now _
  | succ m ih =>
    intro i acc h ha
    refine Ev.fuel ?_
    simp only [impl_AlwaysKept.l0, show (i : Int) < (n : Int) from by omega, ↓reduceIte]
    refine alwaysImpl_l1 ps hp hk acc (by omega) n i _ ps [] true rfl ?_
    rw [wn i (by omega)]
    unfold outFrom
    by_cases e : (ps.all fun K => decide ((i : Int) ∈ K)) = true
    · simp only [e, Bool.true_and, ↓reduceIte]
      have := ih (i + 1) (acc ++ [(i : Int)]) (by omega) (by simp; omega)
      simpa using this
    · simp only [Bool.eq_false_iff.mpr e, Bool.true_and, Bool.false_eq_true, ↓reduceIte]
      exact ih (i + 1) acc (by omega) (by omega)
theorem alwaysLaw_ev (l : List Int) (r : Int) (s : List S51) (v : Int) (hl : l.length ≤ 1048576) (hs : s.length ≤ 1048576) : ∃ r0 r1, r0.length ≤ 1048576 ∧ Ev (fun k => spec_AlwaysKept.f k l r s v) (r0, r1) ∧ Ev (fun k => impl_AlwaysKept.f k l r s v) (r0, r1) := by
  unfold spec_AlwaysKept.f impl_AlwaysKept.f
  have ea := thAsked_ev l r s v hl hs
  have e1 := IsInstrument_ev l r hl
  have e2 := isThin_ev s hs
  have jT : Ev (fun k => impl_AlwaysKept.j0 k s v true l r) ([], false) := by
    refine Ev.fuel ?_
    simp only [impl_AlwaysKept.j0, ↓reduceIte]; exact Ev.now _
  by_cases h1 : goodIns l r = true
  · by_cases h2 : goodThin s = true
    · by_cases h3 : 1 ≤ v ∧ v ≤ 20
      · simp only [h1, h2, h3, and_self, decide_true, Bool.true_and] at ea e1 e2
        have h' := (goodThin_iff s).1 h2
        have hn := goodScore_all h'.1
        have ha := goodScore_apart h'.1
        have hL : ∀ K, IncFrom (s.length : Int) 0 K → 0 ≤ lossS K s 0 := fun K _ => loss_nonneg s hn K
        have hP := playable_pre l r s v
        have h0 := playable_nil l r s v (by omega)
        obtain ⟨_, _, _, _, _, fa⟩ := found_at hP h0 hL
        obtain ⟨_, _, _, la⟩ := listed_at (P := playableB l r s v) h0 hL
        have c1 := alwaysSpec_l0 (allw (fun K => lossS K s 0) (leaves (playableB l r s v) s.length 0 []) (found s.length (playableB l r s v) (fun K => lossS K s 0)).2.1) s.length (by omega) s.length 0 [] (by omega) (by simp)
        have hp2 : 2 ^ s.length ≤ 2 ^ 12 := Nat.pow_le_pow_right (by omega) h'.2
        have c2 := alwaysImpl_l0 (listed s.length (playableB l r s v) (fun K => lossS K s 0)).1 (by have := listed_len s.length (playableB l r s v) (fun K => lossS K s 0); omega) (fun K hK => by
          have := ((allParts_iff s.length K).1 ((la K).1 hK).1).len (by omega)
          omega) s.length (by omega) s.length 0 [] (by omega) (by simp)
        rw [outFrom_congr (always_same hP h0 hL)] at c1
        have hlen := outFrom_len (fun q => (listed s.length (playableB l r s v) (fun K => lossS K s 0)).1.all fun K => decide ((q : Int) ∈ K)) s.length 0
        refine ⟨outFrom (fun q => (listed s.length (playableB l r s v) (fun K => lossS K s 0)).1.all fun K => decide ((q : Int) ∈ K)) s.length 0, true, by omega, ?_, ?_⟩
        · refine Ev.bind ea ?_
          simp only [↓reduceIte]
          refine Ev.bind (search_ev l r s v hl h'.2 hn ha) ?_
          rw [fa]
          simp only [List.length_map, List.length_range]
          exact c1
        · refine Ev.bind e1 ?_
          simp only [↓reduceIte]
          refine Ev.bind e2 ?_
          simp only [↓reduceIte, isVoices_eq, h3, and_self, decide_true, Option.bind_some, Bool.not_true]
          refine Ev.fuel ?_
          simp only [impl_AlwaysKept.j0, Bool.false_eq_true, ↓reduceIte]
          exact Ev.bind (leastParts_ev l r s v hl h'.2 hn) c2
      · simp only [h1, h2, h3, decide_false, Bool.true_and] at ea e1 e2
        refine ⟨[], false, by simp, ?_, ?_⟩
        · refine Ev.bind ea ?_
          simp only [Bool.false_eq_true, ↓reduceIte]; exact Ev.now _
        · refine Ev.bind e1 ?_
          simp only [↓reduceIte]
          refine Ev.bind e2 ?_
          simp only [↓reduceIte, isVoices_eq, h3, decide_false, Option.bind_some, Bool.not_false]
          exact jT
    · simp only [h1, Bool.eq_false_iff.mpr h2, Bool.true_and, Bool.false_and] at ea e1 e2
      refine ⟨[], false, by simp, ?_, ?_⟩
      · refine Ev.bind ea ?_
        simp only [Bool.false_eq_true, ↓reduceIte]; exact Ev.now _
      · refine Ev.bind e1 ?_
        simp only [↓reduceIte]
        refine Ev.bind e2 ?_
        simp only [Bool.false_eq_true, ↓reduceIte]; exact jT
  · simp only [Bool.eq_false_iff.mpr h1, Bool.false_and] at ea e1
    refine ⟨[], false, by simp, ?_, ?_⟩
    · refine Ev.bind ea ?_
      simp only [Bool.false_eq_true, ↓reduceIte]; exact Ev.now _
    · refine Ev.bind e1 ?_
      simp only [Bool.false_eq_true, ↓reduceIte]; exact jT
end Go.Proofs.Ytipcjpgonncinaa.V
