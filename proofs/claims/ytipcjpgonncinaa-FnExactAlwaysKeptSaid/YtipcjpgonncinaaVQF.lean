/- Plain facts on fast repeats, and on what an instrument can play of a score. No condition. -/
import Derived.Test.YtipcjpgonncinaaV0
import Derived.Test.YtipcjpgonncinaaV3
import Derived.Test.YtipcjpgonncinaaV5
import Derived.Test.YtipcjpgonncinaaVQV
set_option linter.unusedVariables false
set_option linter.unusedSimpArgs false
namespace Go.Proofs.Ytipcjpgonncinaa.V
open Go.RowKit Go.Proofs.YtipcjpgonncinaaW.PrintWords Go.Proofs.YtipcjpgonncinaaW.PrintLast Go.Proofs.YtipcjpgonncinaaW.PrintMore

theorem getD_app {α : Type} (l t : List α) (z : α) (n : Nat) (h : n < l.length) : (l ++ t).getD n z = l.getD n z := by
  rw [List.getD_eq_getElem?_getD, List.getD_eq_getElem?_getD, List.getElem?_append_left h]
/-- The last note of a pitch, in a list told backwards: its index and its start. -/
def lastR (p : Int) : List S51 → Option (Nat × Int)
  | [] => none
  | y :: ys => if y.f0 = p then some (ys.length, y.f1) else lastR p ys
theorem lastR_some (p : Int) : ∀ (r : List S51) (i : Nat) (t : Int), lastR p r = some (i, t) → i < r.length ∧ (rd_T51 r.reverse (i : Int)).f1 = t ∧ (rd_T51 r.reverse (i : Int)).f0 = p := by
  intro r
  induction r with
  | nil => intro i t h; simp [lastR] at h
  | cons y ys ih =>
    intro i t h
    simp only [lastR] at h
    by_cases hy : y.f0 = p
    · rw [if_pos hy] at h
      simp only [Option.some.injEq, Prod.mk.injEq] at h
      obtain ⟨rfl, rfl⟩ := h
      have e : rd_T51 (y :: ys).reverse ((ys.length : Nat) : Int) = y := by
        rw [List.reverse_cons, show ys.length = ys.reverse.length by simp]
        exact getD_mid _ _ _ _
      rw [e]
      exact ⟨by simp, rfl, hy⟩
    · rw [if_neg hy] at h
      obtain ⟨h1, h2, h3⟩ := ih i t h
      have e : rd_T51 (y :: ys).reverse (i : Int) = rd_T51 ys.reverse (i : Int) := by
        unfold rd_T51
        rw [List.reverse_cons, getD_app _ _ _ _ (by simpa using h1)]
      rw [e]
      exact ⟨by simp only [List.length_cons]; omega, h2, h3⟩
def fastOne (rep : Int) (r : List S51) (x : S51) : List (List Int) :=
  match lastR x.f0 r with
  | none => []
  | some (i, t) => if x.f1 - t < rep then [[(i : Int), (r.length : Int)]] else []
def fastFrom (rep : Int) : List S51 → List S51 → List (List Int)
  | _, [] => []
  | r, x :: xs => fastOne rep r x ++ fastFrom rep (x :: r) xs
theorem fastOne_len (rep : Int) (r : List S51) (x : S51) : (fastOne rep r x).length ≤ 1 := by
  unfold fastOne
  split
  · simp
  · split <;> simp
def idxOr (o : Option (Nat × Int)) : Int := match o with | none => -1 | some (i, _) => (i : Int)
theorem inLast_l0 (s : List S51) (hs : s.length ≤ 1000) (i : Nat) (hi : i < s.length) (p : Int) (hp : (rd_T51 s (i : Int)).f0 = p) : ∀ (r : List S51) (t : List S51), r.reverse ++ t = s →
    Ev (fun k => spec_inLast.l0 k s (i : Int) ((r.length : Int) - 1)) (idxOr (lastR p r)) := by
  intro r
  induction r with
  | nil =>
    intro t h
    refine Ev.fuel ?_
    simp only [spec_inLast.l0, List.length_nil, Int.natCast_zero, Int.zero_sub, show ¬ ((-1 : Int) ≥ 0) from by decide, ↓reduceIte, lastR, idxOr]
    exact Ev.now _
  | cons y ys ih =>
    intro t h
    have hlen : s.length = ys.length + 1 + t.length := by rw [← h]; simp; omega
    have e1 : (((y :: ys).length : Nat) : Int) - 1 = (ys.length : Int) := by simp only [List.length_cons]; omega
    have h1 : (ys.length : Int) ≥ 0 := by omega
    have h1' : (0 : Int) ≤ (ys.length : Int) := by omega
    have h2 : (ys.length : Int) < (s.length : Int) := by omega
    have h3 : (0 : Int) ≤ (i : Int) := by omega
    have h4 : (i : Int) < (s.length : Int) := by omega
    have h5 : rd_T51 s (ys.length : Int) = y := by
      rw [← h, List.reverse_cons, List.append_assoc, show ys.length = ys.reverse.length by simp]
      exact getD_mid _ _ _ _
    refine Ev.fuel ?_
    rw [e1]
    simp only [spec_inLast.l0, h1, h1', h2, h3, h4, h5, hp, ↓reduceIte, lastR]
    by_cases hy : y.f0 = p
    · simp only [hy, ↓reduceIte, idxOr]; exact Ev.now _
    · simp only [hy, ↓reduceIte]
      rw [w_id (x := (ys.length : Int) - 1) (by omega) (by omega)]
      exact ih (y :: t) (by rw [← h]; simp)
theorem inFast_l0 (s : List S51) (rep : Int) (hs : s.length ≤ 1000) (hn : ∀ x ∈ s, noteB x = true) : ∀ (suf r : List S51) (acc : List (List Int)), r.reverse ++ suf = s → acc.length ≤ r.length →
    Ev (fun k => spec_inFast.l0 k s rep acc s s.length r.length) (acc ++ fastFrom rep r suf) := by
  intro suf
  induction suf with
  | nil =>
    intro r acc h ha
    have hn : ¬ ((r.length : Int) < (s.length : Int)) := by rw [← h]; simp
    refine Ev.fuel ?_
    simp only [spec_inFast.l0, hn, ↓reduceIte]
    exact Ev.const (by simp [fastFrom])
  | cons x suf ih =>
    intro r acc h ha
    have hlen : s.length = r.length + (suf.length + 1) := by rw [← h]; simp
    have h1 : (r.length : Int) < (s.length : Int) := by omega
    have h2 : (0 : Int) ≤ (r.length : Int) := by omega
    have h3 : rd_T51 s (r.length : Int) = x := by rw [← h, show r.length = r.reverse.length by simp]; exact getD_mid _ _ _ _
    have hx := (noteB_iff x).1 (hn x (by rw [← h]; simp))
    have h4 : acc.length < 5864062014805 := by omega
    have e : ∀ acc, acc.length ≤ r.length + 1 → Ev (fun k => spec_inFast.l0 k s rep acc s s.length ((r.length + 1 : Nat) : Int)) (acc ++ fastFrom rep (x :: r) suf) := fun acc ha => by
      simpa using ih (x :: r) acc (by rw [← h]; simp) (by simpa using ha)
    refine Ev.fuel ?_
    simp only [spec_inFast.l0, h1, h2, h3, ↓reduceIte, wn r.length (by omega), fastFrom]
    have el : Ev (fun k => spec_inLast.f k s (r.length : Int)) (idxOr (lastR x.f0 r)) := by
      unfold spec_inLast.f
      rw [w_id (x := (r.length : Int) - 1) (by omega) (by omega)]
      exact inLast_l0 s hs r.length (by omega) x.f0 (by rw [h3]) r (x :: suf) h
    refine Ev.bind el ?_
    cases hq : lastR x.f0 r with
    | none =>
      simp only [idxOr, show ¬ ((-1 : Int) ≥ 0) from by decide, ↓reduceIte, fastOne, hq, List.nil_append]
      exact e acc (by omega)
    | some it =>
      obtain ⟨i, t⟩ := it
      obtain ⟨q1, q2, q3⟩ := lastR_some x.f0 r i t hq
      have g1 : (i : Int) ≥ 0 := by omega
      have g1' : (0 : Int) ≤ (i : Int) := by omega
      have g2 : (i : Int) < (s.length : Int) := by omega
      have g3 : rd_T51 s (i : Int) = rd_T51 r.reverse (i : Int) := by
        unfold rd_T51
        rw [← h, getD_app _ _ _ _ (by simpa using q1)]
      have hin : rd_T51 r.reverse (i : Int) ∈ s := by
        rw [← g3]
        unfold rd_T51
        rw [List.getD_eq_getElem?_getD, List.getElem?_eq_getElem (by omega)]
        exact List.getElem_mem _
      have hy := (noteB_iff _).1 (hn _ hin)
      rw [q2] at hy
      simp only [idxOr, g1, g1', g2, g3, q2, ↓reduceIte, w_id (x := x.f1 - t) (by omega) (by omega), fastOne, hq]
      by_cases hf : x.f1 - t < rep
      · simp only [hf, h4, ↓reduceIte]
        have e2 := e (acc ++ [[(i : Int), (r.length : Int)]]) (by simp; omega)
        simpa using e2
      · simp only [hf, ↓reduceIte, List.nil_append]
        exact e acc (by omega)
theorem inFast_ev (s : List S51) (rep : Int) (hs : s.length ≤ 1000) (hn : ∀ x ∈ s, noteB x = true) : Ev (fun k => spec_inFast.f k s rep) (fastFrom rep [] s) := by
  unfold spec_inFast.f
  exact inFast_l0 s rep hs hn s [] [] rfl (Nat.le_refl _)
theorem fast_l1 (s : List S51) (rep : Int) (hs : s.length ≤ 1000) (hn : ∀ x ∈ s, noteB x = true) (x : S51) (hx : noteB x = true) (n : Nat) (R : List S51) (hR : n = R.length) (acc : List (List Int)) (hacc : acc.length < 100000) (res : List (List Int))
    (hres : Ev (fun k => impl_fastRepeats.l0 k s rep (acc ++ fastOne rep R x) s s.length (wrap64 ((n : Int) + 1))) res) : ∀ (r t : List S51), r.reverse ++ t = s → lastR x.f0 r = lastR x.f0 R →
    Ev (fun k => impl_fastRepeats.l1 k s rep acc (n : Int) ((r.length : Int) - 1) s s.length (n : Int) x.f0 x.f1 x.f2) res := by
  intro r
  induction r with
  | nil =>
    intro t h hq
    refine Ev.fuel ?_
    simp only [impl_fastRepeats.l1, List.length_nil, Int.natCast_zero, Int.zero_sub, show ¬ ((-1 : Int) ≥ 0) from by decide, ↓reduceIte]
    simp only [lastR] at hq
    simpa [fastOne, ← hq] using hres
  | cons y ys ih =>
    intro t h hq
    have hlen : s.length = ys.length + 1 + t.length := by rw [← h]; simp; omega
    have e1 : (((y :: ys).length : Nat) : Int) - 1 = (ys.length : Int) := by simp only [List.length_cons]; omega
    have h1 : (ys.length : Int) ≥ 0 := by omega
    have h1' : (0 : Int) ≤ (ys.length : Int) := by omega
    have h2 : (ys.length : Int) < (s.length : Int) := by omega
    have h5 : rd_T51 s (ys.length : Int) = y := by
      rw [← h, List.reverse_cons, List.append_assoc, show ys.length = ys.reverse.length by simp]
      exact getD_mid _ _ _ _
    have hyb := (noteB_iff y).1 (hn y (by rw [← h]; simp))
    have hxb := (noteB_iff x).1 hx
    have h4 : acc.length < 5864062014805 := by omega
    refine Ev.fuel ?_
    rw [e1]
    simp only [impl_fastRepeats.l1, h1, h1', h2, h5, ↓reduceIte, w_id (x := x.f1 - y.f1) (by omega) (by omega)]
    simp only [lastR] at hq
    by_cases hy : y.f0 = x.f0
    · simp only [hy, ↓reduceIte] at hq ⊢
      by_cases hf : x.f1 - y.f1 < rep
      · simp only [hf, h4, ↓reduceIte]
        simpa [fastOne, ← hq, hf, hR] using hres
      · simp only [hf, ↓reduceIte]
        simpa [fastOne, ← hq, hf, hR] using hres
    · simp only [hy, ↓reduceIte] at hq ⊢
      rw [w_id (x := (ys.length : Int) - 1) (by omega) (by omega)]
      exact ih (y :: t) (by rw [← h]; simp) hq
theorem fastRepeats_l0 (s : List S51) (rep : Int) (hs : s.length ≤ 1000) (hn : ∀ x ∈ s, noteB x = true) : ∀ (suf r : List S51) (acc : List (List Int)), r.reverse ++ suf = s → acc.length ≤ r.length →
    Ev (fun k => impl_fastRepeats.l0 k s rep acc s s.length r.length) (acc ++ fastFrom rep r suf) := by
  intro suf
  induction suf with
  | nil =>
    intro r acc h ha
    have hn : ¬ ((r.length : Int) < (s.length : Int)) := by rw [← h]; simp
    refine Ev.fuel ?_
    simp only [impl_fastRepeats.l0, hn, ↓reduceIte]
    exact Ev.const (by simp [fastFrom])
  | cons x suf ih =>
    intro r acc h ha
    have hlen : s.length = r.length + (suf.length + 1) := by rw [← h]; simp
    have h1 : (r.length : Int) < (s.length : Int) := by omega
    have h2 : (0 : Int) ≤ (r.length : Int) := by omega
    have h3 : rd_T51 s (r.length : Int) = x := by rw [← h, show r.length = r.reverse.length by simp]; exact getD_mid _ _ _ _
    have hx := hn x (by rw [← h]; simp)
    have h5 := fastOne_len rep r x
    have ec : (((x :: r).length : Nat) : Int) = ((r.length + 1 : Nat) : Int) := by simp
    refine Ev.fuel ?_
    simp only [impl_fastRepeats.l0, h1, h2, h3, ↓reduceIte, fastFrom]
    rw [w_id (x := (r.length : Int) - 1) (by omega) (by omega)]
    refine fast_l1 s rep hs hn x hx r.length r rfl acc (by omega) _ ?_ r (x :: suf) h rfl
    rw [wn r.length (by omega), ← List.append_assoc, ← ec]
    exact ih (x :: r) (acc ++ fastOne rep r x) (by rw [← h]; simp) (by simp only [List.length_append, List.length_cons]; omega)
theorem fastRepeats_ev (s : List S51) (rep : Int) (hs : s.length ≤ 1000) (hn : ∀ x ∈ s, noteB x = true) : Ev (fun k => impl_fastRepeats.f k s rep) (fastFrom rep [] s) := by
  unfold impl_fastRepeats.f
  exact fastRepeats_l0 s rep hs hn s [] [] rfl (Nat.le_refl _)
def missOf (l : List Int) : List S51 → List Int → List Int
  | [], acc => acc
  | y :: ys, acc => missOf l ys (if y.f0 ∈ l then acc else put y.f0 acc)
theorem missOf_nil (l : List Int) : ∀ (s : List S51) (acc : List Int), missOf l s acc = [] ↔ acc = [] ∧ ∀ y ∈ s, y.f0 ∈ l := by
  intro s
  induction s with
  | nil => intro acc; simp [missOf]
  | cons y ys ih =>
    intro acc
    simp only [missOf, ih, List.mem_cons, forall_eq_or_imp]
    by_cases hy : y.f0 ∈ l
    · simp [hy]
    · simp only [hy, ↓reduceIte, false_and, and_false, iff_false, not_and]
      intro hp
      exfalso
      have : y.f0 ∈ put y.f0 acc := (put_mem _ _ _).2 (Or.inl rfl)
      rw [hp] at this
      simp at this
theorem inMissing_l0 (l : List Int) (r : Int) (s : List S51) (hl : l.length ≤ 1048576) (hs : s.length ≤ 1000) : ∀ (suf pre : List S51) (acc : List Int), pre ++ suf = s → acc.length ≤ pre.length →
    Ev (fun k => spec_inMissing.l0 k acc s s.length pre.length l r) (missOf l suf acc) := by
  intro suf
  induction suf with
  | nil =>
    intro pre acc h ha
    have hn : ¬ ((pre.length : Int) < (s.length : Int)) := by rw [← h]; simp
    refine Ev.fuel ?_
    simp only [spec_inMissing.l0, hn, ↓reduceIte, missOf]
    exact Ev.now _
  | cons x suf ih =>
    intro pre acc h ha
    have hlen : s.length = pre.length + (suf.length + 1) := by rw [← h]; simp
    have h1 : (pre.length : Int) < (s.length : Int) := by omega
    have h2 : (0 : Int) ≤ (pre.length : Int) := by omega
    have h3 : rd_T51 s (pre.length : Int) = x := by rw [← h]; exact getD_mid _ _ _ _
    have iff := idxFrom_neg x.f0 l 0 (by omega)
    have e : ∀ acc, acc.length ≤ pre.length + 1 → Ev (fun k => spec_inMissing.l0 k acc s s.length ((pre.length + 1 : Nat) : Int) l r) (missOf l suf acc) := fun acc ha => by simpa using ih (pre ++ [x]) acc (by rw [← h]; simp) (by simpa using ha)
    refine Ev.fuel ?_
    simp only [spec_inMissing.l0, h1, h2, h3, ↓reduceIte, wn pre.length (by omega), missOf]
    refine Ev.bind (inTrack_ev l r x.f0 hl) ?_
    by_cases hm : x.f0 ∈ l
    · have : ¬ idxFrom x.f0 l 0 < 0 := fun q => iff.1 q hm
      simp only [this, hm, ↓reduceIte]
      exact e acc (by omega)
    · have : idxFrom x.f0 l 0 < 0 := iff.2 hm
      simp only [this, hm, ↓reduceIte]
      refine Ev.bind (l1Put_ev acc x.f0 (by omega)) ?_
      have := put_len x.f0 acc
      exact e _ (by omega)
theorem inMissing_ev (l : List Int) (r : Int) (s : List S51) (hl : l.length ≤ 1048576) (hs : s.length ≤ 1000) : Ev (fun k => spec_inMissing.f k l r s) (missOf l s []) := by
  unfold spec_inMissing.f
  exact inMissing_l0 l r s hl hs s [] [] rfl (Nat.le_refl _)
def playsB (l : List Int) (rep : Int) (s : List S51) : Bool := (s.all fun y => decide (y.f0 ∈ l)) && decide (fastFrom rep [] s = [])
theorem len0 {α : Type} (l : List α) : ((l.length : Int) == 0) = decide (l = []) := by
  cases l with
  | nil => rfl
  | cons x xs =>
    have : (((x :: xs).length : Nat) : Int) ≠ 0 := by simp only [List.length_cons]; omega
    rw [beq_eq_false_iff_ne.2 this]
    simp
theorem inPlays_ev (l : List Int) (r : Int) (s : List S51) (hl : l.length ≤ 1048576) (hs : s.length ≤ 1000) (hn : ∀ x ∈ s, noteB x = true) : Ev (fun k => spec_inPlays.f k l r s) (playsB l r s) := by
  unfold spec_inPlays.f
  refine Ev.bind (inMissing_ev l r s hl hs) ?_
  have hm := missOf_nil l s []
  by_cases h : missOf l s [] = []
  · have ha : (s.all fun y => decide (y.f0 ∈ l)) = true := by simpa using (hm.1 h).2
    simp only [h, List.length_nil, Int.natCast_zero, ↓reduceIte, playsB, ha, Bool.true_and]
    exact Ev.bind (inFast_ev s r hs hn) (Ev.const (by rw [len0]))
  · have ha : (s.all fun y => decide (y.f0 ∈ l)) = false := by
      cases hq : (s.all fun y => decide (y.f0 ∈ l)) with
      | false => rfl
      | true => exact absurd (hm.2 ⟨rfl, by simpa using hq⟩) h
    have h0 : ¬ (((missOf l s []).length : Int) = 0) := by
      have := List.length_pos_iff.2 h
      omega
    simp only [h0, ↓reduceIte, playsB, ha, Bool.false_and]
    exact Ev.now _
theorem canPlay_l0 (l : List Int) (r : Int) (s : List S51) (hl : l.length ≤ 1048576) (hs : s.length ≤ 1000) (hn : ∀ x ∈ s, noteB x = true) : ∀ (suf pre : List S51), pre ++ suf = s →
    Ev (fun k => impl_canPlay.l0 k s s s.length pre.length l r) ((suf.all fun y => decide (y.f0 ∈ l)) && decide (fastFrom r [] s = [])) := by
  intro suf
  induction suf with
  | nil =>
    intro pre h
    have hn' : ¬ ((pre.length : Int) < (s.length : Int)) := by rw [← h]; simp
    refine Ev.fuel ?_
    simp only [impl_canPlay.l0, hn', ↓reduceIte, List.all_nil, Bool.true_and]
    exact Ev.bind (fastRepeats_ev s r hs hn) (Ev.const (by rw [len0]))
  | cons x suf ih =>
    intro pre h
    have hlen : s.length = pre.length + (suf.length + 1) := by rw [← h]; simp
    have h1 : (pre.length : Int) < (s.length : Int) := by omega
    have h2 : (0 : Int) ≤ (pre.length : Int) := by omega
    have h3 : rd_T51 s (pre.length : Int) = x := by rw [← h]; exact getD_mid _ _ _ _
    refine Ev.fuel ?_
    simp only [impl_canPlay.l0, h1, h2, h3, ↓reduceIte, wn pre.length (by omega), List.all_cons]
    refine Ev.bind (Contains_ev l x.f0 hl) ?_
    by_cases hm : x.f0 ∈ l
    · simp only [hm, decide_true, ↓reduceIte, Bool.true_and]
      simpa using ih (pre ++ [x]) (by rw [← h]; simp)
    · simp only [hm, decide_false, Bool.false_eq_true, ↓reduceIte, Bool.false_and]
      exact Ev.now _
theorem canPlay_ev (l : List Int) (r : Int) (s : List S51) (hl : l.length ≤ 1048576) (hs : s.length ≤ 1000) (hn : ∀ x ∈ s, noteB x = true) : Ev (fun k => impl_canPlay.f k l r s) (playsB l r s) := by
  unfold impl_canPlay.f
  exact canPlay_l0 l r s hl hs hn s [] rfl
end Go.Proofs.Ytipcjpgonncinaa.V
