/- Plain facts on sets of numbers in order, notes that sound at a step, and the most voices. No condition. -/
import Derived.Test.YtipcjpgonncinaaV0
import Derived.Test.YtipcjpgonncinaaV2
import Derived.Test.YtipcjpgonncinaaV3
import Derived.Test.YtipcjpgonncinaaV4
import Derived.Test.YtipcjpgonncinaaV5
import Derived.Test.YtipcjpgonncinaaVQS
set_option linter.unusedVariables false
set_option linter.unusedSimpArgs false
namespace Go.Proofs.Ytipcjpgonncinaa.V
open Go.RowKit Go.Proofs.YtipcjpgonncinaaW.PrintWords Go.Proofs.YtipcjpgonncinaaW.PrintLast Go.Proofs.YtipcjpgonncinaaW.PrintMore

/-! a number put into an increasing list -/
def put (n : Int) : List Int → List Int
  | [] => [n]
  | x :: xs => if x < n then x :: put n xs else if x = n then x :: xs else n :: x :: xs
theorem put_len (n : Int) : ∀ l : List Int, (put n l).length ≤ l.length + 1 := by
  intro l
  induction l with
  | nil => simp [put]
  | cons x xs ih => simp only [put]; (repeat' split) <;> simp <;> omega
theorem put_mem (n y : Int) : ∀ l : List Int, y ∈ put n l ↔ y = n ∨ y ∈ l := by
  intro l
  induction l with
  | nil => simp [put]
  | cons x xs ih =>
    simp only [put]
    split
    · simp only [List.mem_cons, ih]; exact ⟨fun h => by rcases h with h | h | h; exact Or.inr (Or.inl h); exact Or.inl h; exact Or.inr (Or.inr h), fun h => by rcases h with h | h | h; exact Or.inr (Or.inl h); exact Or.inl h; exact Or.inr (Or.inr h)⟩
    · split
      · rename_i h; subst h; simp
      · simp
def Rises (l : List Int) : Prop := l.Pairwise (· < ·)
theorem put_rises (n : Int) : ∀ l : List Int, Rises l → Rises (put n l) := by
  intro l
  induction l with
  | nil => intro _; simp [put, Rises]
  | cons x xs ih =>
    intro h
    have h' := List.pairwise_cons.1 h
    simp only [put]
    split
    · rename_i hx
      refine List.pairwise_cons.2 ⟨fun y hy => ?_, ih h'.2⟩
      rcases (put_mem n y xs).1 hy with rfl | hy
      · exact hx
      · exact h'.1 y hy
    · split
      · exact h
      · refine List.pairwise_cons.2 ⟨fun y hy => ?_, h⟩
        rcases List.mem_cons.1 hy with rfl | hy
        · omega
        · have := h'.1 y hy; omega
theorem put_len_new (n : Int) : ∀ l : List Int, Rises l → n ∉ l → (put n l).length = l.length + 1 := by
  intro l
  induction l with
  | nil => intro _ _; simp [put]
  | cons x xs ih =>
    intro h hn
    have h' := List.pairwise_cons.1 h
    simp only [List.mem_cons, not_or] at hn
    simp only [put]
    split
    · simp only [List.length_cons, ih h'.2 hn.2]
    · rw [if_neg (fun e => hn.1 e.symm)]; simp
theorem l1Put_l0 (l : List Int) (n : Int) (hl : l.length ≤ 1048576) : ∀ (suf pre : List Int), pre ++ suf = l → Ev (fun k => spec_l1Put.l0 k l n pre.length) (pre ++ put n suf) := by
  intro suf
  induction suf with
  | nil =>
    intro pre h
    have hp : pre = l := by simpa using h
    have hn : ¬ ((pre.length : Int) < (l.length : Int)) := by rw [hp]; omega
    have h2 : (0 : Int) ≤ (pre.length : Int) := by omega
    have h3 : (pre.length : Int) ≤ (l.length : Int) := by rw [hp]; omega
    have tk : l.take ((pre.length : Int)).toNat = pre := by rw [← hp]; simp
    have dr : l.drop ((pre.length : Int)).toNat = [] := by rw [← hp]; simp
    have hpl : pre.length ≤ 1048576 := by rw [hp]; exact hl
    have q1 : 0 + pre.length < 17592186044416 := by omega
    have q2 : pre.length < 17592186044416 := by omega
    have q3 : pre.length + 1 + 0 < 17592186044416 := by omega
    refine Ev.fuel ?_
    simp only [spec_l1Put.l0, hn, h2, h3, tk, dr, ↓reduceIte, Option.bind_some, List.length_nil, List.nil_append, List.length_append, List.length_singleton, q1, q2, q3]
    refine Ev.const ?_
    simp [put]
    omega
  | cons x suf ih =>
    intro pre h
    have hlen : l.length = pre.length + (suf.length + 1) := by rw [← h]; simp
    have h1 : (pre.length : Int) < (l.length : Int) := by omega
    have h2 : (0 : Int) ≤ (pre.length : Int) := by omega
    have h4 : rd l (pre.length : Int) = x := by rw [← h]; exact getD_mid _ _ _ _
    have h3 : (pre.length : Int) ≤ (l.length : Int) := by omega
    have tk : l.take ((pre.length : Int)).toNat = pre := by rw [← h]; simp
    have dr : l.drop ((pre.length : Int)).toNat = x :: suf := by rw [← h]; simp
    have q1 : 0 + pre.length < 17592186044416 := by omega
    have q2 : pre.length < 17592186044416 := by omega
    have q3 : pre.length + 1 + (suf.length + 1) < 17592186044416 := by omega
    refine Ev.fuel ?_
    by_cases hx : x < n
    · simp only [spec_l1Put.l0, h1, h2, h4, hx, ↓reduceIte, wn pre.length (by omega), put]
      simpa using ih (pre ++ [x]) (by rw [← h]; simp)
    · by_cases he : x = n
      · subst he
        simp only [spec_l1Put.l0, h1, h2, h4, hx, ↓reduceIte, put]
        exact Ev.const (by rw [h])
      · simp only [spec_l1Put.l0, h1, h2, h3, h4, hx, he, tk, dr, ↓reduceIte, Option.bind_some, List.length_nil, List.nil_append, List.length_append, List.length_singleton, List.length_cons, q1, q2, q3, put]
        exact Ev.const (by simp; omega)
theorem l1Put_ev (l : List Int) (n : Int) (hl : l.length ≤ 1048576) : Ev (fun k => spec_l1Put.f k l n) (put n l) := by
  unfold spec_l1Put.f
  exact l1Put_l0 l n hl l [] rfl

/-! notes that sound -/
def soundB (t : Int) (y : S51) : Bool := decide (y.f1 ≤ t ∧ t < y.f1 + y.f2)
def atSet (t : Int) : List S51 → List Int → List Int
  | [], acc => acc
  | y :: ys, acc => atSet t ys (if soundB t y = true then put y.f0 acc else acc)
def countAt (t : Int) (s : List S51) : Nat := (s.filter (soundB t)).length
/-- No two notes of one pitch sound in one step. -/
def Apart (s : List S51) : Prop := s.Pairwise fun y x => meetI x y = false
theorem atSet_len (t : Int) : ∀ (s : List S51) (acc : List Int), Rises acc → Apart s → (∀ y ∈ s, soundB t y = true → y.f0 ∉ acc) →
    (atSet t s acc).length = acc.length + countAt t s ∧ Rises (atSet t s acc) := by
  intro s
  induction s with
  | nil => intro acc h _ _; simp [atSet, countAt, h]
  | cons y ys ih =>
    intro acc h ha hn
    have ha' := List.pairwise_cons.1 ha
    simp only [atSet, countAt, List.filter_cons]
    by_cases hy : soundB t y = true
    · simp only [hy, ↓reduceIte, List.length_cons]
      have h1 := put_len_new y.f0 acc h (hn y (by simp) hy)
      obtain ⟨e1, e2⟩ := ih (put y.f0 acc) (put_rises _ _ h) ha'.2 (fun z hz hsz hm => by
        rcases (put_mem _ _ _).1 hm with he | hm
        · have hq := ha'.1 z hz
          simp only [soundB, decide_eq_true_eq] at hy hsz
          simp only [meetI, decide_eq_false_iff_not] at hq
          exact hq ⟨he.symm, by omega⟩
        · exact hn z (by simp [hz]) hsz hm)
      refine ⟨?_, e2⟩
      rw [e1, h1]
      unfold countAt
      omega
    · simp only [hy, Bool.false_eq_true, ↓reduceIte]
      exact ih acc h ha'.2 (fun z hz => hn z (by simp [hz]))
def mostOf (s : List S51) : List S51 → Int → Int
  | [], m => m
  | x :: xs, m => mostOf s xs (if m > (countAt x.f1 s : Int) then m else (countAt x.f1 s : Int))
theorem countAt_le (t : Int) (s : List S51) : countAt t s ≤ s.length := List.length_filter_le _ _
theorem ntAt_l0 (s : List S51) (t : Int) (hs : s.length ≤ 1000) (hn : ∀ x ∈ s, noteB x = true) : ∀ (suf pre : List S51) (acc : List Int), pre ++ suf = s → acc.length ≤ pre.length →
    Ev (fun k => spec_ntAt.l0 k t acc s s.length pre.length) (atSet t suf acc) := by
  intro suf
  induction suf with
  | nil =>
    intro pre acc h ha
    have hn : ¬ ((pre.length : Int) < (s.length : Int)) := by rw [← h]; simp
    refine Ev.fuel ?_
    simp only [spec_ntAt.l0, hn, ↓reduceIte, atSet]
    exact Ev.now _
  | cons x suf ih =>
    intro pre acc h ha
    have hlen : s.length = pre.length + (suf.length + 1) := by rw [← h]; simp
    have h1 : (pre.length : Int) < (s.length : Int) := by omega
    have h2 : (0 : Int) ≤ (pre.length : Int) := by omega
    have h3 : rd_T51 s (pre.length : Int) = x := by rw [← h]; exact getD_mid _ _ _ _
    have hx := (noteB_iff x).1 (hn x (by rw [← h]; simp))
    have e : ∀ acc, acc.length ≤ pre.length + 1 → Ev (fun k => spec_ntAt.l0 k t acc s s.length ((pre.length + 1 : Nat) : Int)) (atSet t suf acc) := fun acc ha => by simpa using ih (pre ++ [x]) acc (by rw [← h]; simp) (by simpa using ha)
    refine Ev.fuel ?_
    simp only [spec_ntAt.l0, h1, h2, h3, ↓reduceIte, wn pre.length (by omega), w_id (x := x.f1 + x.f2) (by omega) (by omega), w_id (x := x.f1 + x.f2 - 1) (by omega) (by omega), l1In_eq, Option.bind_some, decide_eq_true_eq, atSet]
    by_cases hy : x.f1 ≤ t ∧ t ≤ x.f1 + x.f2 - 1
    · have hsb : soundB t x = true := by simp only [soundB, decide_eq_true_eq]; omega
      simp only [hy, and_self, hsb, ↓reduceIte]
      refine Ev.bind (l1Put_ev acc x.f0 (by omega)) ?_
      have := put_len x.f0 acc
      exact e _ (by omega)
    · have hsb : ¬ soundB t x = true := by simp only [soundB, decide_eq_true_eq]; omega
      simp only [hy, hsb, Bool.false_eq_true, ↓reduceIte]
      exact e _ (by omega)
theorem ntAt_ev (s : List S51) (t : Int) (hs : s.length ≤ 1000) (hn : ∀ x ∈ s, noteB x = true) : Ev (fun k => spec_ntAt.f k s t) (atSet t s []) := by
  unfold spec_ntAt.f
  exact ntAt_l0 s t hs hn s [] [] rfl (Nat.le_refl _)
theorem l1Most_eq (a b : Int) : spec_l1Most.f a b = some (if a > b then a else b) := by unfold spec_l1Most.f; split <;> rfl
theorem thVoices_l0 (s : List S51) (hs : s.length ≤ 1000) (hn : ∀ x ∈ s, noteB x = true) (ha : Apart s) : ∀ (suf pre : List S51) (m : Int), pre ++ suf = s →
    Ev (fun k => spec_thVoices.l0 k s m s s.length pre.length) (mostOf s suf m) := by
  intro suf
  induction suf with
  | nil =>
    intro pre m h
    have hn : ¬ ((pre.length : Int) < (s.length : Int)) := by rw [← h]; simp
    refine Ev.fuel ?_
    simp only [spec_thVoices.l0, hn, ↓reduceIte, mostOf]
    exact Ev.now _
  | cons x suf ih =>
    intro pre m h
    have hlen : s.length = pre.length + (suf.length + 1) := by rw [← h]; simp
    have h1 : (pre.length : Int) < (s.length : Int) := by omega
    have h2 : (0 : Int) ≤ (pre.length : Int) := by omega
    have h3 : rd_T51 s (pre.length : Int) = x := by rw [← h]; exact getD_mid _ _ _ _
    have hc : (atSet x.f1 s []).length = countAt x.f1 s := by
      have := (atSet_len x.f1 s [] (by simp [Rises]) ha (by simp)).1
      simpa using this
    refine Ev.fuel ?_
    simp only [spec_thVoices.l0, h1, h2, h3, ↓reduceIte, wn pre.length (by omega)]
    refine Ev.bind (ntAt_ev s x.f1 hs hn) ?_
    simp only [l1Most_eq, Option.bind_some, hc]
    simpa [mostOf] using ih (pre ++ [x]) (if m > (countAt x.f1 s : Int) then m else (countAt x.f1 s : Int)) (by rw [← h]; simp)
theorem thVoices_ev (s : List S51) (hs : s.length ≤ 1000) (hn : ∀ x ∈ s, noteB x = true) (ha : Apart s) : Ev (fun k => spec_thVoices.f k s) (mostOf s s 0) := by
  unfold spec_thVoices.f
  exact thVoices_l0 s hs hn ha s [] 0 rfl
theorem mostVoices_l1 (s : List S51) (hs : s.length ≤ 1000) (hn : ∀ x ∈ s, noteB x = true) (x : S51) (m ni : Int) (r : Int) : ∀ (suf pre : List S51) (c : Nat), pre ++ suf = s → c ≤ pre.length →
    Ev (fun k => impl_mostVoices.l0 k s (mx m ((c + countAt x.f1 suf : Nat) : Int)) s s.length (wrap64 (ni + 1))) r →
    Ev (fun k => impl_mostVoices.l1 k s m (c : Int) s s.length ni s s.length pre.length x.f0 x.f1 x.f2) r := by
  intro suf
  induction suf with
  | nil =>
    intro pre c h hc hr
    have hn : ¬ ((pre.length : Int) < (s.length : Int)) := by rw [← h]; simp
    refine Ev.fuel ?_
    simp only [impl_mostVoices.l1, hn, ↓reduceIte]
    simpa [countAt] using hr
  | cons y suf ih =>
    intro pre c h hc hr
    have hlen : s.length = pre.length + (suf.length + 1) := by rw [← h]; simp
    have h1 : (pre.length : Int) < (s.length : Int) := by omega
    have h2 : (0 : Int) ≤ (pre.length : Int) := by omega
    have h3 : rd_T51 s (pre.length : Int) = y := by rw [← h]; exact getD_mid _ _ _ _
    have hy := hn y (by rw [← h]; simp)
    have ec : ((pre ++ [y]).length : Int) = ((pre.length + 1 : Nat) : Int) := by simp
    have yes : soundB x.f1 y = true → Ev (fun k => impl_mostVoices.l1 k s m ((c + 1 : Nat) : Int) s s.length ni s s.length ((pre.length + 1 : Nat) : Int) x.f0 x.f1 x.f2) r := fun hb => by
      rw [← ec]
      refine ih (pre ++ [y]) (c + 1) (by rw [← h]; simp) (by simp; omega) ?_
      have q : countAt x.f1 (y :: suf) = countAt x.f1 suf + 1 := by unfold countAt; rw [List.filter_cons, if_pos hb]; rfl
      rw [q] at hr
      rw [show c + 1 + countAt x.f1 suf = c + (countAt x.f1 suf + 1) by omega]
      exact hr
    have no : soundB x.f1 y = false → Ev (fun k => impl_mostVoices.l1 k s m (c : Int) s s.length ni s s.length ((pre.length + 1 : Nat) : Int) x.f0 x.f1 x.f2) r := fun hb => by
      rw [← ec]
      refine ih (pre ++ [y]) c (by rw [← h]; simp) (by simp; omega) ?_
      have q : countAt x.f1 (y :: suf) = countAt x.f1 suf := by unfold countAt; rw [List.filter_cons, if_neg (by simp [hb])]
      rw [q] at hr
      exact hr
    refine Ev.fuel ?_
    simp only [impl_mostVoices.l1, h1, h2, h3, ↓reduceIte, wn pre.length (by omega), wn c (by omega), noteEnd_eq hy, Option.bind_some]
    by_cases q1 : y.f1 ≤ x.f1
    · by_cases q2 : x.f1 < y.f1 + y.f2
      · simp only [q1, q2, ↓reduceIte]; exact yes (by simp only [soundB, decide_eq_true_eq]; exact ⟨q1, q2⟩)
      · simp only [q1, q2, ↓reduceIte]; exact no (by simp only [soundB, decide_eq_false_iff_not]; omega)
    · simp only [q1, ↓reduceIte]; exact no (by simp only [soundB, decide_eq_false_iff_not]; omega)
theorem mostVoices_l0 (s : List S51) (hs : s.length ≤ 1000) (hn : ∀ x ∈ s, noteB x = true) : ∀ (suf pre : List S51) (m : Int), pre ++ suf = s →
    Ev (fun k => impl_mostVoices.l0 k s m s s.length pre.length) (mostOf s suf m) := by
  intro suf
  induction suf with
  | nil =>
    intro pre m h
    have hn : ¬ ((pre.length : Int) < (s.length : Int)) := by rw [← h]; simp
    refine Ev.fuel ?_
    simp only [impl_mostVoices.l0, hn, ↓reduceIte, mostOf]
    exact Ev.now _
  | cons x suf ih =>
    intro pre m h
    have hlen : s.length = pre.length + (suf.length + 1) := by rw [← h]; simp
    have h1 : (pre.length : Int) < (s.length : Int) := by omega
    have h2 : (0 : Int) ≤ (pre.length : Int) := by omega
    have h3 : rd_T51 s (pre.length : Int) = x := by rw [← h]; exact getD_mid _ _ _ _
    have ec : ((pre ++ [x]).length : Int) = ((pre.length + 1 : Nat) : Int) := by simp
    refine Ev.fuel ?_
    simp only [impl_mostVoices.l0, h1, h2, h3, ↓reduceIte]
    have e := ih (pre ++ [x]) (if m > (countAt x.f1 s : Int) then m else (countAt x.f1 s : Int)) (by rw [← h]; simp)
    have hm : mx m ((0 + countAt x.f1 s : Nat) : Int) = (if m > (countAt x.f1 s : Int) then m else (countAt x.f1 s : Int)) := by
      unfold mx; (repeat' split) <;> omega
    refine mostVoices_l1 s hs hn x m _ _ s [] 0 rfl (Nat.le_refl _) ?_
    rw [hm, wn pre.length (by omega), ← ec]
    exact e
theorem mostVoices_ev (s : List S51) (hs : s.length ≤ 1000) (hn : ∀ x ∈ s, noteB x = true) : Ev (fun k => impl_mostVoices.f k s) (mostOf s s 0) := by
  unfold impl_mostVoices.f
  exact mostVoices_l0 s hs hn s [] 0 rfl
/-! a score's notes are apart -/
theorem scoreFrom_apart : ∀ (l pre : List S51), scoreFrom meetI pre l = true → Apart pre → Apart (pre ++ l) := by
  intro l
  induction l with
  | nil => intro pre _ h; simpa using h
  | cons y l ih =>
    intro pre h ha
    simp only [scoreFrom, Bool.and_eq_true] at h
    have e := ih (pre ++ [y]) h.2.2.2 (by
      refine List.pairwise_append.2 ⟨ha, by simp, fun a haa b hb => ?_⟩
      rw [List.mem_singleton.1 hb]
      have := h.2.2.1
      simp only [Bool.not_eq_true', List.any_eq_false] at this
      simpa using this a haa)
    simpa using e
theorem goodScore_apart {l : List S51} (h : goodScore l = true) : Apart l := by
  simp only [goodScore, Bool.and_eq_true] at h
  have := scoreFrom_apart l [] (by rw [scoreFrom_same l [] InOrder.nil]; exact h.1) (by simp [Apart])
  simpa using this
def goodThin (s : List S51) : Bool := goodScore s && decide (s.length ≤ 12)
theorem thGood_ev (s : List S51) (hs : s.length ≤ 1048576) : Ev (fun k => spec_thGood.f k s) (goodThin s) := by
  unfold spec_thGood.f goodThin
  refine Ev.bind (ntGood_ev s hs) ?_
  by_cases h : goodScore s = true
  · simp only [h, ↓reduceIte, Bool.true_and]; exact Ev.const (dec_eq (by omega))
  · simp only [Bool.eq_false_iff.mpr h, Bool.false_eq_true, ↓reduceIte, Bool.false_and]; exact Ev.now _
theorem isThin_ev (s : List S51) (hs : s.length ≤ 1048576) : Ev (fun k => impl_isThin.f k s) (goodThin s) := by
  unfold impl_isThin.f goodThin
  by_cases h : (s.length : Int) ≤ 12
  · simp only [h, ↓reduceIte, show s.length ≤ 12 from by omega, decide_true, Bool.and_true]
    exact Ev.bind (IsScore_ev s hs) (Ev.now _)
  · simp only [h, ↓reduceIte, show ¬ s.length ≤ 12 from by omega, decide_false, Bool.and_false]; exact Ev.now _
theorem goodThin_iff (s : List S51) : goodThin s = true ↔ goodScore s = true ∧ s.length ≤ 12 := by simp only [goodThin, Bool.and_eq_true, decide_eq_true_eq]
end Go.Proofs.Ytipcjpgonncinaa.V
