/- Plain facts on pins: what is put in order, by the program and by the reference; a pin added, tunes swapped and turned. No condition. -/
import Derived.Test.YthgemodkebahoaaA0
import Derived.Test.YthgemodkebahoaaA2
import Derived.Test.YthgemodkebahoaaA3
import Derived.Test.YthgemodkebahoaaA7
import Derived.Test.YthgemodkebahoaaA8
import Derived.Test.YthgemodkebahoaaA9
import Derived.Test.YthgemodkebahoaaA11
import Derived.Test.YthgemodkebahoaaAQP
set_option linter.unusedVariables false
set_option linter.unusedSimpArgs false
namespace Go.Proofs.Ythgemodkebahoaa.A
open Go.RowKit Go.Proofs.YthgemodkebahoaaW.PrintWords Go.Proofs.YthgemodkebahoaaW.PrintLast Go.Proofs.YthgemodkebahoaaW.PrintMore

theorem pin_only (x y : S39) (h1 : SPin.ltB x y = false) (h2 : SPin.ltB y x = false) : x = y := by
  unfold SPin.ltB at h1 h2
  have h : x.f0 = y.f0 ∧ x.f1 = y.f1 ∧ x.f2 = y.f2 := by
    split at h1 <;> split at h2 <;> (try split at h1) <;> (try split at h2) <;> simp only [decide_eq_false_iff_not] at h1 h2 <;> omega
  cases x; cases y; simp_all
def sortRes (l : List S39) : List S39 × Bool := if goodPins (SA.isort SPin.ltB l) = true then (SA.isort SPin.ltB l, true) else ([], false)
theorem sortRes_len (l : List S39) (hl : l.length ≤ 1048576) : (sortRes l).1.length ≤ 1048576 := by
  unfold sortRes
  split
  · show (SA.isort SPin.ltB l).length ≤ _
    rw [SA.isort_length]; exact hl
  · simp
theorem sortRes_good (l : List S39) : goodPins (sortRes l).1 = true := by
  unfold sortRes
  split
  · assumption
  · rfl
theorem cySorted_ev (l : List S39) (hl : l.length ≤ 1048576) : Ev (fun k => spec_cySorted.f k l) (sortRes l) := by
  unfold spec_cySorted.f SPin.sortedF
  simp only [hl, ↓reduceIte]
  refine Ev.bind (cyGood_ev _ (by rw [SA.isort_length]; exact hl)) ?_
  unfold sortRes
  by_cases hg : goodPins (SA.isort SPin.ltB l) = true
  · simp only [hg, ↓reduceIte]; exact Ev.now _
  · simp only [hg, Bool.false_eq_true, ↓reduceIte]; exact Ev.now _
theorem pinsOf_ev (l : List S39) (hl : l.length ≤ 1048576) : Ev (fun k => impl_pinsOf.f k l) (sortRes l) := by
  unfold impl_pinsOf.f SPin.ofF
  have e : SPin.srt l = SA.isort SPin.ltB l := SA.srt_isort SPin.ltB SPin.swo pin_only l
  rw [e]
  simp only [hl, ↓reduceIte]
  refine Ev.bind (ArePins_ev _ (by rw [SA.isort_length]; exact hl)) ?_
  unfold sortRes
  by_cases hg : goodPins (SA.isort SPin.ltB l) = true
  · simp only [hg, ↓reduceIte]; exact Ev.now _
  · simp only [hg, Bool.false_eq_true, ↓reduceIte]; exact Ev.now _
theorem clonePins_eq (l : List S39) (hl : l.length ≤ 1048576) : impl_Pin.f l = some l := by
  unfold impl_Pin.f SPin.cloneF
  rw [if_pos hl]
theorem set_mid {α : Type} (a b : List α) (x y : α) : (a ++ x :: b).set (((a.length : Nat) : Int)).toNat y = a ++ y :: b := by simp

theorem addLaw_ev (l : List S39) (a b c : Int) (hl : l.length ≤ 1048576) : ∃ r0 r1, r0.length ≤ 1048576 ∧ Ev (fun k => spec_AddPin.f k l a b c) (r0, r1) ∧ Ev (fun k => impl_AddPin.f k l a b c) (r0, r1) := by
  have hp : ∀ x : S39, spec_cyPin.f x.f0 x.f1 x.f2 = some (pinB x) := cyPin_eq
  have hp' : ∀ x : S39, impl_isPin.f x.f0 x.f1 x.f2 = some (pinB x) := isPin_eq
  have e1 := hp ⟨a, b, c⟩
  have e2 := hp' ⟨a, b, c⟩
  simp only at e1 e2
  by_cases hg : goodPins l = true
  · have h60 := goodPins_len hg
    by_cases hx : pinB ⟨a, b, c⟩ = true
    · have hz : (l ++ [(⟨a, b, c⟩ : S39)]).length ≤ 1048576 := by simp; omega
      refine ⟨(sortRes (l ++ [(⟨a, b, c⟩ : S39)])).1, (sortRes (l ++ [(⟨a, b, c⟩ : S39)])).2, sortRes_len _ hz, ?_, ?_⟩
      · unfold spec_AddPin.f
        refine Ev.bind (cyGood_ev l hl) ?_
        simp only [hg, ↓reduceIte, e1, Option.bind_some, hx, List.length_nil, List.nil_append, show 0 + l.length < 5864062014805 from by omega, show l.length + [(⟨a, b, c⟩ : S39)].length < 5864062014805 from by simp; omega]
        refine Ev.bind (cySorted_ev _ hz) ?_
        exact Ev.now _
      · unfold impl_AddPin.f
        refine Ev.bind (ArePins_ev l hl) ?_
        simp only [hg, ↓reduceIte, e2, Option.bind_some, hx, Bool.not_true]
        refine Ev.fuel ?_
        simp only [impl_AddPin.j0, Bool.false_eq_true, ↓reduceIte, clonePins_eq l hl, Option.bind_some, show l.length + [(⟨a, b, c⟩ : S39)].length < 5864062014805 from by simp; omega]
        refine Ev.bind (pinsOf_ev _ hz) ?_
        exact Ev.now _
    · refine ⟨[], false, by simp, ?_, ?_⟩
      · unfold spec_AddPin.f
        refine Ev.bind (cyGood_ev l hl) ?_
        simp only [hg, ↓reduceIte, e1, Option.bind_some, hx, Bool.false_eq_true]
        exact Ev.now _
      · unfold impl_AddPin.f
        refine Ev.bind (ArePins_ev l hl) ?_
        simp only [hg, ↓reduceIte, e2, Option.bind_some, hx, Bool.not_false]
        refine Ev.fuel ?_
        simp only [impl_AddPin.j0, ↓reduceIte]
        exact Ev.now _
  · refine ⟨[], false, by simp, ?_, ?_⟩
    · unfold spec_AddPin.f
      refine Ev.bind (cyGood_ev l hl) ?_
      simp only [hg, Bool.false_eq_true, ↓reduceIte]
      exact Ev.now _
    · unfold impl_AddPin.f
      refine Ev.bind (ArePins_ev l hl) ?_
      simp only [hg, Bool.false_eq_true, ↓reduceIte]
      refine Ev.fuel ?_
      simp only [impl_AddPin.j0, ↓reduceIte]
      exact Ev.now _
def turn1 (s by_ : Int) (x : S39) : S39 := if x.f2 = s then ⟨x.f0, Int.tmod (wrap64 (x.f1 + by_)) 360, x.f2⟩ else x
theorem cyTurn_l0 (l : List S39) (s b : Int) (hl : l.length ≤ 1048576) : ∀ (suf pre : List S39), pre ++ suf = l →
    Ev (fun k => spec_cyTurn.l0 k s b (pre.map (turn1 s b)) l l.length pre.length) (sortRes (l.map (turn1 s b))).1 := by
  intro suf
  induction suf with
  | nil =>
    intro pre h
    have hn : ¬ ((pre.length : Int) < (l.length : Int)) := by rw [← h]; simp
    have hz : (l.map (turn1 s b)).length ≤ 1048576 := by simpa using hl
    refine Ev.fuel ?_
    simp only [spec_cyTurn.l0, hn, ↓reduceIte]
    have e : pre = l := by rw [← h]; simp
    rw [e]
    refine Ev.bind (cySorted_ev _ hz) ?_
    exact Ev.now _
  | cons x suf ih =>
    intro pre h
    have hlen : l.length = pre.length + (suf.length + 1) := by rw [← h]; simp
    have h1 : (pre.length : Int) < (l.length : Int) := by omega
    have h2 : (0 : Int) ≤ (pre.length : Int) := by omega
    have h3 : rd_T39 l (pre.length : Int) = x := by rw [← h]; exact getD_mid _ _ _ _
    have h4 : (pre.map (turn1 s b)).length < 5864062014805 := by simp; omega
    have e := ih (pre ++ [x]) (by rw [← h]; simp)
    have e' : Ev (fun k => spec_cyTurn.l0 k s b (pre.map (turn1 s b) ++ [turn1 s b x]) l l.length ((pre.length + 1 : Nat) : Int)) (sortRes (l.map (turn1 s b))).1 := by simpa using e
    refine Ev.fuel ?_
    simp only [spec_cyTurn.l0, h1, h2, h3, h4, ↓reduceIte, wn pre.length (by omega)]
    unfold turn1 at e' ⊢
    by_cases hs : x.f2 = s
    · simp only [hs, ↓reduceIte] at e' ⊢; exact e'
    · simp only [hs, ↓reduceIte] at e' ⊢; exact e'
theorem cyTurn_ev (l : List S39) (s b : Int) (hl : l.length ≤ 1048576) : Ev (fun k => spec_cyTurn.f k l s b) (sortRes (l.map (turn1 s b))).1 := by
  unfold spec_cyTurn.f
  exact cyTurn_l0 l s b hl l [] rfl
theorem turnTune_l0 (l : List S39) (s b : Int) (hl : l.length ≤ 1048576) : ∀ (suf pre : List S39), pre ++ suf = l →
    Ev (fun k => impl_turnTune.l0 k s b (pre.map (turn1 s b) ++ suf) l.length pre.length) (sortRes (l.map (turn1 s b))) := by
  intro suf
  induction suf with
  | nil =>
    intro pre h
    have hn : ¬ ((pre.length : Int) < (l.length : Int)) := by rw [← h]; simp
    have hz : (l.map (turn1 s b)).length ≤ 1048576 := by simpa using hl
    refine Ev.fuel ?_
    simp only [impl_turnTune.l0, hn, ↓reduceIte]
    have e : pre = l := by rw [← h]; simp
    rw [e, List.append_nil]
    refine Ev.bind (pinsOf_ev _ hz) ?_
    exact Ev.now _
  | cons x suf ih =>
    intro pre h
    have hlen : l.length = pre.length + (suf.length + 1) := by rw [← h]; simp
    have h1 : (pre.length : Int) < (l.length : Int) := by omega
    have h2 : (0 : Int) ≤ (pre.length : Int) := by omega
    have hml : (pre.map (turn1 s b)).length = pre.length := by simp
    have h3 : rd_T39 (pre.map (turn1 s b) ++ x :: suf) (pre.length : Int) = x := by rw [← hml]; exact getD_mid _ _ _ _
    have h4 : (pre.length : Int) < ((pre.map (turn1 s b) ++ x :: suf).length : Int) := by simp; omega
    have h5 : ∀ y, (pre.map (turn1 s b) ++ x :: suf).set ((pre.length : Int)).toNat y = pre.map (turn1 s b) ++ y :: suf := by
      intro y
      have := set_mid (pre.map (turn1 s b)) suf x y
      rw [hml] at this; exact this
    have e := ih (pre ++ [x]) (by rw [← h]; simp)
    have e' : Ev (fun k => impl_turnTune.l0 k s b (pre.map (turn1 s b) ++ turn1 s b x :: suf) l.length ((pre.length + 1 : Nat) : Int)) (sortRes (l.map (turn1 s b))) := by simpa using e
    refine Ev.fuel ?_
    simp only [impl_turnTune.l0, h1, h2, h3, h4, h5, ↓reduceIte, wn pre.length (by omega)]
    generalize sortRes (l.map (turn1 s b)) = R at e' ⊢
    generalize pre.map (turn1 s b) = M at e' ⊢
    unfold turn1 at e'
    by_cases hs : x.f2 = s
    · simp only [hs, ↓reduceIte] at e' ⊢; exact e'
    · simp only [hs, ↓reduceIte] at e' ⊢; exact e'
theorem turnTune_ev (l : List S39) (s b : Int) (hl : l.length ≤ 1048576) : Ev (fun k => impl_turnTune.f k l s b) (sortRes (l.map (turn1 s b))) := by
  unfold impl_turnTune.f
  rw [clonePins_eq l hl]
  exact turnTune_l0 l s b hl l [] rfl
theorem f1_turn {x : S39} {s b : Int} (hx : pinB x = true) (hb : 0 ≤ b ∧ b ≤ 359) : pinB (turn1 s b x) = true := by
  have h := (pinB_iff x).1 hx
  unfold turn1
  split
  · rw [pinB_iff]
    simp only
    have e : wrap64 (x.f1 + b) = x.f1 + b := w_id (by omega) (by omega)
    rw [e]
    have e2 : Int.tmod (x.f1 + b) 360 = (x.f1 + b) % 360 := Int.tmod_eq_emod_of_nonneg (by omega)
    rw [e2]
    omega
  · exact hx
theorem asc_of_only {l : List S39} (h : SA.Asc SPin.ltB l) (hn : l.Pairwise (· ≠ ·)) : SA.Rising SPin.ltB l := by
  have h2 : l.Pairwise fun a b => SPin.ltB b a = false ∧ a ≠ b := h.and hn
  refine h2.imp fun {a b} h => ?_
  cases hc : SPin.ltB a b with
  | true => rfl
  | false => exact absurd (pin_only a b hc h.1) h.2
theorem pinsFrom_of : ∀ (l : List S39) (p : Option S39), (∀ x ∈ l, pinB x = true) → SA.Rising SPin.ltB l → (∀ y, p = some y → ∀ x ∈ l, SPin.ltB y x = true) → pinsFrom p l = true := by
  intro l
  induction l with
  | nil => intro p _ _ _; cases p <;> rfl
  | cons x xs ih =>
    intro p h1 h2 h3
    obtain ⟨q1, q2⟩ := List.pairwise_cons.1 h2
    have e := ih (some x) (fun z hz => h1 z (List.mem_cons_of_mem _ hz)) q2 (fun y hy z hz => by cases hy; exact q1 z hz)
    have hx := h1 x List.mem_cons_self
    cases p with
    | none => simp only [pinsFrom, hx, e, Bool.and_self]
    | some y =>
      have hy : pinLt y x = true := h3 y rfl x List.mem_cons_self
      simp only [pinsFrom, hx, hy, e, Bool.and_self]
theorem pinsFrom_rising : ∀ (l : List S39) (p : Option S39), pinsFrom p l = true → SA.Rising SPin.ltB l ∧ ∀ y, p = some y → ∀ x ∈ l, SPin.ltB y x = true := by
  intro l
  induction l with
  | nil => intro p _; exact ⟨List.Pairwise.nil, fun y _ x hx => by cases hx⟩
  | cons x xs ih =>
    intro p h
    have h' : pinsFrom (some x) xs = true := by
      cases p <;> simp only [pinsFrom, Bool.and_eq_true] at h
      · exact h.2
      · exact h.2.2
    obtain ⟨q1, q2⟩ := ih _ h'
    refine ⟨List.pairwise_cons.2 ⟨q2 x rfl, q1⟩, ?_⟩
    rintro y rfl z hz
    simp only [pinsFrom, Bool.and_eq_true] at h
    have hyx : SPin.ltB y x = true := h.2.1
    rcases List.mem_cons.1 hz with rfl | hz
    · exact hyx
    · exact SPin.swo.trans _ _ _ hyx (q2 x rfl z hz)
theorem turn1_inj {x y : S39} {s b : Int} (hx : pinB x = true) (hy : pinB y = true) (hb : 0 ≤ b ∧ b ≤ 359) (h : turn1 s b x = turn1 s b y) : x = y := by
  have h1 := (pinB_iff x).1 hx
  have h2 := (pinB_iff y).1 hy
  have e : wrap64 (x.f1 + b) = x.f1 + b := w_id (by omega) (by omega)
  have e' : wrap64 (y.f1 + b) = y.f1 + b := w_id (by omega) (by omega)
  have e2 : Int.tmod (x.f1 + b) 360 = (x.f1 + b) % 360 := Int.tmod_eq_emod_of_nonneg (by omega)
  have e2' : Int.tmod (y.f1 + b) 360 = (y.f1 + b) % 360 := Int.tmod_eq_emod_of_nonneg (by omega)
  unfold turn1 at h
  rw [e, e2, e', e2'] at h
  obtain ⟨x0, x1, x2⟩ := x
  obtain ⟨y0, y1, y2⟩ := y
  simp only at h h1 h2
  split at h <;> split at h <;> (rw [S39.mk.injEq] at h; obtain ⟨g0, g1, g2⟩ := h; rw [S39.mk.injEq]; refine ⟨?_, ?_, ?_⟩ <;> omega)
theorem turned_good (l : List S39) (s b : Int) (hg : goodPins l = true) (hb : 0 ≤ b ∧ b ≤ 359) : goodPins (SA.isort SPin.ltB (l.map (turn1 s b))) = true := by
  have hp := goodPins_all hg
  have h60 := goodPins_len hg
  have hr : SA.Rising SPin.ltB l := by
    simp only [goodPins, Bool.and_eq_true] at hg
    exact (pinsFrom_rising l none hg.1).1
  have hperm := SA.isort_perm SPin.ltB (l.map (turn1 s b))
  have hn : (l.map (turn1 s b)).Pairwise (· ≠ ·) := by
    rw [List.pairwise_map]
    refine List.Pairwise.imp_of_mem (R := fun a b => SPin.ltB a b = true) ?_ hr
    intro x y hx hy hxy he
    have := turn1_inj (hp x hx) (hp y hy) hb he
    rw [this, SPin.swo.irrefl] at hxy
    cases hxy
  have hn2 : (SA.isort SPin.ltB (l.map (turn1 s b))).Pairwise (· ≠ ·) := (hperm.symm.pairwise hn (fun h => Ne.symm h))
  have ha := asc_of_only (SA.isort_asc SPin.ltB SPin.swo (l.map (turn1 s b))) hn2
  unfold goodPins
  rw [pinsFrom_of _ none ?_ ha (fun y h => by cases h), Bool.true_and, decide_eq_true_eq, SA.isort_length]
  · simpa using h60
  · intro x hx
    obtain ⟨y, hy, rfl⟩ := List.mem_map.1 (hperm.subset hx)
    exact f1_turn (hp y hy) hb
end Go.Proofs.Ythgemodkebahoaa.A
