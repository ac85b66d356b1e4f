/- The plain law of bounds of losses. No condition. -/
import Derived.Test.YtipcjpgonncinaaJ0
import Derived.Test.YtipcjpgonncinaaJ5
import Derived.Test.YtipcjpgonncinaaJQK
set_option linter.unusedVariables false
set_option linter.unusedSimpArgs false
namespace Go.Proofs.Ytipcjpgonncinaa.J
open Go.RowKit Go.Proofs.YtipcjpgonncinaaW.PrintWords Go.Proofs.YtipcjpgonncinaaW.PrintLast Go.Proofs.YtipcjpgonncinaaW.PrintMore

theorem fast_pairs (rep : Int) : ∀ (suf r : List S51), ∀ p ∈ fastFrom rep r suf, ∃ i j : Nat, p = [(i : Int), (j : Int)] ∧ i < r.length + suf.length ∧ j < r.length + suf.length := by
  intro suf
  induction suf with
  | nil => intro r p hp; simp [fastFrom] at hp
  | cons x xs ih =>
    intro r p hp
    simp only [fastFrom, List.mem_append] at hp
    rcases hp with hp | hp
    · unfold fastOne at hp
      split at hp
      · simp at hp
      · rename_i i t e
        obtain ⟨h1, _⟩ := lastR_some x.f0 r i t e
        split at hp
        · simp only [List.mem_cons, List.not_mem_nil, or_false] at hp
          exact ⟨i, r.length, hp, by simp; omega, by simp⟩
        · simp at hp
    · obtain ⟨i, j, h1, h2, h3⟩ := ih (x :: r) p hp
      simp only [List.length_cons] at h2 h3 ⊢
      exact ⟨i, j, h1, by omega, by omega⟩
theorem fast_len (rep : Int) : ∀ (suf r : List S51), (fastFrom rep r suf).length ≤ suf.length := by
  intro suf
  induction suf with
  | nil => intro r; simp [fastFrom]
  | cons x xs ih =>
    intro r
    have h1 := fastOne_len rep r x
    have h2 := ih (x :: r)
    simp only [fastFrom, List.length_append, List.length_cons]
    omega
theorem l1Least_eq (a b : Int) : spec_l1Least.f a b = some (mn a b) := by
  unfold spec_l1Least.f mn
  by_cases h : a < b
  · have : ¬ b < a := by omega
    simp only [h, this, ↓reduceIte]
  · by_cases h2 : b < a
    · simp only [h, h2, ↓reduceIte]
    · have : a = b := by omega
      subst this
      simp
theorem mark_rel (fl : List Bool) (u : List Int) (n i j : Nat) (hl : fl.length = n) (hi : i < n) (hj : j < n) (h : ∀ q : Nat, q < n → rdOf false fl (q : Int) = decide ((q : Int) ∈ u)) :
    ∀ q : Nat, q < n → rdOf false ((fl.set ((i : Int)).toNat true).set ((j : Int)).toNat true) (q : Int) = decide ((q : Int) ∈ u ++ [(i : Int), (j : Int)]) := by
  intro q hq
  have e := h q hq
  unfold rdOf at e ⊢
  simp only [Int.toNat_natCast, List.getD_eq_getElem?_getD] at e ⊢
  have m : ((q : Int) ∈ u ++ [(i : Int), (j : Int)]) ↔ ((q : Int) ∈ u ∨ q = i ∨ q = j) := by
    simp only [List.mem_append, List.mem_cons, List.not_mem_nil, or_false, Int.natCast_inj]
  by_cases h1 : q = j
  · subst h1
    rw [List.getElem?_set_self (by simp; omega), decide_eq_true (m.2 (Or.inr (Or.inr rfl)))]; rfl
  · rw [List.getElem?_set_ne (by omega)]
    by_cases h2 : q = i
    · subst h2
      rw [List.getElem?_set_self (by omega), decide_eq_true (m.2 (Or.inr (Or.inl rfl)))]; rfl
    · rw [List.getElem?_set_ne (by omega), e]
      by_cases h3 : (q : Int) ∈ u
      · rw [decide_eq_true h3, decide_eq_true (m.2 (Or.inl h3))]
      · have : ¬ ((q : Int) ∈ u ++ [(i : Int), (j : Int)]) := fun h => by rcases m.1 h with h | h | h <;> contradiction
        rw [decide_eq_false h3, decide_eq_false this]
theorem bound_l1 (l : List Int) (r : Int) (s : List S51) (ps : List (List Int)) (hl : l.length ≤ 1048576) (hs : s.length ≤ 1000) (hp : ps.length ≤ 1000)
    (hi : ∀ p ∈ ps, ∃ i j : Nat, p = [(i : Int), (j : Int)] ∧ i < s.length ∧ j < s.length) : ∀ (suf pre : List (List Int)) (m : Int) (u : List Int) (fl : List Bool), pre ++ suf = ps → u.length ≤ 2 * pre.length → fl.length = s.length →
    (∀ q : Nat, q < s.length → rdOf false fl (q : Int) = decide ((q : Int) ∈ u)) →
    ∃ c, Ev (fun k => spec_LossBound.l1 k s m u ps ps.length pre.length l r) (c, true) ∧ Ev (fun k => impl_LossBound.l1 k s m fl ps ps.length pre.length l r) (c, true) := by
  intro suf
  induction suf with
  | nil =>
    intro pre m u fl h hu hf hr
    have hn : ¬ ((pre.length : Int) < (ps.length : Int)) := by rw [← h]; simp
    refine ⟨m, Ev.fuel ?_, Ev.fuel ?_⟩
    · simp only [spec_LossBound.l1, hn, ↓reduceIte]; exact Ev.now _
    · simp only [impl_LossBound.l1, hn, ↓reduceIte]; exact Ev.now _
  | cons p suf ih =>
    intro pre m u fl h hu hf hr
    have hlen : ps.length = pre.length + (suf.length + 1) := by rw [← h]; simp
    have c1 : (pre.length : Int) < (ps.length : Int) := by omega
    have c2 : (0 : Int) ≤ (pre.length : Int) := by omega
    have hx : rd_L3 ps (pre.length : Int) = p := by rw [← h]; exact getD_mid _ _ _ _
    obtain ⟨i, j, rfl, hi1, hj1⟩ := hi p (by rw [← h]; simp)
    have k0 : (0 : Int) < ((rd_L3 ps (pre.length : Int)).length : Int) := by rw [hx]; exact (by decide : (0 : Int) < 2)
    have k1 : (1 : Int) < ((rd_L3 ps (pre.length : Int)).length : Int) := by rw [hx]; exact (by decide : (1 : Int) < 2)
    have g0 : rd (rd_L3 ps (pre.length : Int)) 0 = (i : Int) := by rw [hx]; rfl
    have g1 : rd (rd_L3 ps (pre.length : Int)) 1 = (j : Int) := by rw [hx]; rfl
    have i0 : (0 : Int) ≤ (i : Int) := by omega
    have i1 : (i : Int) < (s.length : Int) := by omega
    have j0 : (0 : Int) ≤ (j : Int) := by omega
    have j1 : (j : Int) < (s.length : Int) := by omega
    have i2 : (i : Int) < (fl.length : Int) := by omega
    have j2 : (j : Int) < (fl.length : Int) := by omega
    have ri := hr i hi1
    have rj := hr j hj1
    have hu2 : u.length ≤ 1048576 := by omega
    have iff := idxFrom_neg (rd_T51 s (i : Int)).f0 l 0 (by omega)
    have next : ∀ m u fl, u.length ≤ 2 * pre.length + 2 → fl.length = s.length → (∀ q : Nat, q < s.length → rdOf false fl (q : Int) = decide ((q : Int) ∈ u)) →
        ∃ c, Ev (fun k => spec_LossBound.l1 k s m u ps ps.length ((pre.length + 1 : Nat) : Int) l r) (c, true) ∧ Ev (fun k => impl_LossBound.l1 k s m fl ps ps.length ((pre.length + 1 : Nat) : Int) l r) (c, true) := fun m u fl a b d => by
      have := ih (pre ++ [[(i : Int), (j : Int)]]) m u fl (by rw [← h]; simp) (by simp; omega) b d
      simpa using this
    by_cases hm : (rd_T51 s (i : Int)).f0 ∈ l
    · have t1 : idxFrom (rd_T51 s (i : Int)).f0 l 0 ≥ 0 := by
        have : ¬ idxFrom (rd_T51 s (i : Int)).f0 l 0 < 0 := fun h => (iff.1 h) hm
        omega
      by_cases ui : (i : Int) ∈ u
      · obtain ⟨c, e1, e2⟩ := next m u fl (by omega) hf hr
        refine ⟨c, Ev.fuel ?_, Ev.fuel ?_⟩
        · simp only [spec_LossBound.l1, c1, c2, k0, k1, g0, g1, i0, i1, j0, j1, ↓reduceIte, wn pre.length (by omega)]
          refine Ev.bind (inTrack_ev l r _ hl) ?_
          simp only [t1, ↓reduceIte]
          refine Ev.bind (l1Has_ev u (i : Int) hu2) ?_
          simp only [ui, decide_true, ↓reduceIte]
          exact e1
        · simp only [impl_LossBound.l1, c1, c2, k0, k1, g0, g1, i0, i1, j0, j1, i2, j2, ↓reduceIte, wn pre.length (by omega)]
          refine Ev.bind (Contains_ev l _ hl) ?_
          simp only [hm, ri, ui, decide_true, ↓reduceIte]
          exact e2
      · by_cases uj : (j : Int) ∈ u
        · obtain ⟨c, e1, e2⟩ := next m u fl (by omega) hf hr
          refine ⟨c, Ev.fuel ?_, Ev.fuel ?_⟩
          · simp only [spec_LossBound.l1, c1, c2, k0, k1, g0, g1, i0, i1, j0, j1, ↓reduceIte, wn pre.length (by omega)]
            refine Ev.bind (inTrack_ev l r _ hl) ?_
            simp only [t1, ↓reduceIte]
            refine Ev.bind (l1Has_ev u (i : Int) hu2) ?_
            simp only [ui, decide_false, Bool.false_eq_true, ↓reduceIte]
            refine Ev.bind (l1Has_ev u (j : Int) hu2) ?_
            simp only [uj, decide_true, ↓reduceIte]
            exact e1
          · simp only [impl_LossBound.l1, c1, c2, k0, k1, g0, g1, i0, i1, j0, j1, i2, j2, ↓reduceIte, wn pre.length (by omega)]
            refine Ev.bind (Contains_ev l _ hl) ?_
            simp only [hm, ri, ui, rj, uj, decide_true, decide_false, Bool.false_eq_true, ↓reduceIte]
            exact e2
        · obtain ⟨c, e1, e2⟩ := next (wrap64 (m + mn (rd_T51 s (i : Int)).f2 (rd_T51 s (j : Int)).f2)) (u ++ [(i : Int), (j : Int)]) ((fl.set ((i : Int)).toNat true).set ((j : Int)).toNat true) (by simp; omega) (by simpa using hf) (mark_rel fl u s.length i j hf hi1 hj1 hr)
          have hb : u.length + [(i : Int), (j : Int)].length < 17592186044416 := by simp only [List.length_cons, List.length_nil]; omega
          refine ⟨c, Ev.fuel ?_, Ev.fuel ?_⟩
          · simp only [spec_LossBound.l1, c1, c2, k0, k1, g0, g1, i0, i1, j0, j1, ↓reduceIte, wn pre.length (by omega)]
            refine Ev.bind (inTrack_ev l r _ hl) ?_
            simp only [t1, ↓reduceIte]
            refine Ev.bind (l1Has_ev u (i : Int) hu2) ?_
            simp only [ui, decide_false, Bool.false_eq_true, ↓reduceIte]
            refine Ev.bind (l1Has_ev u (j : Int) hu2) ?_
            simp only [uj, decide_false, Bool.false_eq_true, ↓reduceIte, Option.bind_some, hb, l1Least_eq]
            exact e1
          · simp only [impl_LossBound.l1, c1, c2, k0, k1, g0, g1, i0, i1, j0, j1, i2, j2, ↓reduceIte, wn pre.length (by omega)]
            refine Ev.bind (Contains_ev l _ hl) ?_
            simp only [hm, ri, ui, rj, uj, decide_true, decide_false, Bool.false_eq_true, ↓reduceIte]
            exact e2
    · have t1 : ¬ idxFrom (rd_T51 s (i : Int)).f0 l 0 ≥ 0 := by
        have := iff.2 hm
        omega
      obtain ⟨c, e1, e2⟩ := next m u fl (by omega) hf hr
      refine ⟨c, Ev.fuel ?_, Ev.fuel ?_⟩
      · simp only [spec_LossBound.l1, c1, c2, k0, k1, g0, g1, i0, i1, j0, j1, ↓reduceIte, wn pre.length (by omega)]
        refine Ev.bind (inTrack_ev l r _ hl) ?_
        simp only [t1, ↓reduceIte]
        exact e1
      · simp only [impl_LossBound.l1, c1, c2, k0, k1, g0, g1, i0, i1, j0, j1, i2, j2, ↓reduceIte, wn pre.length (by omega)]
        refine Ev.bind (Contains_ev l _ hl) ?_
        simp only [hm, decide_false, Bool.false_eq_true, ↓reduceIte]
        exact e2
def missW (l : List Int) : List S51 → Int → Int
  | [], m => m
  | x :: t, m => missW l t (if x.f0 ∈ l then m else wrap64 (m + x.f2))
theorem specBound_l0 (l : List Int) (r : Int) (s : List S51) (hl : l.length ≤ 1048576) (hs : s.length ≤ 1000) (res : Int × Bool) : ∀ (suf pre : List S51) (m : Int), pre ++ suf = s →
    Ev (fun k => (spec_inFast.f k s r).bind fun t => spec_LossBound.l1 k s (missW l suf m) ([] : List Int) t (t.length : Int) 0 l r) res →
    Ev (fun k => spec_LossBound.l0 k s m s s.length pre.length l r) res := by
  intro suf
  induction suf with
  | nil =>
    intro pre m h hres
    have hn : ¬ ((pre.length : Int) < (s.length : Int)) := by rw [← h]; simp
    refine Ev.fuel ?_
    simp only [spec_LossBound.l0, hn, ↓reduceIte]
    exact hres
  | cons x suf ih =>
    intro pre m h hres
    have hlen : s.length = pre.length + (suf.length + 1) := by rw [← h]; simp
    have h1 : (pre.length : Int) < (s.length : Int) := by omega
    have h2 : (0 : Int) ≤ (pre.length : Int) := by omega
    have h3 : rd_T51 s (pre.length : Int) = x := by rw [← h]; exact getD_mid _ _ _ _
    have iff := idxFrom_neg x.f0 l 0 (by omega)
    have e := ih (pre ++ [x]) (if x.f0 ∈ l then m else wrap64 (m + x.f2)) (by rw [← h]; simp) hres
    refine Ev.fuel ?_
    simp only [spec_LossBound.l0, h1, h2, h3, ↓reduceIte, wn pre.length (by omega)]
    refine Ev.bind (inTrack_ev l r _ hl) ?_
    by_cases hm : x.f0 ∈ l
    · have t1 : ¬ idxFrom x.f0 l 0 < 0 := fun h => (iff.1 h) hm
      simp only [t1, hm, ↓reduceIte] at e ⊢
      simpa using e
    · have t1 := iff.2 hm
      simp only [t1, hm, ↓reduceIte] at e ⊢
      simpa using e
theorem implBound_l0 (l : List Int) (r : Int) (s : List S51) (hl : l.length ≤ 1048576) (hs : s.length ≤ 1000) (res : Int × Bool) : ∀ (suf pre : List S51) (m : Int), pre ++ suf = s →
    Ev (fun k => (impl_fastRepeats.f k s r).bind fun t => impl_LossBound.l1 k s (missW l suf m) (List.replicate s.length false) t (t.length : Int) 0 l r) res →
    Ev (fun k => impl_LossBound.l0 k s m s s.length pre.length l r) res := by
  intro suf
  induction suf with
  | nil =>
    intro pre m h hres
    have hn : ¬ ((pre.length : Int) < (s.length : Int)) := by rw [← h]; simp
    have h0 : (0 : Int) ≤ (s.length : Int) := by omega
    have h1 : s.length ≤ 281474976710656 := by omega
    refine Ev.fuel ?_
    simp only [impl_LossBound.l0, hn, h0, Int.toNat_natCast, h1, ↓reduceIte]
    exact hres
  | cons x suf ih =>
    intro pre m h hres
    have hlen : s.length = pre.length + (suf.length + 1) := by rw [← h]; simp
    have h1 : (pre.length : Int) < (s.length : Int) := by omega
    have h2 : (0 : Int) ≤ (pre.length : Int) := by omega
    have h3 : rd_T51 s (pre.length : Int) = x := by rw [← h]; exact getD_mid _ _ _ _
    have e := ih (pre ++ [x]) (if x.f0 ∈ l then m else wrap64 (m + x.f2)) (by rw [← h]; simp) hres
    refine Ev.fuel ?_
    simp only [impl_LossBound.l0, h1, h2, h3, ↓reduceIte, wn pre.length (by omega)]
    refine Ev.bind (Contains_ev l _ hl) ?_
    by_cases hm : x.f0 ∈ l
    · simp only [hm, decide_true, ↓reduceIte] at e ⊢
      simpa using e
    · simp only [hm, decide_false, Bool.false_eq_true, ↓reduceIte] at e ⊢
      simpa using e
theorem boundLaw_ev (l : List Int) (r : Int) (s : List S51) (v : Int) (hl : l.length ≤ 1048576) (hs : s.length ≤ 1048576) : ∃ r0 r1, Ev (fun k => spec_LossBound.f k l r s v) (r0, r1) ∧ Ev (fun k => impl_LossBound.f k l r s v) (r0, r1) := by
  unfold spec_LossBound.f impl_LossBound.f
  have ea := thAsked_ev l r s v hl hs
  have e1 := IsInstrument_ev l r hl
  have e2 := isThin_ev s hs
  have jT : Ev (fun k => impl_LossBound.j0 k s true l r) (0, false) := by
    refine Ev.fuel ?_
    simp only [impl_LossBound.j0, ↓reduceIte]; exact Ev.now _
  by_cases h1 : goodIns l r = true
  · by_cases h2 : goodThin s = true
    · by_cases h3 : 1 ≤ v ∧ v ≤ 20
      · simp only [h1, h2, h3, and_self, decide_true, Bool.true_and] at ea e1 e2
        have h' := (goodThin_iff s).1 h2
        have hs' : s.length ≤ 1000 := by omega
        have hn := goodScore_all h'.1
        obtain ⟨c, c1, c2⟩ := bound_l1 l r s (fastFrom r [] s) hl hs' (by have := fast_len r s []; omega) (fun p hp => by simpa using fast_pairs r s [] p hp) (fastFrom r [] s) [] (missW l s 0) [] (List.replicate s.length false) rfl (by simp) (by simp)
          (fun q hq => by unfold rdOf; simp [List.getD_eq_getElem?_getD, List.getElem?_replicate, hq])
        refine ⟨c, true, ?_, ?_⟩
        · refine Ev.bind ea ?_
          simp only [↓reduceIte]
          exact specBound_l0 l r s hl hs' _ s [] 0 rfl (Ev.bind (inFast_ev s r hs' hn) c1)
        · refine Ev.bind e1 ?_
          simp only [↓reduceIte]
          refine Ev.bind e2 ?_
          simp only [↓reduceIte, isVoices_eq, h3, and_self, decide_true, Option.bind_some, Bool.not_true]
          refine Ev.fuel ?_
          simp only [impl_LossBound.j0, Bool.false_eq_true, ↓reduceIte]
          exact implBound_l0 l r s hl hs' _ s [] 0 rfl (Ev.bind (fastRepeats_ev s r hs' hn) c2)
      · simp only [h1, h2, h3, decide_false, Bool.true_and] at ea e1 e2
        refine ⟨0, false, ?_, ?_⟩
        · refine Ev.bind ea ?_
          simp only [Bool.false_eq_true, ↓reduceIte]; exact Ev.now _
        · refine Ev.bind e1 ?_
          simp only [↓reduceIte]
          refine Ev.bind e2 ?_
          simp only [↓reduceIte, isVoices_eq, h3, decide_false, Option.bind_some, Bool.not_false]
          exact jT
    · simp only [h1, Bool.eq_false_iff.mpr h2, Bool.true_and, Bool.false_and] at ea e1 e2
      refine ⟨0, false, ?_, ?_⟩
      · refine Ev.bind ea ?_
        simp only [Bool.false_eq_true, ↓reduceIte]; exact Ev.now _
      · refine Ev.bind e1 ?_
        simp only [↓reduceIte]
        refine Ev.bind e2 ?_
        simp only [Bool.false_eq_true, ↓reduceIte]; exact jT
  · simp only [Bool.eq_false_iff.mpr h1, Bool.false_and] at ea e1
    refine ⟨0, false, ?_, ?_⟩
    · refine Ev.bind ea ?_
      simp only [Bool.false_eq_true, ↓reduceIte]; exact Ev.now _
    · refine Ev.bind e1 ?_
      simp only [Bool.false_eq_true, ↓reduceIte]; exact jT
end Go.Proofs.Ytipcjpgonncinaa.J
