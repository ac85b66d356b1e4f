/- The plain law of joined repeats. No condition. -/
import Derived.Test.YtipcjpgonncinaaJ0
import Derived.Test.YtipcjpgonncinaaJ2
import Derived.Test.YtipcjpgonncinaaJ3
import Derived.Test.YtipcjpgonncinaaJQF
set_option linter.unusedVariables false
set_option linter.unusedSimpArgs false
namespace Go.Proofs.Ytipcjpgonncinaa.J
open Go.RowKit Go.Proofs.YtipcjpgonncinaaW.PrintWords Go.Proofs.YtipcjpgonncinaaW.PrintLast Go.Proofs.YtipcjpgonncinaaW.PrintMore

/-- The last index of a pitch in a list: -1 where there is none. -/
def lastI (p : Int) (out : List S51) : Int := idxOr (lastR p out.reverse)
theorem lastI_lt (p : Int) (out : List S51) : lastI p out < out.length := by
  unfold lastI
  cases e : lastR p out.reverse with
  | none => simp only [idxOr]; omega
  | some q =>
    obtain ⟨i, t⟩ := q
    have := (lastR_some p _ i t e).1
    simp only [List.length_reverse] at this
    simp only [idxOr]; omega
theorem inLast_ev (out : List S51) (x : S51) (h : out.length ≤ 900) : Ev (fun k => spec_inLast.f k (out ++ [x]) (out.length : Int)) (lastI x.f0 out) := by
  have e := inLast_l0 (out ++ [x]) (by simp; omega) out.length (by simp) x.f0 (by rw [show rd_T51 (out ++ [x]) (out.length : Int) = x from getD_mid _ _ _ _]) out.reverse [x] (by simp)
  rw [List.length_reverse] at e
  unfold spec_inLast.f
  rw [w_id (x := (out.length : Int) - 1) (by omega) (by omega)]
  exact e
theorem join_l1 (out : List S51) (s : List S51) (n : Int) (l : List Int) (r : Int) (x : S51) (res : List S51 × Bool) (ho : out.length ≤ 1000)
    (hres : ∀ c : Int, (c = lastI x.f0 out) → Ev (fun k => impl_JoinRepeats.j3 k out c s s.length n l r x.f0 x.f1 x.f2) res) : ∀ (q t : List S51), q.reverse ++ t = out → lastR x.f0 q = lastR x.f0 out.reverse →
    Ev (fun k => impl_JoinRepeats.l1 k out ((q.length : Int) - 1) s s.length n l r x.f0 x.f1 x.f2) res := by
  intro q
  induction q with
  | nil =>
    intro t h hq
    refine Ev.fuel ?_
    simp only [impl_JoinRepeats.l1, List.length_nil, Int.natCast_zero, Int.zero_sub, show ¬ ((-1 : Int) ≥ 0) from by decide, ↓reduceIte]
    exact hres (-1) (by unfold lastI; rw [← hq]; rfl)
  | cons y ys ih =>
    intro t h hq
    have hlen : out.length = ys.length + 1 + t.length := by rw [← h]; simp; omega
    have e1 : (((y :: ys).length : Nat) : Int) - 1 = (ys.length : Int) := by simp only [List.length_cons]; omega
    have h1 : (ys.length : Int) ≥ 0 := by omega
    have h1' : (0 : Int) ≤ (ys.length : Int) := by omega
    have h2 : (ys.length : Int) < (out.length : Int) := by omega
    have h5 : rd_T51 out (ys.length : Int) = y := by
      rw [← h, List.reverse_cons, List.append_assoc, show ys.length = ys.reverse.length by simp]
      exact getD_mid _ _ _ _
    refine Ev.fuel ?_
    rw [e1]
    simp only [impl_JoinRepeats.l1, h1, h1', h2, h5, ↓reduceIte]
    by_cases hy : y.f0 = x.f0
    · simp only [hy, ↓reduceIte]
      exact hres _ (by unfold lastI; rw [← hq]; simp only [lastR, hy, ↓reduceIte, idxOr])
    · simp only [hy, ↓reduceIte]
      rw [w_id (x := (ys.length : Int) - 1) (by omega) (by omega)]
      simp only [lastR, hy, ↓reduceIte] at hq
      exact ih (y :: t) (by rw [← h]; simp) hq
theorem scoreOf_ev (s : List S51) (hs : s.length ≤ 1048576) : Ev (fun k => impl_scoreOf.f k s) (if goodScore s = true then (s, true) else ([], false)) := by
  unfold impl_scoreOf.f
  refine Ev.bind (IsScore_ev s hs) ?_
  split <;> exact Ev.now _
def endRes (s : List S51) : List S51 × Bool := if goodScore s = true then (s, true) else ([], false)
theorem join_l0 (l : List Int) (r : Int) (s : List S51) (hl : l.length ≤ 1048576) (hs : s.length ≤ 800) (hn : ∀ x ∈ s, noteB x = true) : ∀ (suf pre out : List S51), pre ++ suf = s → out.length ≤ pre.length →
    ∃ o : List S51, o.length ≤ 1000 ∧ Ev (fun k => spec_JoinRepeats.l0 k out s s.length pre.length l r) (endRes o) ∧ Ev (fun k => impl_JoinRepeats.l0 k out s s.length pre.length l r) (endRes o) := by
  intro suf
  induction suf with
  | nil =>
    intro pre out h ho
    have hlen : s.length = pre.length := by rw [← h]; simp
    have hn : ¬ ((pre.length : Int) < (s.length : Int)) := by omega
    refine ⟨out, by omega, Ev.fuel ?_, Ev.fuel ?_⟩
    · simp only [spec_JoinRepeats.l0, hn, ↓reduceIte]
      refine Ev.bind (ntGood_ev out (by omega)) ?_
      unfold endRes
      split <;> exact Ev.now _
    · simp only [impl_JoinRepeats.l0, hn, ↓reduceIte]
      exact Ev.bind (scoreOf_ev out (by omega)) (Ev.now _)
  | cons x suf ih =>
    intro pre out h ho
    have hlen : s.length = pre.length + (suf.length + 1) := by rw [← h]; simp
    have c1 : (pre.length : Int) < (s.length : Int) := by omega
    have c2 : (0 : Int) ≤ (pre.length : Int) := by omega
    have hx : rd_T51 s (pre.length : Int) = x := by rw [← h]; exact getD_mid _ _ _ _
    have hxb := (noteB_iff x).1 (hn x (by rw [← h]; simp))
    have b1 : ([] : List S51).length + out.length < 5864062014805 := by simp only [List.length_nil]; omega
    have b2 : ([] ++ out).length + [x].length < 5864062014805 := by simp only [List.nil_append, List.length_cons, List.length_nil]; omega
    have b3 : out.length + [x].length < 5864062014805 := by simp only [List.length_cons, List.length_nil]; omega
    have b4 : out.length < 5864062014805 := by omega
    have hst : ∀ {q : Prop}, True := fun {_} => trivial
    have next : ∀ o : List S51, o.length ≤ pre.length + 1 → ∃ o', o'.length ≤ 1000 ∧ Ev (fun k => spec_JoinRepeats.l0 k o s s.length ((pre.length + 1 : Nat) : Int) l r) (endRes o') ∧ Ev (fun k => impl_JoinRepeats.l0 k o s s.length ((pre.length + 1 : Nat) : Int) l r) (endRes o') := fun o a => by
      have := ih (pre ++ [x]) o (by rw [← h]; simp) (by simpa using a)
      simpa using this
    have ew : wrap64 (x.f1 + x.f2) = x.f1 + x.f2 := w_id (by omega) (by omega)
    have en : impl_noteEnd.f x.f0 x.f1 x.f2 = some (x.f1 + x.f2) := noteEnd_eq (hn x (by rw [← h]; simp))
    have hlt := lastI_lt x.f0 out
    -- the implementation's inner loop
    have inner : ∀ res, Ev (fun k => impl_JoinRepeats.j3 k out (lastI x.f0 out) s s.length (pre.length : Int) l r x.f0 x.f1 x.f2) res → Ev (fun k => impl_JoinRepeats.l0 k out s s.length pre.length l r) res := fun res hr => by
      refine Ev.fuel ?_
      simp only [impl_JoinRepeats.l0, c1, c2, hx, ↓reduceIte]
      rw [w_id (x := (out.length : Int) - 1) (by omega) (by omega), ← List.length_reverse]
      exact join_l1 out s pre.length l r x res (by omega) (fun c hc => by rw [hc]; exact hr) out.reverse [] (by simp) rfl
    have start : ∀ res, Ev (fun k => (if lastI x.f0 out < 0 then (spec_JoinRepeats.j2 k out (lastI x.f0 out) s s.length (pre.length : Int) true l r x.f0 x.f1 x.f2) else ((spec_inTrack.f k l r x.f0).bind fun t154 => (if t154 < 0 then (spec_JoinRepeats.j2 k out (lastI x.f0 out) s s.length (pre.length : Int) true l r x.f0 x.f1 x.f2) else (if 0 ≤ lastI x.f0 out then (if lastI x.f0 out < (out.length : Int) then (spec_JoinRepeats.j2 k out (lastI x.f0 out) s s.length (pre.length : Int) (decide ((wrap64 (x.f1 - ((rd_T51 out (lastI x.f0 out)).f1))) ≥ r)) l r x.f0 x.f1 x.f2) else none) else none))))) res →
        Ev (fun k => spec_JoinRepeats.l0 k out s s.length pre.length l r) res := fun res hr => by
      refine Ev.fuel ?_
      simp only [spec_JoinRepeats.l0, c1, c2, hx, ↓reduceIte, Option.bind_some, b1, b2]
      simp only [List.nil_append]
      exact Ev.bind (inLast_ev out x (by omega)) hr
    -- a note that is put behind the others
    have put1 : ∀ c b, b = true → ∃ o, o.length ≤ 1000 ∧ Ev (fun k => spec_JoinRepeats.j2 k out c s s.length (pre.length : Int) b l r x.f0 x.f1 x.f2) (endRes o) ∧ Ev (fun k => impl_JoinRepeats.j4 k out c s s.length (pre.length : Int) b l r x.f0 x.f1 x.f2) (endRes o) := fun c b hb => by
      subst hb
      obtain ⟨o, o1, e1, e2⟩ := next (out ++ [x]) (by simp; omega)
      refine ⟨o, o1, Ev.fuel ?_, Ev.fuel ?_⟩
      · simp only [spec_JoinRepeats.j2, ↓reduceIte, Option.bind_some, b3, wn pre.length (by omega)]; exact e1
      · simp only [impl_JoinRepeats.j4, ↓reduceIte, b4, wn pre.length (by omega)]; exact e2
    by_cases hk : lastI x.f0 out < 0
    · obtain ⟨o, o1, e1, e2⟩ := put1 (lastI x.f0 out) true rfl
      refine ⟨o, o1, start _ ?_, inner _ (Ev.fuel ?_)⟩
      · simp only [hk, ↓reduceIte]; exact e1
      · simp only [impl_JoinRepeats.j3, hk, ↓reduceIte]; exact e2
    · have hk0 : 0 ≤ lastI x.f0 out := by omega
      have iff := idxFrom_neg x.f0 l 0 (by omega)
      by_cases hm : x.f0 ∈ l
      · have t1 : ¬ idxFrom x.f0 l 0 < 0 := fun h => (iff.1 h) hm
        by_cases hd : wrap64 (x.f1 - (rd_T51 out (lastI x.f0 out)).f1) ≥ r
        · obtain ⟨o, o1, e1, e2⟩ := put1 (lastI x.f0 out) true rfl
          refine ⟨o, o1, start _ ?_, inner _ (Ev.fuel ?_)⟩
          · simp only [hk, ↓reduceIte]
            refine Ev.bind (inTrack_ev l r _ hl) ?_
            simp only [t1, hk0, hlt, hd, decide_true, ↓reduceIte]; exact e1
          · simp only [impl_JoinRepeats.j3, hk, ↓reduceIte]
            refine Ev.bind (Contains_ev l _ hl) ?_
            simp only [hm, hk0, hlt, hd, decide_true, ↓reduceIte]; exact e2
        · obtain ⟨o, o1, e1, e2⟩ := next (out.set (lastI x.f0 out).toNat ⟨(rd_T51 out (lastI x.f0 out)).f0, (rd_T51 out (lastI x.f0 out)).f1, wrap64 (x.f1 + x.f2 - (rd_T51 out (lastI x.f0 out)).f1)⟩) (by simp; omega)
          refine ⟨o, o1, start _ ?_, inner _ (Ev.fuel ?_)⟩
          · simp only [hk, ↓reduceIte]
            refine Ev.bind (inTrack_ev l r _ hl) ?_
            simp only [t1, hk0, hlt, hd, decide_false, ↓reduceIte]
            refine Ev.fuel ?_
            simp only [spec_JoinRepeats.j2, Bool.false_eq_true, hk0, hlt, ↓reduceIte, wn pre.length (by omega), ew]; exact e1
          · simp only [impl_JoinRepeats.j3, hk, ↓reduceIte]
            refine Ev.bind (Contains_ev l _ hl) ?_
            simp only [hm, hk0, hlt, hd, decide_true, decide_false, ↓reduceIte]
            refine Ev.fuel ?_
            simp only [impl_JoinRepeats.j4, Bool.false_eq_true, hk0, hlt, ↓reduceIte, wn pre.length (by omega), en, Option.bind_some]; exact e2
      · have t1 := iff.2 hm
        obtain ⟨o, o1, e1, e2⟩ := put1 (lastI x.f0 out) true rfl
        refine ⟨o, o1, start _ ?_, inner _ (Ev.fuel ?_)⟩
        · simp only [hk, ↓reduceIte]
          refine Ev.bind (inTrack_ev l r _ hl) ?_
          simp only [t1, ↓reduceIte]; exact e1
        · simp only [impl_JoinRepeats.j3, hk, ↓reduceIte]
          refine Ev.bind (Contains_ev l _ hl) ?_
          simp only [hm, decide_false, Bool.false_eq_true, ↓reduceIte]; exact e2
theorem joinLaw_ev (l : List Int) (r : Int) (s : List S51) (hl : l.length ≤ 1048576) (hs : s.length ≤ 1048576) : ∃ r0 r1, r0.length ≤ 1048576 ∧ Ev (fun k => spec_JoinRepeats.f k l r s) (r0, r1) ∧ Ev (fun k => impl_JoinRepeats.f k l r s) (r0, r1) := by
  unfold spec_JoinRepeats.f impl_JoinRepeats.f
  have jT : Ev (fun k => impl_JoinRepeats.j0 k s true l r) ([], false) := by
    refine Ev.fuel ?_
    simp only [impl_JoinRepeats.j0, ↓reduceIte]; exact Ev.now _
  have sT : Ev (fun k => spec_JoinRepeats.j0 k s true l r) ([], false) := by
    refine Ev.fuel ?_
    simp only [spec_JoinRepeats.j0, ↓reduceIte]; exact Ev.now _
  have e0 := inGood_ev l r hl
  have e1 := IsInstrument_ev l r hl
  have e2 := isThin_ev s hs
  have e3 := thGood_ev s hs
  by_cases h1 : goodIns l r = true
  · simp only [h1] at e0 e1
    by_cases h2 : goodThin s = true
    · simp only [h2] at e2 e3
      have h' := (goodThin_iff s).1 h2
      obtain ⟨o, o1, c1, c2⟩ := join_l0 l r s hl (by omega) (goodScore_all h'.1) s [] [] rfl (by simp)
      have ho : (endRes o).1.length ≤ 1048576 := by
        unfold endRes
        split
        · show o.length ≤ 1048576
          omega
        · simp
      refine ⟨(endRes o).1, (endRes o).2, ho, ?_, ?_⟩
      · refine Ev.bind e0 ?_
        simp only [↓reduceIte]
        refine Ev.bind e3 ?_
        simp only [Bool.not_true]
        refine Ev.fuel ?_
        simp only [spec_JoinRepeats.j0, Bool.false_eq_true, ↓reduceIte]
        exact c1
      · refine Ev.bind e1 ?_
        simp only [↓reduceIte]
        refine Ev.bind e2 ?_
        simp only [Bool.not_true]
        refine Ev.fuel ?_
        simp only [impl_JoinRepeats.j0, Bool.false_eq_true, ↓reduceIte]
        exact c2
    · simp only [Bool.eq_false_iff.mpr h2] at e2 e3
      refine ⟨[], false, by simp, ?_, ?_⟩
      · refine Ev.bind e0 ?_
        simp only [↓reduceIte]
        refine Ev.bind e3 ?_
        simp only [Bool.not_false]; exact sT
      · refine Ev.bind e1 ?_
        simp only [↓reduceIte]
        refine Ev.bind e2 ?_
        simp only [Bool.not_false]; exact jT
  · simp only [Bool.eq_false_iff.mpr h1] at e0 e1
    refine ⟨[], false, by simp, ?_, ?_⟩
    · refine Ev.bind e0 ?_
      simp only [Bool.false_eq_true, ↓reduceIte]; exact sT
    · refine Ev.bind e1 ?_
      simp only [Bool.false_eq_true, ↓reduceIte]; exact jT
end Go.Proofs.Ytipcjpgonncinaa.J
