/- The plain law of sheets that are layouts. No condition. -/
import Derived.Test.YtbfehdhncncgdaaI0
import Derived.Test.YtbfehdhncncgdaaI1
import Derived.Test.YtbfehdhncncgdaaI3
import Derived.Test.YtbfehdhncncgdaaI5
import Derived.Test.YtbfehdhncncgdaaI6
import Derived.Test.YtbfehdhncncgdaaI10
import Derived.Test.YtbfehdhncncgdaaIQA
set_option linter.unusedVariables false
set_option linter.unusedSimpArgs false
namespace Go.Proofs.Ytbfehdhncncgdaa.I
open Go.RowKit Go.Proofs.YtbfehdhncncgdaaW.PrintWords Go.Proofs.YtbfehdhncncgdaaW.PrintLast Go.Proofs.YtbfehdhncncgdaaW.PrintMore

theorem ris_pair (lo hi : Int) : ∀ (l : List Int) (p : Option Int), risFrom lo hi p l = true → l.Pairwise (· < ·) ∧ ∀ y, p = some y → ∀ x ∈ l, y < x := by
  intro l
  induction l with
  | nil => intro p _; exact ⟨List.Pairwise.nil, fun y _ x hx => by simp at hx⟩
  | cons z l ih =>
    intro p h
    have h' : risFrom lo hi (some z) l = true ∧ ∀ y, p = some y → y < z := by
      cases p with
      | none => simp only [risFrom, Bool.and_eq_true, decide_eq_true_eq] at h; exact ⟨h.2, fun y e => by cases e⟩
      | some q => simp only [risFrom, Bool.and_eq_true, decide_eq_true_eq] at h; exact ⟨h.2.2, fun y e => by cases e; exact h.2.1⟩
    obtain ⟨i1, i2⟩ := ih _ h'.1
    refine ⟨List.pairwise_cons.2 ⟨i2 z rfl, i1⟩, fun y e x hx => ?_⟩
    have := h'.2 y e
    rcases List.mem_cons.1 hx with rfl | hx
    · exact this
    · exact Int.lt_trans this (i2 z rfl x hx)
theorem idx_at : ∀ (l : List Int) (i : Int) (j : Nat), l.Pairwise (· < ·) → j < l.length → idxFrom (l.getD j 0) l i = i + j := by
  intro l
  induction l with
  | nil => intro i j _ h; simp at h
  | cons x xs ih =>
    intro i j hp hj
    obtain ⟨p1, p2⟩ := List.pairwise_cons.1 hp
    cases j with
    | zero => simp [idxFrom]
    | succ j =>
      simp only [List.length_cons] at hj
      have hj' : j < xs.length := by omega
      have e : (x :: xs).getD (j + 1) 0 = xs.getD j 0 := rfl
      have hm : xs.getD j 0 ∈ xs := by rw [List.getD_eq_getElem?_getD, List.getElem?_eq_getElem hj']; exact List.getElem_mem hj'
      have hne : ¬ x = xs.getD j 0 := fun h => by have := p1 _ hm; omega
      rw [e]
      unfold idxFrom
      rw [if_neg hne, ih (i + 1) j p2 hj']
      push_cast
      omega
theorem get_lt (l : List Int) (i j : Nat) (hp : l.Pairwise (· < ·)) (h : i < j) (hj : j < l.length) : l.getD i 0 < l.getD j 0 := by
  have := List.pairwise_iff_getElem.1 hp i j (by omega) hj h
  rw [List.getD_eq_getElem?_getD, List.getD_eq_getElem?_getD, List.getElem?_eq_getElem hj, List.getElem?_eq_getElem (by omega : i < l.length)]
  exact this
def noteH (l : List Int) (h : S64) : S57 := ⟨rd l h.f0, h.f1 / 2, (h.f2 + 1) / 2 - h.f1 / 2⟩
def noteOk (l : List Int) (h : S64) : Bool := decide (h.f0 < (l.length : Int) ∧ h.f1 % 2 = 0 ∧ h.f2 % 2 = 1) && noteB (noteH l h)
def noteR (l : List Int) (h : S64) : Int × Int × Int × Bool := if noteOk l h = true then ((noteH l h).f0, (noteH l h).f1, (noteH l h).f2, true) else (0, 0, 0, false)
theorem noteOk_iff (l : List Int) (h : S64) : noteOk l h = true ↔ ((h.f0 < (l.length : Int) ∧ h.f1 % 2 = 0 ∧ h.f2 % 2 = 1) ∧ noteB (noteH l h) = true) := by
  unfold noteOk; rw [Bool.and_eq_true, decide_eq_true_eq]
theorem laNoteR_ev (l : List Int) (r : Int) (h : S64) (hh : holeB h = true) : Ev (fun k => spec_laNote.f k l r h.f0 h.f1 h.f2) (noteR l h) := by
  have b := (holeB_iff h).1 hh
  have d1 : Int.tdiv h.f1 2 = h.f1 / 2 := Int.tdiv_eq_ediv_of_nonneg (by omega)
  have d2 : Int.tdiv (h.f2 + 1) 2 = (h.f2 + 1) / 2 := Int.tdiv_eq_ediv_of_nonneg (by omega)
  have m1 : Int.tmod h.f1 2 = h.f1 % 2 := Int.tmod_eq_emod_of_nonneg (by omega)
  have m2 : Int.tmod h.f2 2 = h.f2 % 2 := Int.tmod_eq_emod_of_nonneg (by omega)
  have w1 : wrap64 (h.f1 / 2) = h.f1 / 2 := w_id (by omega) (by omega)
  have w2 : wrap64 (h.f2 + 1) = h.f2 + 1 := w_id (by omega) (by omega)
  have w3 : wrap64 ((h.f2 + 1) / 2) = (h.f2 + 1) / 2 := w_id (by omega) (by omega)
  have w4 : wrap64 ((h.f2 + 1) / 2 - h.f1 / 2) = (h.f2 + 1) / 2 - h.f1 / 2 := w_id (by omega) (by omega)
  have jF : Ev (fun k => spec_laNote.j0 k true l r h.f0 h.f1 h.f2) (0, 0, 0, false) := by refine Ev.fuel ?_; simp only [spec_laNote.j0, ↓reduceIte]; exact Ev.now _
  have bad : noteOk l h = false → noteR l h = (0, 0, 0, false) := fun e => by unfold noteR; rw [e]; rfl
  unfold spec_laNote.f
  by_cases c1 : h.f0 ≥ (l.length : Int)
  · rw [bad (by cases e : noteOk l h with | false => rfl | true => have := ((noteOk_iff l h).1 e).1.1; omega)]
    simp only [c1, ↓reduceIte]; exact jF
  · have c1' : h.f0 < (l.length : Int) := by omega
    by_cases c2 : h.f1 % 2 = 0
    · by_cases c3 : h.f2 % 2 = 1
      · simp only [c1, m1, c2, m2, c3, ↓reduceIte, bne_self_eq_false]
        refine Ev.fuel ?_
        have eN := ntNote_eq (noteH l h)
        simp only [noteH] at eN
        simp only [spec_laNote.j0, Bool.false_eq_true, ↓reduceIte, b.1, c1', d1, w2, d2, w1, w3, w4, eN, Option.bind_some]
        unfold noteR noteOk
        simp only [c1', c2, c3, and_self, decide_true, Bool.true_and, noteH]
        split <;> exact Ev.now _
      · rw [bad (by cases e : noteOk l h with | false => rfl | true => have := ((noteOk_iff l h).1 e).1.2.2; omega)]
        have : (h.f2 % 2 != 1) = true := by simp; omega
        simp only [c1, m1, c2, m2, this, ↓reduceIte]; exact jF
    · rw [bad (by cases e : noteOk l h with | false => rfl | true => have := ((noteOk_iff l h).1 e).1.2.1; omega)]
      simp only [c1, m1, c2, ↓reduceIte]; exact jF
def readRes (l : List Int) (s : List S64) : List S57 × Bool := if s.all (noteOk l) = true then scoreRes (s.map (noteH l)) else ([], false)
theorem noteR_ok {l : List Int} {x : S64} : (noteR l x).2.2.2 = noteOk l x := by
  unfold noteR
  cases h : noteOk l x <;> simp
theorem laNotes_l0 (l : List Int) (r : Int) (s : List S64) (hs : s.length ≤ 60) (hn : ∀ x ∈ s, holeB x = true) : ∀ (suf pre : List S64), pre ++ suf = s →
    Ev (fun k => spec_laNotes.l0 k (pre.map (noteH l)) s s.length pre.length l r) (if suf.all (noteOk l) = true then scoreRes (s.map (noteH l)) else ([], false)) ∧
    Ev (fun k => impl_readBack.l0 k (pre.map (noteH l)) s s.length pre.length l r) (if suf.all (noteOk l) = true then scoreRes (s.map (noteH l)) else ([], false)) := by
  intro suf
  induction suf with
  | nil =>
    intro pre h
    have hc : ¬ ((pre.length : Int) < (s.length : Int)) := by rw [← h]; simp
    have e : pre = s := by rw [← h]; simp
    have hz : (s.map (noteH l)).length ≤ 1048576 := by simp; omega
    refine ⟨Ev.fuel ?_, Ev.fuel ?_⟩
    · simp only [spec_laNotes.l0, hc, ↓reduceIte, List.all_nil]
      rw [e]
      exact Ev.bind (ntSorted_ev _ hz) (Ev.now _)
    · simp only [impl_readBack.l0, hc, ↓reduceIte, List.all_nil]
      rw [e]
      simp only [sortedNotes_eq _ hz, Option.bind_some]
      exact Ev.bind (scoreOf_ev _ hz) (Ev.now _)
  | cons x suf ih =>
    intro pre h
    have hlen : s.length = pre.length + (suf.length + 1) := by rw [← h]; simp
    have c1 : (pre.length : Int) < (s.length : Int) := by omega
    have c2 : (0 : Int) ≤ (pre.length : Int) := by omega
    have c3 : rd_T64 s (pre.length : Int) = x := by rw [← h]; exact getD_mid _ _ _ _
    have q1 : (pre.map (noteH l)).length < 5864062014805 := by simp; omega
    have et := laNoteR_ev l r x (hn x (by rw [← h]; simp))
    by_cases ht : noteOk l x = true
    · obtain ⟨e1, e2⟩ := ih (pre ++ [x]) (by rw [← h]; simp)
      have ea : (x :: suf).all (noteOk l) = suf.all (noteOk l) := by simp [ht]
      have em : (pre ++ [x]).map (noteH l) = pre.map (noteH l) ++ [noteH l x] := by simp
      have ec : ((pre ++ [x]).length : Int) = ((pre.length + 1 : Nat) : Int) := by simp
      rw [ec, em] at e1 e2
      have er : noteR l x = ((noteH l x).f0, (noteH l x).f1, (noteH l x).f2, true) := by unfold noteR; rw [if_pos ht]
      rw [er] at et
      rw [ea]
      refine ⟨Ev.fuel ?_, Ev.fuel ?_⟩
      · simp only [spec_laNotes.l0, c1, c2, c3, q1, ↓reduceIte, wn pre.length (by omega)]
        refine Ev.bind et ?_
        simp only [↓reduceIte]
        exact e1
      · simp only [impl_readBack.l0, c1, c2, c3, q1, ↓reduceIte, wn pre.length (by omega), laNote_same]
        refine Ev.bind et ?_
        simp only [↓reduceIte]
        exact e2
    · have ea : (x :: suf).all (noteOk l) = false := by simp [ht]
      have er : noteR l x = (0, 0, 0, false) := by unfold noteR; rw [if_neg ht]
      rw [er] at et
      rw [ea]
      refine ⟨Ev.fuel ?_, Ev.fuel ?_⟩
      · simp only [spec_laNotes.l0, c1, c2, c3, q1, ↓reduceIte, wn pre.length (by omega), Bool.false_eq_true]
        refine Ev.bind et ?_
        simp only [Bool.false_eq_true, ↓reduceIte]; exact Ev.now _
      · simp only [impl_readBack.l0, c1, c2, c3, q1, ↓reduceIte, wn pre.length (by omega), laNote_same, Bool.false_eq_true]
        refine Ev.bind et ?_
        simp only [Bool.false_eq_true, ↓reduceIte]; exact Ev.now _
/-- A hole's note is laid out as that hole. -/
theorem hole_back {l : List Int} {h : S64} (hp : l.Pairwise (· < ·)) (hh : holeB h = true) (ho : noteOk l h = true) : holeOf l (noteH l h) = (h.f0, h.f1, h.f2, true) := by
  have b := (holeB_iff h).1 hh
  obtain ⟨⟨c1, c2, c3⟩, c4⟩ := (noteOk_iff l h).1 ho
  have i1 : idxFrom (rd l h.f0) l 0 = h.f0 := by
    have := idx_at l 0 h.f0.toNat hp (by omega)
    unfold rd
    rw [this]
    omega
  have e1 : 2 * (h.f1 / 2) = h.f1 := by omega
  have e2 : 2 * (h.f1 / 2 + ((h.f2 + 1) / 2 - h.f1 / 2)) - 1 = h.f2 := by omega
  unfold holeOf noteH
  simp only [i1, e1, e2]
  have : holeB ⟨h.f0, h.f1, h.f2⟩ = true := hh
  rw [if_pos this]
theorem read_rising {l : List Int} {s : List S64} (hp : l.Pairwise (· < ·)) (hs : goodSheet s = true) (ho : s.all (noteOk l) = true) : SA.Rising SNote.ltB (s.map (noteH l)) := by
  have hr := ((goodSheet_iff s).1 hs).2.1
  have hall := goodSheet_all hs
  unfold SA.Rising
  rw [List.pairwise_map]
  refine List.Pairwise.imp_of_mem (R := fun a b => SHole.ltB a b = true) ?_ hr
  intro x y hx hy hxy
  have bx := (holeB_iff x).1 (hall x hx)
  have by_ := (holeB_iff y).1 (hall y hy)
  have ox := ((noteOk_iff l x).1 (List.all_eq_true.1 ho x hx)).1
  have oy := ((noteOk_iff l y).1 (List.all_eq_true.1 ho y hy)).1
  rw [ltB_iff] at hxy
  rw [nltB_iff]
  simp only [noteH]
  rcases hxy with h | ⟨h1, h2⟩
  · left; omega
  · right
    refine ⟨by rw [h1], ?_⟩
    unfold rd
    exact get_lt l x.f0.toNat y.f0.toNat hp (by omega) (by omega)
theorem read_lay {l : List Int} {s : List S64} (hp : l.Pairwise (· < ·)) (hs : goodSheet s = true) (ho : s.all (noteOk l) = true) : (s.map (noteH l)).map (layH l) = s ∧ layAll l (s.map (noteH l)) = true := by
  have hall := goodSheet_all hs
  constructor
  · rw [List.map_map]
    have : ∀ x ∈ s, (layH l ∘ noteH l) x = x := by
      intro x hx
      simp only [Function.comp, layH, hole_back hp (hall x hx) (List.all_eq_true.1 ho x hx)]
    conv => rhs; rw [← List.map_id s]
    exact List.map_congr_left this
  · unfold layAll
    rw [List.all_map, List.all_eq_true]
    intro x hx
    simp only [Function.comp, hole_back hp (hall x hx) (List.all_eq_true.1 ho x hx)]
theorem eqSheet_l0 (s : List S64) (hs : s.length ≤ 1048576) : ∀ (suf pre : List S64), pre ++ suf = s → Ev (fun k => impl_Hole.l0 k s s s.length pre.length) true := by
  intro suf
  induction suf with
  | nil =>
    intro pre h
    have hc : ¬ ((pre.length : Int) < (s.length : Int)) := by rw [← h]; simp
    refine Ev.fuel ?_
    simp only [impl_Hole.l0, hc, ↓reduceIte]; exact Ev.now _
  | cons x suf ih =>
    intro pre h
    have hlen : s.length = pre.length + (suf.length + 1) := by rw [← h]; simp
    have c1 : (pre.length : Int) < (s.length : Int) := by omega
    have c2 : (0 : Int) ≤ (pre.length : Int) := by omega
    have e := ih (pre ++ [x]) (by rw [← h]; simp)
    have ec : ((pre ++ [x]).length : Int) = ((pre.length + 1 : Nat) : Int) := by simp
    rw [ec] at e
    refine Ev.fuel ?_
    simp only [impl_Hole.l0, c1, c2, ↓reduceIte, beq_self_eq_true, Bool.not_true, Bool.or_self, Bool.false_eq_true, wn pre.length (by omega)]
    exact e
theorem implIs_bad (l : List Int) (r : Int) (s : List S64) : Ev (fun k => impl_IsLayOut.j0 k s true l r) (false, false) := by
  refine Ev.fuel ?_
  simp only [impl_IsLayOut.j0, ↓reduceIte]; exact Ev.now _
theorem isLaw_ev (l : List Int) (r : Int) (s : List S64) (hl : l.length ≤ 1048576) (hs : s.length ≤ 1048576) : ∃ r0 r1, Ev (fun k => spec_IsLayOut.f k l r s) (r0, r1) ∧ Ev (fun k => impl_IsLayOut.f k l r s) (r0, r1) := by
  unfold spec_IsLayOut.f impl_IsLayOut.f
  have ea := laAsked_ev l r s hl hs
  have e1 := IsInstrument_ev l r hl
  have e2 := IsSheet_ev s hs
  by_cases h1 : goodIns l r = true
  · by_cases h2 : goodSheet s = true
    · simp only [h1, h2, Bool.true_and] at ea e1 e2
      have hp := (ris_pair 24 96 l none ((goodIns_iff l r).1 h1).2.1).1
      obtain ⟨c1, c2⟩ := laNotes_l0 l r s (goodSheet_len h2) (goodSheet_all h2) s [] rfl
      have rs : Ev (fun k => spec_laNotes.f k l r s) (if s.all (noteOk l) = true then scoreRes (s.map (noteH l)) else ([], false)) := c1
      have ri : Ev (fun k => impl_readBack.f k l r s) (if s.all (noteOk l) = true then scoreRes (s.map (noteH l)) else ([], false)) := c2
      have fin : ∀ (b : Bool) {R : List S57 × Bool}, Ev (fun k => spec_laNotes.f k l r s) R → Ev (fun k => impl_readBack.f k l r s) R → R.2 = false → ∃ r0 r1, Ev (fun k => (spec_laAsked.f k l r s).bind fun t => (if t = true then ((spec_laNotes.f k l r s).bind fun bt => (if bt.2 = true then ((spec_inPlays.f k l r bt.1).bind fun t285 => (some (t285, true))) else (some (false, true)))) else (some (false, false)))) (r0, r1) ∧
          Ev (fun k => (impl_IsInstrument.f k l r).bind fun t => (if t = true then ((impl_IsSheet.f k s).bind fun t => (impl_IsLayOut.j0 k s (!t) l r)) else (impl_IsLayOut.j0 k s true l r))) (r0, r1) := by
        intro b R hR1 hR2 hR
        refine ⟨false, true, ?_, ?_⟩
        · refine Ev.bind ea ?_
          simp only [↓reduceIte]
          refine Ev.bind hR1 ?_
          simp only [hR, Bool.false_eq_true, ↓reduceIte]; exact Ev.now _
        · refine Ev.bind e1 ?_
          simp only [↓reduceIte]
          refine Ev.bind e2 ?_
          simp only [Bool.not_true]
          refine Ev.fuel ?_
          simp only [impl_IsLayOut.j0, Bool.false_eq_true, ↓reduceIte]
          refine Ev.bind hR2 ?_
          simp only [hR, Bool.false_eq_true, ↓reduceIte]; exact Ev.now _
      by_cases ho : s.all (noteOk l) = true
      · simp only [ho, ↓reduceIte] at rs ri
        have hris := read_rising hp h2 ho
        have hsort := nisort_rising _ hris
        by_cases hg : goodScore (s.map (noteH l)) = true
        · have eR : scoreRes (s.map (noteH l)) = (s.map (noteH l), true) := by unfold scoreRes; rw [hsort, if_pos hg]
          rw [eR] at rs ri
          obtain ⟨b1, b2⟩ := read_lay hp h2 ho
          have hn := goodScore_all hg
          have h30 := goodScore_len hg
          have eL : layRes l r (s.map (noteH l)) = if playsB l r (s.map (noteH l)) = true then (s, true) else ([], false) := by
            unfold layRes
            rw [b2, b1]
            unfold sheetRes
            rw [isort_rising _ ((goodSheet_iff s).1 h2).2.1, if_pos h2]
            simp
          refine ⟨playsB l r (s.map (noteH l)), true, ?_, ?_⟩
          · refine Ev.bind ea ?_
            simp only [↓reduceIte]
            refine Ev.bind rs ?_
            simp only [↓reduceIte]
            exact Ev.bind (inPlays_ev l r _ hl (by omega) hn) (Ev.now _)
          · refine Ev.bind e1 ?_
            simp only [↓reduceIte]
            refine Ev.bind e2 ?_
            simp only [Bool.not_true]
            refine Ev.fuel ?_
            simp only [impl_IsLayOut.j0, Bool.false_eq_true, ↓reduceIte]
            refine Ev.bind ri ?_
            simp only [↓reduceIte]
            have elay := layOut_ev l r (s.map (noteH l)) hl (by omega) hn
            rw [eL] at elay
            by_cases hpl : playsB l r (s.map (noteH l)) = true
            · simp only [hpl, ↓reduceIte] at elay ⊢
              refine Ev.bind elay ?_
              simp only [↓reduceIte]
              unfold impl_Hole.f
              simp only [↓reduceIte]
              exact Ev.bind (eqSheet_l0 s hs s [] rfl) (Ev.now _)
            · simp only [hpl, Bool.false_eq_true, ↓reduceIte] at elay ⊢
              refine Ev.bind elay ?_
              simp only [Bool.false_eq_true, ↓reduceIte]
              exact Ev.now _
        · have eR : scoreRes (s.map (noteH l)) = ([], false) := by unfold scoreRes; rw [hsort, if_neg hg]
          rw [eR] at rs ri
          exact fin true rs ri rfl
      · simp only [ho, Bool.false_eq_true, ↓reduceIte] at rs ri
        exact fin true rs ri rfl
    · simp only [h1, Bool.eq_false_iff.mpr h2, Bool.true_and] at ea e1 e2
      refine ⟨false, false, ?_, ?_⟩
      · refine Ev.bind ea ?_
        simp only [Bool.false_eq_true, ↓reduceIte]; exact Ev.now _
      · refine Ev.bind e1 ?_
        simp only [↓reduceIte]
        refine Ev.bind e2 ?_
        simp only [Bool.not_false]
        exact implIs_bad l r s
  · simp only [Bool.eq_false_iff.mpr h1, Bool.false_and] at ea e1
    refine ⟨false, false, ?_, ?_⟩
    · refine Ev.bind ea ?_
      simp only [Bool.false_eq_true, ↓reduceIte]; exact Ev.now _
    · refine Ev.bind e1 ?_
      simp only [Bool.false_eq_true, ↓reduceIte]
      exact implIs_bad l r s
end Go.Proofs.Ytbfehdhncncgdaa.I
