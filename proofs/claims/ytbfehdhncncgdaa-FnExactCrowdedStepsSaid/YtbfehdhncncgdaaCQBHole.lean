/- Plain facts on the helpers that all laws of this seat use: bounds, copies, comparisons, marks. No condition. -/
import Derived.Test.YtbfehdhncncgdaaC0
import Derived.Test.YtbfehdhncncgdaaC1
import Derived.Test.YtbfehdhncncgdaaCQB
set_option linter.unusedVariables false
set_option linter.unusedSimpArgs false
namespace Go.Proofs.Ytbfehdhncncgdaa.C
open Go.RowKit Go.Proofs.YtbfehdhncncgdaaW.PrintWords Go.Proofs.YtbfehdhncncgdaaW.PrintLast Go.Proofs.YtbfehdhncncgdaaW.PrintMore

/-! slices of three numbers: S73 came in, S64 is the program's -/
abbrev cvHole (x : S73) : S64 := ⟨x.f0, x.f1, x.f2⟩

theorem szHoleS_cases (l : List S73) (a : Int) (h0 : 0 ≤ a) (h1 : a ≤ 1048576) (hb : l.length ≤ 9223372036854775807) :
    laws_szHoleS.f l a = some (-1) ∨ ∃ n, 0 ≤ n ∧ n ≤ a ∧ (l.length : Int) ≤ a ∧ laws_szHoleS.f l a = some n := by
  unfold laws_szHoleS.f
  by_cases h : (l.length : Int) ≤ a
  · refine Or.inr ⟨wrap64 (a - l.length), by unfold wrap64; omega, by unfold wrap64; omega, h, ?_⟩
    rw [if_neg (by unfold wrap64; omega)]
  · exact Or.inl (by rw [if_pos (by unfold wrap64; omega)])
theorem toHoleS_l0 (l : List S73) (hl : l.length ≤ 1048576) : ∀ (suf pre : List S73), pre ++ suf = l →
    Ev (fun k => laws_toHoleS.l0 k l (pre.map cvHole ++ List.replicate suf.length z64) pre.length) (l.map cvHole) := by
  intro suf
  induction suf with
  | nil =>
    intro pre h
    have hn : ¬ ((pre.length : Int) < (l.length : Int)) := by rw [← h]; simp
    refine Ev.fuel ?_
    simp only [laws_toHoleS.l0, hn, ↓reduceIte]
    refine Ev.const ?_
    rw [← h]; simp
  | cons x suf ih =>
    intro pre h
    have hlen : l.length = pre.length + (suf.length + 1) := by rw [← h]; simp
    have h1 : (pre.length : Int) < (l.length : Int) := by omega
    have h2 : (0 : Int) ≤ (pre.length : Int) := by omega
    have h3 : rd_T73 l (pre.length : Int) = x := by rw [← h]; exact getD_mid _ _ _ _
    have h4 : (pre.length : Int) < ((List.map cvHole pre ++ List.replicate (x :: suf).length z64).length : Int) := by simp; omega
    refine Ev.fuel ?_
    simp only [laws_toHoleS.l0, h1, h2, h3, h4, ↓reduceIte, laws_toHole.f, Option.bind_some, wn pre.length (by omega)]
    have e := ih (pre ++ [x]) (by rw [← h]; simp)
    have e2 : (List.map cvHole pre ++ List.replicate (x :: suf).length z64).set ((pre.length : Int)).toNat (⟨x.f0, x.f1, x.f2⟩ : S64) = (pre ++ [x]).map cvHole ++ List.replicate suf.length z64 := by
      simp [List.replicate_succ, List.set_append]
    rw [e2]
    simpa using e
theorem toHoleS_ev (l : List S73) (hl : l.length ≤ 1048576) : Ev (fun k => laws_toHoleS.f k l) (l.map cvHole) := by
  have h1 : (0 : Int) ≤ (l.length : Int) := by omega
  have h2 : ((l.length : Int)).toNat ≤ 11728124029610 := by omega
  unfold laws_toHoleS.f
  simp only [h1, h2, ↓reduceIte]
  simpa using toHoleS_l0 l hl l [] rfl

theorem eqHoleS_l0 (l : List S64) (hl : l.length ≤ 4611686018427387) : ∀ (suf pre : List S64), pre ++ suf = l → Ev (fun k => laws_eqHoleS.l0 k l l pre.length) true := by
  intro suf
  induction suf with
  | nil =>
    intro pre h
    have hn : ¬ ((pre.length : Int) < (l.length : Int)) := by rw [← h]; simp
    refine Ev.fuel ?_
    simp only [laws_eqHoleS.l0, hn, ↓reduceIte]
    exact Ev.now _
  | cons x suf ih =>
    intro pre h
    have hlen : l.length = pre.length + (suf.length + 1) := by rw [← h]; simp
    have h1 : (pre.length : Int) < (l.length : Int) := by omega
    have h2 : (0 : Int) ≤ (pre.length : Int) := by omega
    refine Ev.fuel ?_
    simp only [laws_eqHoleS.l0, h1, h2, ↓reduceIte, laws_eqHole.f, Option.bind_some, wn pre.length (by omega)]
    simpa using ih (pre ++ [x]) (by rw [← h]; simp)
theorem eqHoleS_ev (l : List S64) (hl : l.length ≤ 4611686018427387) : Ev (fun k => laws_eqHoleS.f k l l) true := by
  unfold laws_eqHoleS.f
  simp only [↓reduceIte]
  exact eqHoleS_l0 l hl l [] rfl


end Go.Proofs.Ytbfehdhncncgdaa.C
