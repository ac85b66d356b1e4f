/- Plain facts on the helpers that all laws of this seat use: bounds, copies, comparisons, marks. No condition. -/
import Derived.Test.YtafapmanfncfkaaD0
import Derived.Test.YtafapmanfncfkaaD1
import Derived.Test.YtafapmanfncfkaaDQB
set_option linter.unusedVariables false
set_option linter.unusedSimpArgs false
namespace Go.Proofs.Ytafapmanfncfkaa.D
open Go.RowKit Go.Proofs.YtafapmanfncfkaaW.PrintWords Go.Proofs.YtafapmanfncfkaaW.PrintLast Go.Proofs.YtafapmanfncfkaaW.PrintMore

/-! slices of numbers -/
theorem eqIntS_l0 (l : List Int) (hl : l.length ≤ 4611686018427387) : ∀ (suf pre : List Int), pre ++ suf = l → Ev (fun k => laws_eqIntS.l0 k l l pre.length) true := by
  intro suf
  induction suf with
  | nil =>
    intro pre h
    have hn : ¬ ((pre.length : Int) < (l.length : Int)) := by rw [← h]; simp
    refine Ev.fuel ?_
    simp only [laws_eqIntS.l0, hn, ↓reduceIte]
    exact Ev.now _
  | cons x suf ih =>
    intro pre h
    have hlen : l.length = pre.length + (suf.length + 1) := by rw [← h]; simp
    have h1 : (pre.length : Int) < (l.length : Int) := by omega
    have h2 : (0 : Int) ≤ (pre.length : Int) := by omega
    refine Ev.fuel ?_
    simp only [laws_eqIntS.l0, h1, h2, ↓reduceIte, wn pre.length (by omega)]
    simpa using ih (pre ++ [x]) (by rw [← h]; simp)
theorem eqIntS_ev (l : List Int) (hl : l.length ≤ 4611686018427387) : Ev (fun k => laws_eqIntS.f k l l) true := by
  unfold laws_eqIntS.f
  simp only [↓reduceIte]
  exact eqIntS_l0 l hl l [] rfl
theorem szIntS_cases (l : List Int) (a : Int) (h0 : 0 ≤ a) (h1 : a ≤ 1048576) (hb : l.length ≤ 9223372036854775807) :
    laws_szIntS.f l a = some (-1) ∨ ∃ n, 0 ≤ n ∧ n ≤ a ∧ (l.length : Int) ≤ a ∧ laws_szIntS.f l a = some n := by
  unfold laws_szIntS.f
  by_cases h : (l.length : Int) ≤ a
  · refine Or.inr ⟨wrap64 (a - l.length), by unfold wrap64; omega, by unfold wrap64; omega, h, ?_⟩
    rw [if_neg (by unfold wrap64; omega)]
  · exact Or.inl (by rw [if_pos (by unfold wrap64; omega)])
theorem toIntS_l0 (l : List Int) (hl : l.length ≤ 1048576) : ∀ (suf pre : List Int), pre ++ suf = l →
    Ev (fun k => laws_toIntS.l0 k l (pre ++ List.replicate suf.length 0) pre.length) l := by
  intro suf
  induction suf with
  | nil =>
    intro pre h
    have hn : ¬ ((pre.length : Int) < (l.length : Int)) := by rw [← h]; simp
    refine Ev.fuel ?_
    simp only [laws_toIntS.l0, hn, ↓reduceIte]
    refine Ev.const ?_
    rw [← h]; simp
  | cons x suf ih =>
    intro pre h
    have hlen : l.length = pre.length + (suf.length + 1) := by rw [← h]; simp
    have h1 : (pre.length : Int) < (l.length : Int) := by omega
    have h2 : (0 : Int) ≤ (pre.length : Int) := by omega
    have h3 : rd l (pre.length : Int) = x := by rw [← h]; exact getD_mid _ _ _ _
    have h4 : (pre.length : Int) < ((pre ++ List.replicate (x :: suf).length (0 : Int)).length : Int) := by simp; omega
    refine Ev.fuel ?_
    simp only [laws_toIntS.l0, h1, h2, h3, h4, ↓reduceIte, wn pre.length (by omega)]
    have e := ih (pre ++ [x]) (by rw [← h]; simp)
    have e2 : (pre ++ List.replicate (x :: suf).length (0 : Int)).set ((pre.length : Int)).toNat x = (pre ++ [x]) ++ List.replicate suf.length 0 := by
      simp [List.replicate_succ, List.set_append]
    rw [e2]
    simpa using e
theorem toIntS_ev (l : List Int) (hl : l.length ≤ 1048576) : Ev (fun k => laws_toIntS.f k l) l := by
  have h1 : (0 : Int) ≤ (l.length : Int) := by omega
  have h2 : ((l.length : Int)).toNat ≤ 35184372088832 := by omega
  unfold laws_toIntS.f
  simp only [h1, h2, ↓reduceIte]
  simpa using toIntS_l0 l hl l [] rfl

end Go.Proofs.Ytafapmanfncfkaa.D
