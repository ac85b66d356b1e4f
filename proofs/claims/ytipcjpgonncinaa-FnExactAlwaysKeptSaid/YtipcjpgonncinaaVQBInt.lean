/- Plain facts on the helpers that all laws of this seat use: bounds, copies, comparisons, marks. No condition. -/
import Derived.Test.YtipcjpgonncinaaV0
import Derived.Test.YtipcjpgonncinaaV1
import Derived.Test.YtipcjpgonncinaaV6
import Derived.Test.YtipcjpgonncinaaVQB
set_option linter.unusedVariables false
set_option linter.unusedSimpArgs false
namespace Go.Proofs.Ytipcjpgonncinaa.V
open Go.RowKit Go.Proofs.YtipcjpgonncinaaW.PrintWords Go.Proofs.YtipcjpgonncinaaW.PrintLast Go.Proofs.YtipcjpgonncinaaW.PrintMore

/-! slices of numbers -/
theorem eqIntS_l0 (l : List Int) (hl : l.length ≤ 4611686018427387) : ∀ (suf pre : List Int), pre ++ suf = l → Ev (fun k => laws_eqIntS.l0 k l l pre.length) true := by
  intro suf
  induction suf with
  | nil =>
    intro pre h
    have hn : ¬ ((pre.length : Int) < (l.length : Int)) := by rw [← h]; simp
    refine Ev.fuel ?_
    simp only [laws_eqIntS.l0, hn, ↓reduceIte]
    exact Ev.now _
  | cons x suf ih =>
    intro pre h
    have hlen : l.length = pre.length + (suf.length + 1) := by rw [← h]; simp
    have h1 : (pre.length : Int) < (l.length : Int) := by omega
    have h2 : (0 : Int) ≤ (pre.length : Int) := by omega
    refine Ev.fuel ?_
    simp only [laws_eqIntS.l0, h1, h2, ↓reduceIte, wn pre.length (by omega)]
    simpa using ih (pre ++ [x]) (by rw [← h]; simp)
theorem eqIntS_ev (l : List Int) (hl : l.length ≤ 4611686018427387) : Ev (fun k => laws_eqIntS.f k l l) true := by
  unfold laws_eqIntS.f
  simp only [↓reduceIte]
  exact eqIntS_l0 l hl l [] rfl
def marksI : Int → Nat → List Int
  | _, 0 => []
  | m, n + 1 => m :: marksI (m + 1) n
theorem marksI_len (n : Nat) : ∀ m, (marksI m n).length = n := by
  induction n with
  | zero => intro m; rfl
  | succ n ih => intro m; simp [marksI, ih]
theorem markIntS_l0 : ∀ (suf pre : List Int) (m : Int), 0 ≤ m → m + suf.length ≤ 4611686018427387904 → (pre ++ suf).length ≤ 4611686018427387 →
    Ev (fun k => laws_markIntS.l0 k (pre ++ suf) m pre.length) (m + suf.length, pre ++ marksI m suf.length) := by
  intro suf
  induction suf with
  | nil =>
    intro pre m h0 h1 h2
    refine Ev.fuel ?_
    have hn : ¬ ((pre.length : Int) < ((pre ++ []).length : Int)) := by simp
    simp only [laws_markIntS.l0, hn, ↓reduceIte]
    refine Ev.const ?_
    simp [marksI]
  | cons x suf ih =>
    intro pre m h0 h1 h2
    have hlen : (pre ++ x :: suf).length = pre.length + (suf.length + 1) := by simp
    simp only [List.length_cons] at h1
    have c1 : (pre.length : Int) < ((pre ++ x :: suf).length : Int) := by omega
    have c2 : (0 : Int) ≤ (pre.length : Int) := by omega
    have s : ∀ (y u : Int), (pre ++ y :: suf).set ((pre.length : Int)).toNat u = pre ++ u :: suf := fun y u => by simp [List.set_append]
    have a1 : wrap64 (m + 1) = m + 1 := w_id (by omega) (by omega)
    refine Ev.fuel ?_
    simp only [laws_markIntS.l0, c1, c2, ↓reduceIte, s, a1, wn pre.length (by omega)]
    have e := ih (pre ++ [m]) (m + 1) (by omega) (by omega) (by simp only [List.length_append, List.length_cons] at h2 ⊢; simp; omega)
    simp only [List.append_assoc, List.singleton_append, List.length_append, List.length_singleton, List.length_cons] at e ⊢
    rw [show m + ((suf.length + 1 : Nat) : Int) = m + 1 + (suf.length : Int) by omega]
    exact e
theorem markIntS_ev (l : List Int) (m : Int) (h0 : 0 ≤ m) (h1 : m ≤ 1152921504606846976) (hl : l.length ≤ 1125899906842624) : Ev (fun k => laws_markIntS.f k l m) (m + l.length, marksI m l.length) := by
  unfold laws_markIntS.f
  simpa using markIntS_l0 l [] m h0 (by omega) (by simpa using by omega)
theorem heldIntS_l0 : ∀ (n : Nat) (pre : List Int) (m : Int), 0 ≤ m → m + n ≤ 4611686018427387904 → pre.length + n ≤ 4611686018427387 →
    Ev (fun k => laws_heldIntS.l0 k (pre ++ marksI m n) m pre.length) (m + n) := by
  intro n
  induction n with
  | zero =>
    intro pre m h0 h1 h2
    refine Ev.fuel ?_
    have hn : ¬ ((pre.length : Int) < ((pre ++ marksI m 0).length : Int)) := by simp [marksI]
    simp only [laws_heldIntS.l0, hn, ↓reduceIte]
    refine Ev.const ?_
    simp
  | succ n ih =>
    intro pre m h0 h1 h2
    have hlen : (pre ++ marksI m (n + 1)).length = pre.length + (n + 1) := by simp [marksI_len]
    have c1 : (pre.length : Int) < ((pre ++ marksI m (n + 1)).length : Int) := by omega
    have c2 : (0 : Int) ≤ (pre.length : Int) := by omega
    have g : rd (pre ++ marksI m (n + 1)) (pre.length : Int) = m := getD_mid _ _ _ _
    have a1 : wrap64 (m + 1) = m + 1 := w_id (by omega) (by omega)
    refine Ev.fuel ?_
    simp only [laws_heldIntS.l0, c1, c2, ↓reduceIte, g, a1, wn pre.length (by omega)]
    have e := ih (pre ++ [m]) (m + 1) (by omega) (by omega) (by simp; omega)
    simp only [List.append_assoc, List.singleton_append, List.length_append, List.length_singleton] at e
    rw [show m + ((n + 1 : Nat) : Int) = m + 1 + (n : Int) by omega]
    exact e
theorem heldIntS_ev (n : Nat) (m : Int) (h0 : 0 ≤ m) (h1 : m ≤ 1152921504606846976) (hl : n ≤ 1125899906842624) : Ev (fun k => laws_heldIntS.f k (marksI m n) m) (m + n) := by
  unfold laws_heldIntS.f
  simpa using heldIntS_l0 n [] m h0 (by omega) (by simpa using by omega)
theorem szIntS_cases (l : List Int) (a : Int) (h0 : 0 ≤ a) (h1 : a ≤ 1048576) (hb : l.length ≤ 9223372036854775807) :
    laws_szIntS.f l a = some (-1) ∨ ∃ n, 0 ≤ n ∧ n ≤ a ∧ (l.length : Int) ≤ a ∧ laws_szIntS.f l a = some n := by
  unfold laws_szIntS.f
  by_cases h : (l.length : Int) ≤ a
  · refine Or.inr ⟨wrap64 (a - l.length), by unfold wrap64; omega, by unfold wrap64; omega, h, ?_⟩
    rw [if_neg (by unfold wrap64; omega)]
  · exact Or.inl (by rw [if_pos (by unfold wrap64; omega)])
theorem toIntS_l0 (l : List Int) (hl : l.length ≤ 1048576) : ∀ (suf pre : List Int), pre ++ suf = l →
    Ev (fun k => laws_toIntS.l0 k l (pre ++ List.replicate suf.length 0) pre.length) l := by
  intro suf
  induction suf with
  | nil =>
    intro pre h
    have hn : ¬ ((pre.length : Int) < (l.length : Int)) := by rw [← h]; simp
    refine Ev.fuel ?_
    simp only [laws_toIntS.l0, hn, ↓reduceIte]
    refine Ev.const ?_
    rw [← h]; simp
  | cons x suf ih =>
    intro pre h
    have hlen : l.length = pre.length + (suf.length + 1) := by rw [← h]; simp
    have h1 : (pre.length : Int) < (l.length : Int) := by omega
    have h2 : (0 : Int) ≤ (pre.length : Int) := by omega
    have h3 : rd l (pre.length : Int) = x := by rw [← h]; exact getD_mid _ _ _ _
    have h4 : (pre.length : Int) < ((pre ++ List.replicate (x :: suf).length (0 : Int)).length : Int) := by simp; omega
    refine Ev.fuel ?_
    simp only [laws_toIntS.l0, h1, h2, h3, h4, ↓reduceIte, wn pre.length (by omega)]
    have e := ih (pre ++ [x]) (by rw [← h]; simp)
    have e2 : (pre ++ List.replicate (x :: suf).length (0 : Int)).set ((pre.length : Int)).toNat x = (pre ++ [x]) ++ List.replicate suf.length 0 := by
      simp [List.replicate_succ, List.set_append]
    rw [e2]
    simpa using e
theorem toIntS_ev (l : List Int) (hl : l.length ≤ 1048576) : Ev (fun k => laws_toIntS.f k l) l := by
  have h1 : (0 : Int) ≤ (l.length : Int) := by omega
  have h2 : ((l.length : Int)).toNat ≤ 35184372088832 := by omega
  unfold laws_toIntS.f
  simp only [h1, h2, ↓reduceIte]
  simpa using toIntS_l0 l hl l [] rfl

end Go.Proofs.Ytipcjpgonncinaa.V
