/- Plain facts on the helpers that all laws of this seat use: bounds, copies, comparisons, marks. No condition. -/
import Derived.Test.YtbfehdhncncgdaaF0
import Derived.Test.YtbfehdhncncgdaaF1
import Derived.Test.YtbfehdhncncgdaaF2
import Derived.Test.YtbfehdhncncgdaaFQB
set_option linter.unusedVariables false
set_option linter.unusedSimpArgs false
namespace Go.Proofs.Ytbfehdhncncgdaa.F
open Go.RowKit Go.Proofs.YtbfehdhncncgdaaW.PrintWords Go.Proofs.YtbfehdhncncgdaaW.PrintLast Go.Proofs.YtbfehdhncncgdaaW.PrintMore

/-! slices of three numbers: S64 came in, S64 is the program's -/

theorem eqHoleS_l0 (l : List S64) (hl : l.length ≤ 4611686018427387) : ∀ (suf pre : List S64), pre ++ suf = l → Ev (fun k => laws_eqHoleS.l0 k l l pre.length) true := by
  intro suf
  induction suf with
  | nil =>
    intro pre h
    have hn : ¬ ((pre.length : Int) < (l.length : Int)) := by rw [← h]; simp
    refine Ev.fuel ?_
    simp only [laws_eqHoleS.l0, hn, ↓reduceIte]
    exact Ev.now _
  | cons x suf ih =>
    intro pre h
    have hlen : l.length = pre.length + (suf.length + 1) := by rw [← h]; simp
    have h1 : (pre.length : Int) < (l.length : Int) := by omega
    have h2 : (0 : Int) ≤ (pre.length : Int) := by omega
    refine Ev.fuel ?_
    simp only [laws_eqHoleS.l0, h1, h2, ↓reduceIte, laws_eqHole.f, Option.bind_some, wn pre.length (by omega)]
    simpa using ih (pre ++ [x]) (by rw [← h]; simp)
theorem eqHoleS_ev (l : List S64) (hl : l.length ≤ 4611686018427387) : Ev (fun k => laws_eqHoleS.f k l l) true := by
  unfold laws_eqHoleS.f
  simp only [↓reduceIte]
  exact eqHoleS_l0 l hl l [] rfl

/-- What markHoleS writes from a number on. -/
def marksHole : Int → Nat → List S64
  | _, 0 => []
  | m, n + 1 => ⟨m, m + 1, m + 2⟩ :: marksHole (m + 3) n
theorem marksHole_len (n : Nat) : ∀ m, (marksHole m n).length = n := by
  induction n with
  | zero => intro m; rfl
  | succ n ih => intro m; simp [marksHole, ih]
theorem markHoleS_l0 : ∀ (suf pre : List S64) (m : Int), 0 ≤ m → m + 3 * suf.length ≤ 4611686018427387904 → (pre ++ suf).length ≤ 4611686018427387 →
    Ev (fun k => laws_markHoleS.l0 k (pre ++ suf) m pre.length) (m + 3 * suf.length, pre ++ marksHole m suf.length) := by
  intro suf
  induction suf with
  | nil =>
    intro pre m h0 h1 h2
    refine Ev.fuel ?_
    have hn : ¬ ((pre.length : Int) < ((pre ++ []).length : Int)) := by simp
    simp only [laws_markHoleS.l0, hn, ↓reduceIte]
    refine Ev.const ?_
    simp [marksHole]
  | cons x suf ih =>
    intro pre m h0 h1 h2
    have hlen : (pre ++ x :: suf).length = pre.length + (suf.length + 1) := by simp
    simp only [List.length_cons] at h1
    have c1 : (pre.length : Int) < ((pre ++ x :: suf).length : Int) := by omega
    have c2 : (0 : Int) ≤ (pre.length : Int) := by omega
    have s : ∀ (y u : S64), (pre ++ y :: suf).set ((pre.length : Int)).toNat u = pre ++ u :: suf := fun y u => by simp [List.set_append]
    have g : ∀ y : S64, rd_T64 (pre ++ y :: suf) (pre.length : Int) = y := fun y => getD_mid _ _ _ _
    have a1 : wrap64 (m + 1) = m + 1 := w_id (by omega) (by omega)
    have a2 : wrap64 (m + 1 + 1) = m + 2 := by rw [w_id (by omega) (by omega)]; omega
    have a3 : wrap64 (m + 2 + 1) = m + 3 := by rw [w_id (by omega) (by omega)]; omega
    refine Ev.fuel ?_
    simp only [laws_markHoleS.l0, c1, c2, ↓reduceIte, Option.bind_some, s, g, a1, a2, a3, wn pre.length (by omega)]
    have e := ih (pre ++ [⟨m, m + 1, m + 2⟩]) (m + 3) (by omega) (by omega) (by simp only [List.length_append, List.length_cons] at h2 ⊢; simp; omega)
    simp only [List.append_assoc, List.singleton_append, List.length_append, List.length_singleton, List.length_cons] at e ⊢
    rw [show m + 3 * ((suf.length + 1 : Nat) : Int) = m + 3 + 3 * (suf.length : Int) by omega]
    exact e
theorem markHoleS_ev (l : List S64) (m : Int) (h0 : 0 ≤ m) (h1 : m ≤ 1152921504606846976) (hl : l.length ≤ 1125899906842624) : Ev (fun k => laws_markHoleS.f k l m) (m + 3 * l.length, marksHole m l.length) := by
  unfold laws_markHoleS.f
  simpa using markHoleS_l0 l [] m h0 (by omega) (by simpa using by omega)
theorem heldHoleS_l0 : ∀ (n : Nat) (pre : List S64) (m : Int), 0 ≤ m → m + 3 * n ≤ 4611686018427387904 → pre.length + n ≤ 4611686018427387 →
    Ev (fun k => laws_heldHoleS.l0 k (pre ++ marksHole m n) m pre.length) (m + 3 * n) := by
  intro n
  induction n with
  | zero =>
    intro pre m h0 h1 h2
    refine Ev.fuel ?_
    have hn : ¬ ((pre.length : Int) < ((pre ++ marksHole m 0).length : Int)) := by simp [marksHole]
    simp only [laws_heldHoleS.l0, hn, ↓reduceIte]
    refine Ev.const ?_
    simp
  | succ n ih =>
    intro pre m h0 h1 h2
    have hlen : (pre ++ marksHole m (n + 1)).length = pre.length + (n + 1) := by simp [marksHole_len]
    have c1 : (pre.length : Int) < ((pre ++ marksHole m (n + 1)).length : Int) := by omega
    have c2 : (0 : Int) ≤ (pre.length : Int) := by omega
    have g : rd_T64 (pre ++ marksHole m (n + 1)) (pre.length : Int) = ⟨m, m + 1, m + 2⟩ := getD_mid _ _ _ _
    have a1 : wrap64 (m + 1) = m + 1 := w_id (by omega) (by omega)
    have a2 : wrap64 (m + 1 + 1) = m + 2 := by rw [w_id (by omega) (by omega)]; omega
    have a3 : wrap64 (m + 2 + 1) = m + 3 := by rw [w_id (by omega) (by omega)]; omega
    refine Ev.fuel ?_
    simp only [laws_heldHoleS.l0, c1, c2, ↓reduceIte, g, a1, a2, a3, wn pre.length (by omega)]
    have e := ih (pre ++ [⟨m, m + 1, m + 2⟩]) (m + 3) (by omega) (by omega) (by simp; omega)
    simp only [List.append_assoc, List.singleton_append, List.length_append, List.length_singleton] at e
    rw [show m + 3 * ((n + 1 : Nat) : Int) = m + 3 + 3 * (n : Int) by omega]
    exact e
theorem heldHoleS_ev (n : Nat) (m : Int) (h0 : 0 ≤ m) (h1 : m ≤ 1152921504606846976) (hl : n ≤ 1125899906842624) : Ev (fun k => laws_heldHoleS.f k (marksHole m n) m) (m + 3 * n) := by
  unfold laws_heldHoleS.f
  simpa using heldHoleS_l0 n [] m h0 (by omega) (by simpa using by omega)


end Go.Proofs.Ytbfehdhncncgdaa.F
