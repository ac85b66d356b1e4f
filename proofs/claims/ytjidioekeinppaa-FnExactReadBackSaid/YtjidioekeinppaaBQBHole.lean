/- Plain facts on the helpers that all laws of this seat use: bounds, copies, comparisons, marks. No condition. -/
import Derived.Test.YtjidioekeinppaaB0
import Derived.Test.YtjidioekeinppaaB1
import Derived.Test.YtjidioekeinppaaB2
import Derived.Test.YtjidioekeinppaaBQB
set_option linter.unusedVariables false
set_option linter.unusedSimpArgs false
namespace Go.Proofs.Ytjidioekeinppaa.B
open Go.RowKit Go.Proofs.YtjidioekeinppaaW.PrintWords Go.Proofs.YtjidioekeinppaaW.PrintLast Go.Proofs.YtjidioekeinppaaW.PrintMore

/-! slices of three numbers: S34 came in, S42 is the program's -/
abbrev cvHole (x : S34) : S42 := ⟨x.f0, x.f1, x.f2⟩

theorem szHoleS_cases (l : List S34) (a : Int) (h0 : 0 ≤ a) (h1 : a ≤ 1048576) (hb : l.length ≤ 9223372036854775807) :
    laws_szHoleS.f l a = some (-1) ∨ ∃ n, 0 ≤ n ∧ n ≤ a ∧ (l.length : Int) ≤ a ∧ laws_szHoleS.f l a = some n := by
  unfold laws_szHoleS.f
  by_cases h : (l.length : Int) ≤ a
  · refine Or.inr ⟨wrap64 (a - l.length), by unfold wrap64; omega, by unfold wrap64; omega, h, ?_⟩
    rw [if_neg (by unfold wrap64; omega)]
  · exact Or.inl (by rw [if_pos (by unfold wrap64; omega)])
theorem toHoleS_l0 (l : List S34) (hl : l.length ≤ 1048576) : ∀ (suf pre : List S34), pre ++ suf = l →
    Ev (fun k => laws_toHoleS.l0 k l (pre.map cvHole ++ List.replicate suf.length z42) pre.length) (l.map cvHole) := by
  intro suf
  induction suf with
  | nil =>
    intro pre h
    have hn : ¬ ((pre.length : Int) < (l.length : Int)) := by rw [← h]; simp
    refine Ev.fuel ?_
    simp only [laws_toHoleS.l0, hn, ↓reduceIte]
    refine Ev.const ?_
    rw [← h]; simp
  | cons x suf ih =>
    intro pre h
    have hlen : l.length = pre.length + (suf.length + 1) := by rw [← h]; simp
    have h1 : (pre.length : Int) < (l.length : Int) := by omega
    have h2 : (0 : Int) ≤ (pre.length : Int) := by omega
    have h3 : rd_T34 l (pre.length : Int) = x := by rw [← h]; exact getD_mid _ _ _ _
    have h4 : (pre.length : Int) < ((List.map cvHole pre ++ List.replicate (x :: suf).length z42).length : Int) := by simp; omega
    refine Ev.fuel ?_
    simp only [laws_toHoleS.l0, h1, h2, h3, h4, ↓reduceIte, laws_toHole.f, Option.bind_some, wn pre.length (by omega)]
    have e := ih (pre ++ [x]) (by rw [← h]; simp)
    have e2 : (List.map cvHole pre ++ List.replicate (x :: suf).length z42).set ((pre.length : Int)).toNat (⟨x.f0, x.f1, x.f2⟩ : S42) = (pre ++ [x]).map cvHole ++ List.replicate suf.length z42 := by
      simp [List.replicate_succ, List.set_append]
    rw [e2]
    simpa using e
theorem toHoleS_ev (l : List S34) (hl : l.length ≤ 1048576) : Ev (fun k => laws_toHoleS.f k l) (l.map cvHole) := by
  have h1 : (0 : Int) ≤ (l.length : Int) := by omega
  have h2 : ((l.length : Int)).toNat ≤ 11728124029610 := by omega
  unfold laws_toHoleS.f
  simp only [h1, h2, ↓reduceIte]
  simpa using toHoleS_l0 l hl l [] rfl

theorem eqHoleS_l0 (l : List S42) (hl : l.length ≤ 4611686018427387) : ∀ (suf pre : List S42), pre ++ suf = l → Ev (fun k => laws_eqHoleS.l0 k l l pre.length) true := by
  intro suf
  induction suf with
  | nil =>
    intro pre h
    have hn : ¬ ((pre.length : Int) < (l.length : Int)) := by rw [← h]; simp
    refine Ev.fuel ?_
    simp only [laws_eqHoleS.l0, hn, ↓reduceIte]
    exact Ev.now _
  | cons x suf ih =>
    intro pre h
    have hlen : l.length = pre.length + (suf.length + 1) := by rw [← h]; simp
    have h1 : (pre.length : Int) < (l.length : Int) := by omega
    have h2 : (0 : Int) ≤ (pre.length : Int) := by omega
    refine Ev.fuel ?_
    simp only [laws_eqHoleS.l0, h1, h2, ↓reduceIte, laws_eqHole.f, Option.bind_some, wn pre.length (by omega)]
    simpa using ih (pre ++ [x]) (by rw [← h]; simp)
theorem eqHoleS_ev (l : List S42) (hl : l.length ≤ 4611686018427387) : Ev (fun k => laws_eqHoleS.f k l l) true := by
  unfold laws_eqHoleS.f
  simp only [↓reduceIte]
  exact eqHoleS_l0 l hl l [] rfl

/-- What markHoleS writes from a number on. -/
def marksHole : Int → Nat → List S42
  | _, 0 => []
  | m, n + 1 => ⟨m, m + 1, m + 2⟩ :: marksHole (m + 3) n
theorem marksHole_len (n : Nat) : ∀ m, (marksHole m n).length = n := by
  induction n with
  | zero => intro m; rfl
  | succ n ih => intro m; simp [marksHole, ih]
theorem markHoleS_l0 : ∀ (suf pre : List S42) (m : Int), 0 ≤ m → m + 3 * suf.length ≤ 4611686018427387904 → (pre ++ suf).length ≤ 4611686018427387 →
    Ev (fun k => laws_markHoleS.l0 k (pre ++ suf) m pre.length) (m + 3 * suf.length, pre ++ marksHole m suf.length) := by
  intro suf
  induction suf with
  | nil =>
    intro pre m h0 h1 h2
    refine Ev.fuel ?_
    have hn : ¬ ((pre.length : Int) < ((pre ++ []).length : Int)) := by simp
    simp only [laws_markHoleS.l0, hn, ↓reduceIte]
    refine Ev.const ?_
    simp [marksHole]
  | cons x suf ih =>
    intro pre m h0 h1 h2
    have hlen : (pre ++ x :: suf).length = pre.length + (suf.length + 1) := by simp
    simp only [List.length_cons] at h1
    have c1 : (pre.length : Int) < ((pre ++ x :: suf).length : Int) := by omega
    have c2 : (0 : Int) ≤ (pre.length : Int) := by omega
    have s : ∀ (y u : S42), (pre ++ y :: suf).set ((pre.length : Int)).toNat u = pre ++ u :: suf := fun y u => by simp [List.set_append]
    have g : ∀ y : S42, rd_T42 (pre ++ y :: suf) (pre.length : Int) = y := fun y => getD_mid _ _ _ _
    have a1 : wrap64 (m + 1) = m + 1 := w_id (by omega) (by omega)
    have a2 : wrap64 (m + 1 + 1) = m + 2 := by rw [w_id (by omega) (by omega)]; omega
    have a3 : wrap64 (m + 2 + 1) = m + 3 := by rw [w_id (by omega) (by omega)]; omega
    refine Ev.fuel ?_
    simp only [laws_markHoleS.l0, c1, c2, ↓reduceIte, Option.bind_some, s, g, a1, a2, a3, wn pre.length (by omega)]
    have e := ih (pre ++ [⟨m, m + 1, m + 2⟩]) (m + 3) (by omega) (by omega) (by simp only [List.length_append, List.length_cons] at h2 ⊢; simp; omega)
    simp only [List.append_assoc, List.singleton_append, List.length_append, List.length_singleton, List.length_cons] at e ⊢
    rw [show m + 3 * ((suf.length + 1 : Nat) : Int) = m + 3 + 3 * (suf.length : Int) by omega]
    exact e
theorem markHoleS_ev (l : List S42) (m : Int) (h0 : 0 ≤ m) (h1 : m ≤ 1152921504606846976) (hl : l.length ≤ 1125899906842624) : Ev (fun k => laws_markHoleS.f k l m) (m + 3 * l.length, marksHole m l.length) := by
  unfold laws_markHoleS.f
  simpa using markHoleS_l0 l [] m h0 (by omega) (by simpa using by omega)

end Go.Proofs.Ytjidioekeinppaa.B
