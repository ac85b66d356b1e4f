/- Plain facts on the helpers that all laws of this seat use: bounds, copies, comparisons, marks. No condition. -/
import Derived.Test.YtipcjpgonncinaaV0
import Derived.Test.YtipcjpgonncinaaV1
import Derived.Test.YtipcjpgonncinaaV6
import Derived.Test.YtipcjpgonncinaaVQB
set_option linter.unusedVariables false
set_option linter.unusedSimpArgs false
namespace Go.Proofs.Ytipcjpgonncinaa.V
open Go.RowKit Go.Proofs.YtipcjpgonncinaaW.PrintWords Go.Proofs.YtipcjpgonncinaaW.PrintLast Go.Proofs.YtipcjpgonncinaaW.PrintMore

/-! slices of three numbers: S54 came in, S51 is the program's -/
abbrev cvNote (x : S54) : S51 := ⟨x.f0, x.f1, x.f2⟩

theorem szNoteS_cases (l : List S54) (a : Int) (h0 : 0 ≤ a) (h1 : a ≤ 1048576) (hb : l.length ≤ 9223372036854775807) :
    laws_szNoteS.f l a = some (-1) ∨ ∃ n, 0 ≤ n ∧ n ≤ a ∧ (l.length : Int) ≤ a ∧ laws_szNoteS.f l a = some n := by
  unfold laws_szNoteS.f
  by_cases h : (l.length : Int) ≤ a
  · refine Or.inr ⟨wrap64 (a - l.length), by unfold wrap64; omega, by unfold wrap64; omega, h, ?_⟩
    rw [if_neg (by unfold wrap64; omega)]
  · exact Or.inl (by rw [if_pos (by unfold wrap64; omega)])
theorem toNoteS_l0 (l : List S54) (hl : l.length ≤ 1048576) : ∀ (suf pre : List S54), pre ++ suf = l →
    Ev (fun k => laws_toNoteS.l0 k l (pre.map cvNote ++ List.replicate suf.length z51) pre.length) (l.map cvNote) := by
  intro suf
  induction suf with
  | nil =>
    intro pre h
    have hn : ¬ ((pre.length : Int) < (l.length : Int)) := by rw [← h]; simp
    refine Ev.fuel ?_
    simp only [laws_toNoteS.l0, hn, ↓reduceIte]
    refine Ev.const ?_
    rw [← h]; simp
  | cons x suf ih =>
    intro pre h
    have hlen : l.length = pre.length + (suf.length + 1) := by rw [← h]; simp
    have h1 : (pre.length : Int) < (l.length : Int) := by omega
    have h2 : (0 : Int) ≤ (pre.length : Int) := by omega
    have h3 : rd_T54 l (pre.length : Int) = x := by rw [← h]; exact getD_mid _ _ _ _
    have h4 : (pre.length : Int) < ((List.map cvNote pre ++ List.replicate (x :: suf).length z51).length : Int) := by simp; omega
    refine Ev.fuel ?_
    simp only [laws_toNoteS.l0, h1, h2, h3, h4, ↓reduceIte, laws_toNote.f, Option.bind_some, wn pre.length (by omega)]
    have e := ih (pre ++ [x]) (by rw [← h]; simp)
    have e2 : (List.map cvNote pre ++ List.replicate (x :: suf).length z51).set ((pre.length : Int)).toNat (⟨x.f0, x.f1, x.f2⟩ : S51) = (pre ++ [x]).map cvNote ++ List.replicate suf.length z51 := by
      simp [List.replicate_succ, List.set_append]
    rw [e2]
    simpa using e
theorem toNoteS_ev (l : List S54) (hl : l.length ≤ 1048576) : Ev (fun k => laws_toNoteS.f k l) (l.map cvNote) := by
  have h1 : (0 : Int) ≤ (l.length : Int) := by omega
  have h2 : ((l.length : Int)).toNat ≤ 11728124029610 := by omega
  unfold laws_toNoteS.f
  simp only [h1, h2, ↓reduceIte]
  simpa using toNoteS_l0 l hl l [] rfl

theorem eqNoteS_l0 (l : List S51) (hl : l.length ≤ 4611686018427387) : ∀ (suf pre : List S51), pre ++ suf = l → Ev (fun k => laws_eqNoteS.l0 k l l pre.length) true := by
  intro suf
  induction suf with
  | nil =>
    intro pre h
    have hn : ¬ ((pre.length : Int) < (l.length : Int)) := by rw [← h]; simp
    refine Ev.fuel ?_
    simp only [laws_eqNoteS.l0, hn, ↓reduceIte]
    exact Ev.now _
  | cons x suf ih =>
    intro pre h
    have hlen : l.length = pre.length + (suf.length + 1) := by rw [← h]; simp
    have h1 : (pre.length : Int) < (l.length : Int) := by omega
    have h2 : (0 : Int) ≤ (pre.length : Int) := by omega
    refine Ev.fuel ?_
    simp only [laws_eqNoteS.l0, h1, h2, ↓reduceIte, laws_eqNote.f, Option.bind_some, wn pre.length (by omega)]
    simpa using ih (pre ++ [x]) (by rw [← h]; simp)
theorem eqNoteS_ev (l : List S51) (hl : l.length ≤ 4611686018427387) : Ev (fun k => laws_eqNoteS.f k l l) true := by
  unfold laws_eqNoteS.f
  simp only [↓reduceIte]
  exact eqNoteS_l0 l hl l [] rfl

/-- What markNoteS writes from a number on. -/
def marksNote : Int → Nat → List S51
  | _, 0 => []
  | m, n + 1 => ⟨m, m + 1, m + 2⟩ :: marksNote (m + 3) n
theorem marksNote_len (n : Nat) : ∀ m, (marksNote m n).length = n := by
  induction n with
  | zero => intro m; rfl
  | succ n ih => intro m; simp [marksNote, ih]
theorem markNoteS_l0 : ∀ (suf pre : List S51) (m : Int), 0 ≤ m → m + 3 * suf.length ≤ 4611686018427387904 → (pre ++ suf).length ≤ 4611686018427387 →
    Ev (fun k => laws_markNoteS.l0 k (pre ++ suf) m pre.length) (m + 3 * suf.length, pre ++ marksNote m suf.length) := by
  intro suf
  induction suf with
  | nil =>
    intro pre m h0 h1 h2
    refine Ev.fuel ?_
    have hn : ¬ ((pre.length : Int) < ((pre ++ []).length : Int)) := by simp
    simp only [laws_markNoteS.l0, hn, ↓reduceIte]
    refine Ev.const ?_
    simp [marksNote]
  | cons x suf ih =>
    intro pre m h0 h1 h2
    have hlen : (pre ++ x :: suf).length = pre.length + (suf.length + 1) := by simp
    simp only [List.length_cons] at h1
    have c1 : (pre.length : Int) < ((pre ++ x :: suf).length : Int) := by omega
    have c2 : (0 : Int) ≤ (pre.length : Int) := by omega
    have s : ∀ (y u : S51), (pre ++ y :: suf).set ((pre.length : Int)).toNat u = pre ++ u :: suf := fun y u => by simp [List.set_append]
    have g : ∀ y : S51, rd_T51 (pre ++ y :: suf) (pre.length : Int) = y := fun y => getD_mid _ _ _ _
    have a1 : wrap64 (m + 1) = m + 1 := w_id (by omega) (by omega)
    have a2 : wrap64 (m + 1 + 1) = m + 2 := by rw [w_id (by omega) (by omega)]; omega
    have a3 : wrap64 (m + 2 + 1) = m + 3 := by rw [w_id (by omega) (by omega)]; omega
    refine Ev.fuel ?_
    simp only [laws_markNoteS.l0, c1, c2, ↓reduceIte, Option.bind_some, s, g, a1, a2, a3, wn pre.length (by omega)]
    have e := ih (pre ++ [⟨m, m + 1, m + 2⟩]) (m + 3) (by omega) (by omega) (by simp only [List.length_append, List.length_cons] at h2 ⊢; simp; omega)
    simp only [List.append_assoc, List.singleton_append, List.length_append, List.length_singleton, List.length_cons] at e ⊢
    rw [show m + 3 * ((suf.length + 1 : Nat) : Int) = m + 3 + 3 * (suf.length : Int) by omega]
    exact e
theorem markNoteS_ev (l : List S51) (m : Int) (h0 : 0 ≤ m) (h1 : m ≤ 1152921504606846976) (hl : l.length ≤ 1125899906842624) : Ev (fun k => laws_markNoteS.f k l m) (m + 3 * l.length, marksNote m l.length) := by
  unfold laws_markNoteS.f
  simpa using markNoteS_l0 l [] m h0 (by omega) (by simpa using by omega)

end Go.Proofs.Ytipcjpgonncinaa.V
