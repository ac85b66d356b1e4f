/- Plain facts on the helpers that all laws of this seat use: bounds, copies, comparisons, marks. No condition. -/
import Derived.Test.YtafapmanfncfkaaD0
import Derived.Test.YtafapmanfncfkaaD1
import Derived.Test.YtafapmanfncfkaaD2
import Derived.Test.YtafapmanfncfkaaDQB
set_option linter.unusedVariables false
set_option linter.unusedSimpArgs false
namespace Go.Proofs.Ytafapmanfncfkaa.D
open Go.RowKit Go.Proofs.YtafapmanfncfkaaW.PrintWords Go.Proofs.YtafapmanfncfkaaW.PrintLast Go.Proofs.YtafapmanfncfkaaW.PrintMore

/-! slices of three numbers: S57 came in, S55 is the program's -/
abbrev cvNote (x : S57) : S55 := ⟨x.f0, x.f1, x.f2⟩

theorem szNoteS_cases (l : List S57) (a : Int) (h0 : 0 ≤ a) (h1 : a ≤ 1048576) (hb : l.length ≤ 9223372036854775807) :
    laws_szNoteS.f l a = some (-1) ∨ ∃ n, 0 ≤ n ∧ n ≤ a ∧ (l.length : Int) ≤ a ∧ laws_szNoteS.f l a = some n := by
  unfold laws_szNoteS.f
  by_cases h : (l.length : Int) ≤ a
  · refine Or.inr ⟨wrap64 (a - l.length), by unfold wrap64; omega, by unfold wrap64; omega, h, ?_⟩
    rw [if_neg (by unfold wrap64; omega)]
  · exact Or.inl (by rw [if_pos (by unfold wrap64; omega)])
theorem toNoteS_l0 (l : List S57) (hl : l.length ≤ 1048576) : ∀ (suf pre : List S57), pre ++ suf = l →
    Ev (fun k => laws_toNoteS.l0 k l (pre.map cvNote ++ List.replicate suf.length z55) pre.length) (l.map cvNote) := by
  intro suf
  induction suf with
  | nil =>
    intro pre h
    have hn : ¬ ((pre.length : Int) < (l.length : Int)) := by rw [← h]; simp
    refine Ev.fuel ?_
    simp only [laws_toNoteS.l0, hn, ↓reduceIte]
    refine Ev.const ?_
    rw [← h]; simp
  | cons x suf ih =>
    intro pre h
    have hlen : l.length = pre.length + (suf.length + 1) := by rw [← h]; simp
    have h1 : (pre.length : Int) < (l.length : Int) := by omega
    have h2 : (0 : Int) ≤ (pre.length : Int) := by omega
    have h3 : rd_T57 l (pre.length : Int) = x := by rw [← h]; exact getD_mid _ _ _ _
    have h4 : (pre.length : Int) < ((List.map cvNote pre ++ List.replicate (x :: suf).length z55).length : Int) := by simp; omega
    refine Ev.fuel ?_
    simp only [laws_toNoteS.l0, h1, h2, h3, h4, ↓reduceIte, laws_toNote.f, Option.bind_some, wn pre.length (by omega)]
    have e := ih (pre ++ [x]) (by rw [← h]; simp)
    have e2 : (List.map cvNote pre ++ List.replicate (x :: suf).length z55).set ((pre.length : Int)).toNat (⟨x.f0, x.f1, x.f2⟩ : S55) = (pre ++ [x]).map cvNote ++ List.replicate suf.length z55 := by
      simp [List.replicate_succ, List.set_append]
    rw [e2]
    simpa using e
theorem toNoteS_ev (l : List S57) (hl : l.length ≤ 1048576) : Ev (fun k => laws_toNoteS.f k l) (l.map cvNote) := by
  have h1 : (0 : Int) ≤ (l.length : Int) := by omega
  have h2 : ((l.length : Int)).toNat ≤ 11728124029610 := by omega
  unfold laws_toNoteS.f
  simp only [h1, h2, ↓reduceIte]
  simpa using toNoteS_l0 l hl l [] rfl

theorem eqNoteS_l0 (l : List S55) (hl : l.length ≤ 4611686018427387) : ∀ (suf pre : List S55), pre ++ suf = l → Ev (fun k => laws_eqNoteS.l0 k l l pre.length) true := by
  intro suf
  induction suf with
  | nil =>
    intro pre h
    have hn : ¬ ((pre.length : Int) < (l.length : Int)) := by rw [← h]; simp
    refine Ev.fuel ?_
    simp only [laws_eqNoteS.l0, hn, ↓reduceIte]
    exact Ev.now _
  | cons x suf ih =>
    intro pre h
    have hlen : l.length = pre.length + (suf.length + 1) := by rw [← h]; simp
    have h1 : (pre.length : Int) < (l.length : Int) := by omega
    have h2 : (0 : Int) ≤ (pre.length : Int) := by omega
    refine Ev.fuel ?_
    simp only [laws_eqNoteS.l0, h1, h2, ↓reduceIte, laws_eqNote.f, Option.bind_some, wn pre.length (by omega)]
    simpa using ih (pre ++ [x]) (by rw [← h]; simp)
theorem eqNoteS_ev (l : List S55) (hl : l.length ≤ 4611686018427387) : Ev (fun k => laws_eqNoteS.f k l l) true := by
  unfold laws_eqNoteS.f
  simp only [↓reduceIte]
  exact eqNoteS_l0 l hl l [] rfl


end Go.Proofs.Ytafapmanfncfkaa.D
