/- Plain facts on folded scores. No condition. -/
import Derived.Test.YtafapmanfncfkaaD0
import Derived.Test.YtafapmanfncfkaaD8
import Derived.Test.YtafapmanfncfkaaDQS2
import Derived.Test.YtafapmanfncfkaaDQN
set_option linter.unusedVariables false
set_option linter.unusedSimpArgs false
namespace Go.Proofs.Ytafapmanfncfkaa.D
open Go.RowKit Go.Proofs.YtafapmanfncfkaaW.PrintWords Go.Proofs.YtafapmanfncfkaaW.PrintLast Go.Proofs.YtafapmanfncfkaaW.PrintMore

def foldTo (l : List Int) (p : Int) : Int := if 24 ≤ p ∧ p ≤ 96 then near 12 p l (-1) else -1
def foldS (l : List Int) (b : Int) : List S55 → List S55 → Int → List S55 × Int
  | [], o, c => (o, c)
  | x :: xs, o, c => if foldTo l (x.f0 + b) = -1 then foldS l b xs o (c + 1) else if goodScore (SNote.srt (o ++ [⟨foldTo l (x.f0 + b), x.f1, x.f2⟩])) = true then foldS l b xs (SNote.srt (o ++ [⟨foldTo l (x.f0 + b), x.f1, x.f2⟩])) c else foldS l b xs o (c + 1)
theorem bad_score (o : List S55) (x : S55) (h : noteB x = false) : goodScore (SNote.srt (o ++ [x])) = false := by
  rw [Bool.eq_false_iff]
  intro hg
  rw [srt_of_good _ hg] at hg
  have := goodScore_all hg x ((SA.isort_perm SNote.ltB (o ++ [x])).mem_iff.2 (by simp))
  rw [h] at this
  cases this
theorem foldS_len (l : List Int) (b : Int) : ∀ (xs o : List S55) (c : Int), o.length ≤ 30 → (foldS l b xs o c).1.length ≤ 30 := by
  intro xs
  induction xs with
  | nil => intro o c h; exact h
  | cons x xs ih =>
    intro o c h
    unfold foldS
    split
    · exact ih _ _ h
    · split
      · rename_i hg
        exact ih _ _ (goodScore_len hg)
      · exact ih _ _ h
theorem trFold_l0 (l : List Int) (r b : Int) (s : List S55) (hl : l.length ≤ 1048576) (ha : ∀ x ∈ l, 24 ≤ x ∧ x ≤ 96) (hs : s.length ≤ 30) (hn : ∀ x ∈ s, noteB x = true) (hb : -100 ≤ b ∧ b ≤ 100) : ∀ (suf pre o : List S55) (c : Int), pre ++ suf = s → o.length ≤ 30 → 0 ≤ c → c ≤ pre.length →
    Ev (fun k => spec_trFold.l0 k b o c s s.length pre.length l r) (foldS l b suf o c) := by
  intro suf
  induction suf with
  | nil =>
    intro pre o c h ho h0 h1
    have hn : ¬ ((pre.length : Int) < (s.length : Int)) := by rw [← h]; simp
    refine Ev.fuel ?_
    simp only [spec_trFold.l0, hn, ↓reduceIte, foldS]
    exact Ev.now _
  | cons x suf ih =>
    intro pre o c h ho h0 h1
    have hlen : s.length = pre.length + (suf.length + 1) := by rw [← h]; simp
    have c1 : (pre.length : Int) < (s.length : Int) := by omega
    have c2 : (0 : Int) ≤ (pre.length : Int) := by omega
    have c3 : rd_T55 s (pre.length : Int) = x := by rw [← h]; exact getD_mid _ _ _ _
    have hx := (noteB_iff x).1 (hn x (by rw [← h]; simp))
    have w1 : wrap64 (x.f0 + b) = x.f0 + b := w_id (by omega) (by omega)
    have w2 : wrap64 (c + 1) = c + 1 := w_id (by omega) (by omega)
    have e : ∀ (o : List S55) (c' : Int), o.length ≤ 30 → 0 ≤ c' → c' ≤ c + 1 → Ev (fun k => spec_trFold.l0 k b o c' s s.length ((pre.length + 1 : Nat) : Int) l r) (foldS l b suf o c') := fun o c' hp hq hr => by
      simpa using ih (pre ++ [x]) o c' (by rw [← h]; simp) hp hq (by simp; omega)
    have J : Ev (fun k => spec_trFold.j1 k b o c (foldTo l (x.f0 + b)) s s.length pre.length l r x.f0 x.f1 x.f2) (foldS l b (x :: suf) o c) := by
      refine Ev.fuel ?_
      have q1 : o.length < 5864062014805 := by omega
      have q2 : o.length + 1 < 5864062014805 := by omega
      simp only [spec_trFold.j1, Option.bind_some, List.nil_append, List.length_nil, Nat.zero_add, q1, q2, List.length_cons, ↓reduceIte, wn pre.length (by omega), w2]
      refine Ev.bind (ntSorted_ev _ (by simp; omega)) ?_
      rw [scoreRes_srt]
      unfold foldS
      by_cases hg : goodScore (SNote.srt (o ++ [⟨foldTo l (x.f0 + b), x.f1, x.f2⟩])) = true
      · have hf : foldTo l (x.f0 + b) ≠ -1 := by
          intro hf
          rw [bad_score] at hg
          · cases hg
          · rw [Bool.eq_false_iff]; intro hy
            have := ((noteB_iff _).1 hy).1
            simp only [hf] at this
            omega
        simp only [hg, hf, ↓reduceIte]
        exact e _ _ (goodScore_len hg) h0 (by omega)
      · simp only [hg, Bool.false_eq_true, ↓reduceIte, ite_self]
        exact e _ _ ho (by omega) (by omega)
    refine Ev.fuel ?_
    simp only [spec_trFold.l0, c1, c2, c3, ↓reduceIte, w1, ntPitch_eq, Option.bind_some]
    by_cases hp : 24 ≤ x.f0 + b ∧ x.f0 + b ≤ 96
    · simp only [hp, and_self, decide_true, ↓reduceIte]
      refine Ev.bind (trNearest_ev l r 12 (x.f0 + b) hl ha (by omega) hp) ?_
      have : foldTo l (x.f0 + b) = near 12 (x.f0 + b) l (-1) := by unfold foldTo; rw [if_pos hp]
      rw [← this]
      exact J
    · simp only [hp, decide_false, Bool.false_eq_true, ↓reduceIte]
      have : foldTo l (x.f0 + b) = -1 := by unfold foldTo; rw [if_neg hp]
      rw [this] at J
      exact J
theorem trFold_ev (l : List Int) (r b : Int) (s : List S55) (hl : l.length ≤ 1048576) (ha : ∀ x ∈ l, 24 ≤ x ∧ x ≤ 96) (hs : s.length ≤ 30) (hn : ∀ x ∈ s, noteB x = true) (hb : -100 ≤ b ∧ b ≤ 100) : Ev (fun k => spec_trFold.f k l r s b) (foldS l b s [] 0) := by
  unfold spec_trFold.f
  exact trFold_l0 l r b s hl ha hs hn hb s [] [] 0 rfl (by simp) (by omega) (by simp)
theorem foldScore_l0 (l : List Int) (r : Int) (s : List S55) (hl : l.length ≤ 1048576) (ha : ∀ x ∈ l, 24 ≤ x ∧ x ≤ 96) (hs : s.length ≤ 1000) (hn : ∀ x ∈ s, noteB x = true) : ∀ (suf pre o : List S55) (c : Int), pre ++ suf = s → o.length ≤ 30 → 0 ≤ c → c ≤ pre.length →
    Ev (fun k => impl_foldScore.l0 k o c s s.length pre.length l r) (foldS l 0 suf o c) := by
  intro suf
  induction suf with
  | nil =>
    intro pre o c h ho h0 h1
    have hn : ¬ ((pre.length : Int) < (s.length : Int)) := by rw [← h]; simp
    refine Ev.fuel ?_
    simp only [impl_foldScore.l0, hn, ↓reduceIte, foldS]
    exact Ev.now _
  | cons x suf ih =>
    intro pre o c h ho h0 h1
    have hlen : s.length = pre.length + (suf.length + 1) := by rw [← h]; simp
    have c1 : (pre.length : Int) < (s.length : Int) := by omega
    have c2 : (0 : Int) ≤ (pre.length : Int) := by omega
    have c3 : rd_T55 s (pre.length : Int) = x := by rw [← h]; exact getD_mid _ _ _ _
    have hx := (noteB_iff x).1 (hn x (by rw [← h]; simp))
    have w2 : wrap64 (c + 1) = c + 1 := w_id (by omega) (by omega)
    have e : ∀ (o : List S55) (c' : Int), o.length ≤ 30 → 0 ≤ c' → c' ≤ c + 1 → Ev (fun k => impl_foldScore.l0 k o c' s s.length ((pre.length + 1 : Nat) : Int) l r) (foldS l 0 suf o c') := fun o c' hp hq hr => by
      simpa using ih (pre ++ [x]) o c' (by rw [← h]; simp) hp hq (by simp; omega)
    have hp : 24 ≤ x.f0 ∧ x.f0 ≤ 96 := ⟨hx.1, hx.2.1⟩
    have hto : foldTo l (x.f0 + 0) = near 12 x.f0 l (-1) := by unfold foldTo; rw [if_pos (by omega), Int.add_zero]
    have q1 : o.length + 1 < 5864062014805 := by omega
    refine Ev.fuel ?_
    simp only [impl_foldScore.l0, c1, c2, c3, ↓reduceIte]
    refine Ev.bind (foldPitch_ev l r x.f0 hl ha hp) ?_
    simp only [cloneNotes_eq o (by omega), Option.bind_some, List.length_cons, List.length_nil, Nat.zero_add, q1, ↓reduceIte, sortedNotes_eq (o ++ [⟨foldF x.f0 l 0, x.f1, x.f2⟩]) (by simp; omega), wn pre.length (by omega), w2]
    unfold foldS
    rw [hto]
    rcases fold_same x.f0 l (-1) 0 ha (Or.inl ⟨rfl, rfl⟩) with ⟨f1, f2⟩ | ⟨f1, f2, f3⟩
    · rw [if_pos f1]
      simp only [f2, ↓reduceIte]
      exact e _ _ ho (by omega) (by omega)
    · rw [f3, if_neg (by omega)]
      have hz : ¬ near 12 x.f0 l (-1) = 0 := by omega
      simp only [hz, ↓reduceIte]
      refine Ev.bind (IsScore_ev _ (by rw [srtN_len]; simp; omega)) ?_
      by_cases hg : goodScore (SNote.srt (o ++ [⟨near 12 x.f0 l (-1), x.f1, x.f2⟩])) = true
      · simp only [hg, ↓reduceIte]
        exact e _ _ (goodScore_len hg) h0 (by omega)
      · simp only [hg, Bool.false_eq_true, ↓reduceIte]
        exact e _ _ ho (by omega) (by omega)
theorem foldScore_ev (l : List Int) (r : Int) (s : List S55) (hl : l.length ≤ 1048576) (ha : ∀ x ∈ l, 24 ≤ x ∧ x ≤ 96) (hs : s.length ≤ 1000) (hn : ∀ x ∈ s, noteB x = true) : Ev (fun k => impl_foldScore.f k l r s) (foldS l 0 s [] 0) := by
  unfold impl_foldScore.f
  exact foldScore_l0 l r s hl ha hs hn s [] [] 0 rfl (by simp) (by omega) (by simp)
end Go.Proofs.Ytafapmanfncfkaa.D
