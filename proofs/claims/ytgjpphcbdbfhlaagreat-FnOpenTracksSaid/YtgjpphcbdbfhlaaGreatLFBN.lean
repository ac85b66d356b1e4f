/- A family of structs of three whole numbers: cells, and the two comparisons. No condition. -/
import Derived.Test.YtgjpphcbdbfhlaaGreatLSB
import Derived.Test.YtgjpphcbdbfhlaaGreatLV
import Derived.Test.YtgjpphcbdbfhlaaGreatL0
import Derived.Test.YtgjpphcbdbfhlaaGreatL5
import Derived.Test.YtgjpphcbdbfhlaaGreatL6
import Derived.WalkKit
set_option linter.unusedVariables false
set_option linter.unusedSimpArgs false
namespace Go.Proofs.YtgjpphcbdbfhlaaGreat.SNote
open Go.RowKit Go.Sort Go.Proofs Go.Proofs.YtgjpphcbdbfhlaaGreat.SA
abbrev PN := Go.Proofs.YtgjpphcbdbfhlaaGreat.L.S36
instance : Inhabited PN := ⟨Go.Proofs.YtgjpphcbdbfhlaaGreat.L.z36⟩
def enc3 (x : PN) : List Value := [.int .i64 x.f0, .int .i64 x.f1, .int .i64 x.f2]
def ltB (a b : PN) : Bool := if a.f1 = b.f1 then decide (a.f0 < b.f0) else decide (a.f1 < b.f1)
theorem before_lt (a b : PN) : Go.Proofs.YtgjpphcbdbfhlaaGreat.L.spec_ntBefore.f a.f0 a.f1 a.f2 b.f0 b.f1 b.f2 = some (ltB a b) := by
  unfold Go.Proofs.YtgjpphcbdbfhlaaGreat.L.spec_ntBefore.f ltB
  (repeat' split) <;> first | rfl | (exfalso; omega) | (rw [Option.some.injEq, decide_eq_decide]; omega) | (rw [Option.some.injEq, eq_comm, decide_eq_true_eq]; omega) | (rw [Option.some.injEq, eq_comm, decide_eq_false_iff_not]; omega)
theorem less_lt (a b : PN) : Go.Proofs.YtgjpphcbdbfhlaaGreat.L.impl_noteLess.f a.f0 a.f1 a.f2 b.f0 b.f1 b.f2 = some (ltB a b) := by
  unfold Go.Proofs.YtgjpphcbdbfhlaaGreat.L.impl_noteLess.f ltB
  (repeat' split) <;> first | rfl | (exfalso; omega) | (rw [Option.some.injEq, decide_eq_decide]; omega) | (rw [Option.some.injEq, eq_comm, decide_eq_true_eq]; omega) | (rw [Option.some.injEq, eq_comm, decide_eq_false_iff_not]; omega)
theorem swo : SWO ltB := by
  refine ⟨fun x => ?_, fun x y z h1 h2 => ?_, fun x y z h1 h2 => ?_⟩
  · unfold ltB; simp
  · unfold ltB at h1 h2 ⊢
    split at h1 <;> split at h2 <;> split <;> (try split at h1) <;> (try split at h2) <;> (try split) <;> simp only [decide_eq_true_eq] at * <;> omega
  · unfold ltB at h1 h2 ⊢
    split at h1 <;> split at h2 <;> split <;> (try split at h1) <;> (try split at h2) <;> (try split) <;> simp only [decide_eq_false_iff_not] at * <;> omega
def flat3 (l : List PN) : List Value := l.flatMap enc3
theorem flat3_len (l : List PN) : (flat3 l).length = l.length * 3 := by
  induction l with
  | nil => rfl
  | cons x xs ih => simp only [flat3, List.flatMap_cons, List.length_append, List.length_cons] at *; rw [ih]; simp [enc3]; omega
theorem flat3_append (l r : List PN) : flat3 (l ++ r) = flat3 l ++ flat3 r := by simp [flat3]
theorem flat3_one (x : PN) : flat3 [x] = enc3 x := by simp [flat3]
theorem flat3_get (l : List PN) : ∀ (j i : Nat) (p : PN), l[j]? = some p → i < 3 → (flat3 l)[j * 3 + i]? = (enc3 p)[i]? := by
  induction l with
  | nil => intro j i p h; simp at h
  | cons x xs ih =>
    intro j i p h hi
    have e3 : (enc3 x).length = 3 := rfl
    cases j with
    | zero =>
      simp at h; subst h
      simp only [flat3, List.flatMap_cons, Nat.zero_mul, Nat.zero_add]
      rw [List.getElem?_append_left (by rw [e3]; exact hi)]
    | succ j =>
      simp only [List.getElem?_cons_succ] at h
      simp only [flat3, List.flatMap_cons]
      rw [List.getElem?_append_right (by rw [e3]; omega), e3, show (j + 1) * 3 + i - 3 = j * 3 + i by omega]
      exact ih j i p h hi
theorem flat3_one_cell (l : List PN) : ∀ u ∈ flat3 l, u.oneCell' = true := by
  intro u hu
  unfold flat3 at hu
  rw [List.mem_flatMap] at hu
  obtain ⟨x, _, hx⟩ := hu
  simp [enc3] at hx
  rcases hx with rfl | rfl | rfl <;> rfl
theorem reps_flat3 (w : World) (base : Nat) (ok : Nat → Prop) (l : List PN) : Go.Proofs.YtgjpphcbdbfhlaaGreatW.PrintWords.Reps (Go.Proofs.YtgjpphcbdbfhlaaGreat.L.k36.M w base ok) 3 l (flat3 l) := by
  refine ⟨flat3_len _, fun j p hj => ?_⟩
  have : ((flat3 l).drop (j * 3)).take 3 = enc3 p := by
    apply List.ext_getElem?
    intro i
    by_cases hi : i < 3
    · rw [List.getElem?_take_of_lt hi, List.getElem?_drop, flat3_get _ j i p hj hi]
    · rw [List.getElem?_take, if_neg hi, List.getElem?_eq_none (by show 3 ≤ i; omega)]
  rw [this]
  exact Go.Proofs.YtgjpphcbdbfhlaaGreat.L.k36_mkM _ _ _ p
/-- What is read of a row that came in: its cells. -/
theorem cells_of_C {w : World} {ad : Addr} {n : Nat} {l : List PN} (h : Go.Proofs.YtgjpphcbdbfhlaaGreatW.PrintWords.Kd.C Go.Proofs.YtgjpphcbdbfhlaaGreat.L.k36 w (some ad) n l) : ∀ j u, (flat3 l)[j]? = some u → w.cell? (ad.add j) = some u := by
  intro j u hj
  have hjl : j < l.length * 3 := by rw [← flat3_len]; exact (List.getElem?_eq_some_iff.mp hj).1
  have hn : l.length = n := h.1
  obtain ⟨ad', e1, hcell⟩ := h.2.2 (by omega)
  cases e1
  have h1 : j / 3 < l.length := by omega
  obtain ⟨c, hc, hK, hcc⟩ := hcell (j / 3) _ (List.getElem?_eq_getElem h1)
  have e := flat3_get l (j / 3) (j % 3) l[j / 3] (List.getElem?_eq_getElem h1) (by omega)
  rw [show j / 3 * 3 + j % 3 = j by omega, hj] at e
  have := hcc (j % 3) u (by rw [Go.Proofs.YtgjpphcbdbfhlaaGreat.L.k36_open hK]; exact e.symm)
  rw [show Go.Proofs.YtgjpphcbdbfhlaaGreat.L.k36.sz = 3 from rfl, show j / 3 * 3 + j % 3 = j by omega] at this
  exact this
theorem C_none {w : World} {n : Nat} {l : List PN} (h : Go.Proofs.YtgjpphcbdbfhlaaGreatW.PrintWords.Kd.C Go.Proofs.YtgjpphcbdbfhlaaGreat.L.k36 w none n l) : l = [] := by
  rcases l with _ | ⟨x, xs⟩
  · rfl
  · have hn : (x :: xs).length = n := h.1
    obtain ⟨ad, e, _⟩ := h.2.2 (by rw [← hn]; simp)
    cases e
theorem R_of_own {w : World} {base : Nat} {v : Value} {l : List PN} (h : w.ownsRow base 36 3 v l.length (flat3 l)) : Go.Proofs.YtgjpphcbdbfhlaaGreatW.PrintWords.Kd.R Go.Proofs.YtgjpphcbdbfhlaaGreat.L.k36 36 w base (fun _ => True) v l :=
  ⟨fun _ _ => trivial, flat3 l, h, reps_flat3 _ _ _ l⟩
end Go.Proofs.YtgjpphcbdbfhlaaGreat.SNote
