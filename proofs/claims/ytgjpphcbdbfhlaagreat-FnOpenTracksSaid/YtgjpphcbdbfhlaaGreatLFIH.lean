/- slices.Clone at pins: what it hands back, at every slice. No condition. -/
import Derived.Test.YtgjpphcbdbfhlaaGreatLFFH
set_option linter.unusedVariables false
set_option linter.unusedSimpArgs false
namespace Go.Proofs.YtgjpphcbdbfhlaaGreat.SHole
open Go.Shelf Go.RowKit Go.Lib Go.Sort Go.Proofs Go.Proofs.YtgjpphcbdbfhlaaGreat.SA

def cloneF (l0 : List PN) : Option (List PN) := if l0.length ≤ 1048576 then some l0 else none
theorem clone_calls (A0 : Option Addr) (c0 : Nat) (l0 : List PN) (r1 : List PN) (w : World) (hr0 : Go.Proofs.YtgjpphcbdbfhlaaGreatW.PrintWords.Kd.C Go.Proofs.YtgjpphcbdbfhlaaGreat.L.k40 w A0 l0.length l0) (hc0 : l0.length ≤ c0) (h : cloneF l0 = some r1) :
    Calls Tryz.prog 91 #[.slice A0 l0.length c0] w fun e w' => ∃ v0_, e = .returned v0_ ∧ Go.Proofs.YtgjpphcbdbfhlaaGreatW.PrintWords.Kd.R Go.Proofs.YtgjpphcbdbfhlaaGreat.L.k40 40 w' w.heap.size (fun _ => True) v0_ r1 ∧ Go.RowKit.Below w.heap.size w w' := by
  unfold cloneF at h
  by_cases hb : l0.length ≤ 1048576
  · rw [if_pos hb] at h
    cases h
    cases A0 with
    | none =>
      have hl : l0 = [] := by
        rcases l0 with _ | ⟨x, xs⟩
        · rfl
        · obtain ⟨ad, e, _⟩ := hr0.2.2 (by simp)
          cases e
      subst hl
      have hc : Calls Tryz.prog 91 #[.slice none ([] : List PN).length c0] w fun e w' => e = .returned (.slice none 0 0) ∧ w' = w := AnyE.slices_Clone_nil Tryz.slCloneHole _ _ w
      refine hc.mono ?_
      rintro e w' ⟨rfl, rfl⟩
      exact ⟨_, rfl, Go.Proofs.YtgjpphcbdbfhlaaGreatW.PrintWords.Kd.R_nil _ _ _ _ _, Go.RowKit.Below.refl _ _⟩
    | some ad =>
      refine (clone_some c0 l0 w ad hr0 hb).mono ?_
      rintro e w' ⟨v', rfl, hown, _, hbl⟩
      exact ⟨v', rfl, ⟨fun _ _ => trivial, flat3 l0, hown, reps_flat3 _ _ _ l0⟩, hbl⟩
  · rw [if_neg hb] at h; cases h
end Go.Proofs.YtgjpphcbdbfhlaaGreat.SHole
