/- Written by a program of this session over the print of the loaded functions: what each Go function computes, and that the call comes to it. -/
import Derived.Test.YtllhnffkipnofaaSFHH
import Derived.Test.YtllhnffkipnofaaS0
import Derived.Test.YtllhnffkipnofaaS5
namespace Go.Proofs.Ytllhnffkipnofaa.S
open Go.RowKit Go.Proofs.YtllhnffkipnofaaW.PrintWords Go.Proofs.YtllhnffkipnofaaW.PrintLast Go.Proofs.YtllhnffkipnofaaW.PrintMore
attribute [local go_sem] max2_int min2_int max_two min_two max_three min_three max_four min_four   -- for this text's walks alone
set_option linter.unusedVariables false
set_option linter.unusedSimpArgs false

--EXT FHH
def impl_sheetOf.f (k : Nat) (l0 : List (S34)) : Option ((List (S34)) × Bool) := SHole.ofF k l0
theorem impl_sheetOf.mono : ∀ a0 k, LeO (impl_sheetOf.f k a0) (impl_sheetOf.f (k + 1) a0) := by
  intro a0 k r h
  unfold impl_sheetOf.f SHole.ofF at h ⊢
  split at h
  · rename_i hb
    rw [if_pos hb]
    obtain ⟨t, h1, h2⟩ := Option.bind_eq_some_iff.mp h
    exact Option.bind_eq_some_iff.mpr ⟨t, impl_IsSheet.mono _ k t h1, h2⟩
  · rename_i hb; rw [if_neg hb]; exact h
theorem impl_sheetOf.calls (k : Nat) (A0 : Option Addr) (c0 : Nat) (l0 : List (S34)) (r1 : List (S34)) (r2 : Bool) (w : World) (hr0 : Kd.C k34 w A0 l0.length l0) (hc0 : l0.length ≤ c0) (h : impl_sheetOf.f k l0 = some (r1, r2)) :
    Calls Try.prog 38 #[.slice A0 l0.length c0] w fun e w' => ∃ v0_ : Value, e = .returned (.tuple #[v0_, .bool r2]) ∧ Kd.R k34 34 w' w.heap.size (fun _ => True) v0_ r1 ∧ Below w.heap.size w w' := SHole.of_calls k A0 c0 l0 r1 r2 w hr0 hc0 h


end Go.Proofs.Ytllhnffkipnofaa.S
