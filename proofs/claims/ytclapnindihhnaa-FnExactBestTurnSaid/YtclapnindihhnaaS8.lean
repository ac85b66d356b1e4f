/- Written by a program of this session over the print of the loaded functions: what each Go function computes, and that the call comes to it. -/
import Derived.Test.YtclapnindihhnaaSFHP
import Derived.Test.YtclapnindihhnaaS0
import Derived.Test.YtclapnindihhnaaS5
namespace Go.Proofs.Ytclapnindihhnaa.S
open Go.RowKit Go.Proofs.YtclapnindihhnaaW.PrintWords Go.Proofs.YtclapnindihhnaaW.PrintLast Go.Proofs.YtclapnindihhnaaW.PrintMore
attribute [local go_sem] max2_int min2_int max_two min_two max_three min_three max_four min_four   -- for this text's walks alone
set_option linter.unusedVariables false
set_option linter.unusedSimpArgs false

--EXT FHP
def impl_pinsOf.f (k : Nat) (l0 : List (S50)) : Option ((List (S50)) × Bool) := SPin.ofF k l0
theorem impl_pinsOf.mono : ∀ a0 k, LeO (impl_pinsOf.f k a0) (impl_pinsOf.f (k + 1) a0) := by
  intro a0 k r h
  unfold impl_pinsOf.f SPin.ofF at h ⊢
  split at h
  · rename_i hb
    rw [if_pos hb]
    obtain ⟨t, h1, h2⟩ := Option.bind_eq_some_iff.mp h
    exact Option.bind_eq_some_iff.mpr ⟨t, impl_ArePins.mono _ k t h1, h2⟩
  · cases h
theorem impl_pinsOf.calls (k : Nat) (A0 : Option Addr) (c0 : Nat) (l0 : List (S50)) (r1 : List (S50)) (r2 : Bool) (w : World) (hr0 : Kd.C k50 w A0 l0.length l0) (hc0 : l0.length ≤ c0) (h : impl_pinsOf.f k l0 = some (r1, r2)) :
    Calls Try.prog 65 #[.slice A0 l0.length c0] w fun e w' => ∃ v0_ : Value, e = .returned (.tuple #[v0_, .bool r2]) ∧ Kd.R k50 50 w' w.heap.size (fun _ => True) v0_ r1 ∧ Below w.heap.size w w' := SPin.of_calls k A0 c0 l0 r1 r2 w hr0 hc0 h


end Go.Proofs.Ytclapnindihhnaa.S
