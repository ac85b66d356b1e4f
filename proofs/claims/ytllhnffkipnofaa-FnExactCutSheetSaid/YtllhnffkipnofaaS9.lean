/- Written by a program of this session over the print of the loaded functions: what each Go function computes, and that the call comes to it. -/
import Derived.Test.YtllhnffkipnofaaSFIH
import Derived.Test.YtllhnffkipnofaaS0
namespace Go.Proofs.Ytllhnffkipnofaa.S
open Go.RowKit Go.Proofs.YtllhnffkipnofaaW.PrintWords Go.Proofs.YtllhnffkipnofaaW.PrintLast Go.Proofs.YtllhnffkipnofaaW.PrintMore
attribute [local go_sem] max2_int min2_int max_two min_two max_three min_three max_four min_four   -- for this text's walks alone
set_option linter.unusedVariables false
set_option linter.unusedSimpArgs false

--EXT FIH
def impl_Hole.f (l0 : List (S34)) : Option (List (S34)) := SHole.cloneF l0
theorem impl_Hole.calls (A0 : Option Addr) (c0 : Nat) (l0 : List (S34)) (r1 : List (S34)) (w : World) (hr0 : Kd.C k34 w A0 l0.length l0) (hc0 : l0.length ≤ c0) (h : impl_Hole.f l0 = some r1) :
    Calls Try.prog 39 #[.slice A0 l0.length c0] w fun e w' => ∃ v0_ : Value, e = .returned v0_ ∧ Kd.R k34 34 w' w.heap.size (fun _ => True) v0_ r1 ∧ Below w.heap.size w w' := SHole.clone_calls A0 c0 l0 r1 w hr0 hc0 h


end Go.Proofs.Ytllhnffkipnofaa.S
