/- Written by a program of this session over the print of the loaded functions: what each Go function computes, and that the call comes to it. -/
import Derived.Test.YtgooeiibhhbboaaFFIN
import Derived.Test.YtgooeiibhhbboaaF0
namespace Go.Proofs.Ytgooeiibhhbboaa.F
open Go.RowKit Go.Proofs.YtgooeiibhhbboaaW.PrintWords Go.Proofs.YtgooeiibhhbboaaW.PrintLast Go.Proofs.YtgooeiibhhbboaaW.PrintMore
attribute [local go_sem] max2_int min2_int max_two min_two max_three min_three max_four min_four   -- for this text's walks alone
set_option linter.unusedVariables false
set_option linter.unusedSimpArgs false

--EXT FIN
def impl_Note.f (l0 : List (S90)) : Option (List (S90)) := SNote.cloneF l0
theorem impl_Note.calls (A0 : Option Addr) (c0 : Nat) (l0 : List (S90)) (r1 : List (S90)) (w : World) (hr0 : Kd.C k90 w A0 l0.length l0) (hc0 : l0.length ≤ c0) (h : impl_Note.f l0 = some r1) :
    Calls Try.prog 99 #[.slice A0 l0.length c0] w fun e w' => ∃ v0_ : Value, e = .returned v0_ ∧ Kd.R k90 90 w' w.heap.size (fun _ => True) v0_ r1 ∧ Below w.heap.size w w' := SNote.clone_calls A0 c0 l0 r1 w hr0 hc0 h


end Go.Proofs.Ytgooeiibhhbboaa.F
