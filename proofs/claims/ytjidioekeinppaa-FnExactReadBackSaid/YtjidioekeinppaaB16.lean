/- Written by a program of this session over the print of the loaded functions: what each Go function computes, and that the call comes to it. -/
import Derived.Test.YtjidioekeinppaaBFHN
import Derived.Test.YtjidioekeinppaaB0
namespace Go.Proofs.Ytjidioekeinppaa.B
open Go.RowKit Go.Proofs.YtjidioekeinppaaW.PrintWords Go.Proofs.YtjidioekeinppaaW.PrintLast Go.Proofs.YtjidioekeinppaaW.PrintMore
attribute [local go_sem] max2_int min2_int max_two min_two max_three min_three max_four min_four   -- for this text's walks alone
set_option linter.unusedVariables false
set_option linter.unusedSimpArgs false

--EXT FHN
def impl_sortedNotes.f (l0 : List (S37)) : Option (List (S37)) := SNote.ofF l0
theorem impl_sortedNotes.calls (A0 : Option Addr) (c0 : Nat) (l0 : List (S37)) (r1 : List (S37)) (w : World) (hr0 : Kd.C k37 w A0 l0.length l0) (hc0 : l0.length ≤ c0) (h : impl_sortedNotes.f l0 = some r1) :
  Calls Try.prog 96 #[.slice A0 l0.length c0] w fun e w' => ∃ v0_ : Value, e = .returned v0_ ∧ Kd.R k37 37 w' w.heap.size (fun _ => True) v0_ r1 ∧ Below w.heap.size w w' := SNote.of_calls A0 c0 l0 r1 w hr0 hc0 h


end Go.Proofs.Ytjidioekeinppaa.B
