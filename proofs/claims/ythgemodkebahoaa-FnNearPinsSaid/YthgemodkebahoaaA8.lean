/- BY EV: what the Go functions compute (read off the print), and that their calls come to it. No condition. -/
import Derived.Test.YthgemodkebahoaaAEU
import Derived.Test.YthgemodkebahoaaAFIP
import Derived.Test.YthgemodkebahoaaA2
import Derived.Test.YthgemodkebahoaaA3
set_option linter.unusedVariables false
set_option linter.unusedSimpArgs false
namespace Go.Proofs.Ythgemodkebahoaa.A
open Go.RowKit Go.Proofs Go.Proofs.YthgemodkebahoaaW.PrintWords Go.Proofs.YthgemodkebahoaaW.PrintLast EV
def impl_Pin.f (l0 : List (S39)) : Option (List (S39)) := SPin.cloneF l0
theorem impl_Pin.calls (A0 : Option Addr) (c0 : Nat) (l0 : List (S39)) (r1 : List (S39)) (w : World) (hr0 : Kd.C k39 w A0 l0.length l0) (hc0 : l0.length ≤ c0) (h : impl_Pin.f l0 = some r1) :
    Calls Try.prog 43 #[.slice A0 l0.length c0] w fun e w' => ∃ v0_ : Value, e = .returned v0_ ∧ Kd.R k39 39 w' w.heap.size (fun _ => True) v0_ r1 ∧ Below w.heap.size w w' := SPin.clone_calls A0 c0 l0 r1 w hr0 hc0 h
theorem impl_Pin.con (l0 : List (S39)) (r1 : List (S39)) (H : impl_Pin.f l0 = some r1) : Con Try.prog 43 [.p (.c (.sl K39 l0))] (.p (.c (.ow 39 K39 r1))) := Con.of_row (by kernel_rfl) rfl rfl fun A c w hr hc => impl_Pin.calls A c l0 r1 w hr hc H
instance impl_Pin.ctr {l0 : List (S39)} {r1 : List (S39)} : Ctr (impl_Pin.f l0 = some r1) (Con Try.prog 43 [.p (.c (.sl K39 l0))] (.p (.c (.ow 39 K39 r1)))) := ⟨impl_Pin.con _ _⟩
end Go.Proofs.Ythgemodkebahoaa.A
