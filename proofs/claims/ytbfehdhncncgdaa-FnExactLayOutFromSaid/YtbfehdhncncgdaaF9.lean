/- BY EV: what the Go functions compute (read off the print), and that their calls come to it. No condition. -/
import Derived.Test.YtbfehdhncncgdaaFEU
import Derived.Test.YtbfehdhncncgdaaFFIH
import Derived.Test.YtbfehdhncncgdaaF4
import Derived.Test.YtbfehdhncncgdaaF5
set_option linter.unusedVariables false
set_option linter.unusedSimpArgs false
namespace Go.Proofs.Ytbfehdhncncgdaa.F
open Go.RowKit Go.Proofs Go.Proofs.YtbfehdhncncgdaaW.PrintWords Go.Proofs.YtbfehdhncncgdaaW.PrintLast EV
def impl_Hole.f (l0 : List (S64)) : Option (List (S64)) := SHole.cloneF l0
theorem impl_Hole.calls (A0 : Option Addr) (c0 : Nat) (l0 : List (S64)) (r1 : List (S64)) (w : World) (hr0 : Kd.C k64 w A0 l0.length l0) (hc0 : l0.length ≤ c0) (h : impl_Hole.f l0 = some r1) :
    Calls Try.prog 61 #[.slice A0 l0.length c0] w fun e w' => ∃ v0_ : Value, e = .returned v0_ ∧ Kd.R k64 64 w' w.heap.size (fun _ => True) v0_ r1 ∧ Below w.heap.size w w' := SHole.clone_calls A0 c0 l0 r1 w hr0 hc0 h
theorem impl_Hole.con (l0 : List (S64)) (r1 : List (S64)) (H : impl_Hole.f l0 = some r1) : Con Try.prog 61 [.p (.c (.sl K64 l0))] (.p (.c (.ow 64 K64 r1))) := Con.of_row (by kernel_rfl) rfl rfl fun A c w hr hc => impl_Hole.calls A c l0 r1 w hr hc H
instance impl_Hole.ctr {l0 : List (S64)} {r1 : List (S64)} : Ctr (impl_Hole.f l0 = some r1) (Con Try.prog 61 [.p (.c (.sl K64 l0))] (.p (.c (.ow 64 K64 r1)))) := ⟨impl_Hole.con _ _⟩
end Go.Proofs.Ytbfehdhncncgdaa.F
