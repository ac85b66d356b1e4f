/- BY EV: what the Go functions compute (read off the print), and that their calls come to it. No condition. -/
import Derived.Test.YthgemodkebahoaaAEU
import Derived.Test.YthgemodkebahoaaAFHP
import Derived.Test.YthgemodkebahoaaA2
import Derived.Test.YthgemodkebahoaaA3
set_option linter.unusedVariables false
set_option linter.unusedSimpArgs false
namespace Go.Proofs.Ythgemodkebahoaa.A
open Go.RowKit Go.Proofs Go.Proofs.YthgemodkebahoaaW.PrintWords Go.Proofs.YthgemodkebahoaaW.PrintLast EV
def impl_pinsOf.f (k : Nat) (l0 : List (S39)) : Option ((List (S39)) × Bool) := SPin.ofF k l0
theorem impl_pinsOf.calls (k : Nat) (A0 : Option Addr) (c0 : Nat) (l0 : List (S39)) (r1 : List (S39)) (r2 : Bool) (w : World) (hr0 : Kd.C k39 w A0 l0.length l0) (hc0 : l0.length ≤ c0) (h : impl_pinsOf.f k l0 = some (r1, r2)) :
    Calls Try.prog 42 #[.slice A0 l0.length c0] w fun e w' => ∃ v0_ : Value, e = .returned (.tuple #[v0_, .bool r2]) ∧ Kd.R k39 39 w' w.heap.size (fun _ => True) v0_ r1 ∧ Below w.heap.size w w' := SPin.of_calls k A0 c0 l0 r1 r2 w hr0 hc0 h
theorem impl_pinsOf.con (k : Nat) (l0 : List (S39)) (r1 : List (S39)) (r2 : Bool) (H : impl_pinsOf.f k l0 = some (r1, r2)) : Con Try.prog 42 [.p (.c (.sl K39 l0))] (.tp [.c (.ow 39 K39 r1), .c (.v (.bool r2))]) := Con.of_row_bool (by kernel_rfl) rfl rfl fun A c w hr hc => impl_pinsOf.calls k A c l0 r1 r2 w hr hc H
instance impl_pinsOf.ctr {k : Nat} {l0 : List (S39)} {t_ : (List (S39)) × (Bool)} : Ctr (impl_pinsOf.f k l0 = some t_) (Con Try.prog 42 [.p (.c (.sl K39 l0))] (.tp [.c (.ow 39 K39 t_.1), .c (.v (.bool t_.2))])) := ⟨fun h => impl_pinsOf.con _ _ (t_.1) (t_.2) h⟩
end Go.Proofs.Ythgemodkebahoaa.A
