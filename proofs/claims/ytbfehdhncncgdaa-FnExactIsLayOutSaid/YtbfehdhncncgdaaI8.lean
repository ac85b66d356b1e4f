/- BY EV: what the Go functions compute (read off the print), and that their calls come to it. No condition. -/
import Derived.Test.YtbfehdhncncgdaaIEU
import Derived.Test.YtbfehdhncncgdaaIFHH
import Derived.Test.YtbfehdhncncgdaaI3
import Derived.Test.YtbfehdhncncgdaaI6
set_option linter.unusedVariables false
set_option linter.unusedSimpArgs false
namespace Go.Proofs.Ytbfehdhncncgdaa.I
open Go.RowKit Go.Proofs Go.Proofs.YtbfehdhncncgdaaW.PrintWords Go.Proofs.YtbfehdhncncgdaaW.PrintLast EV
def impl_sheetOf.f (k : Nat) (l0 : List (S64)) : Option ((List (S64)) × Bool) := SHole.ofF k l0
theorem impl_sheetOf.calls (k : Nat) (A0 : Option Addr) (c0 : Nat) (l0 : List (S64)) (r1 : List (S64)) (r2 : Bool) (w : World) (hr0 : Kd.C k64 w A0 l0.length l0) (hc0 : l0.length ≤ c0) (h : impl_sheetOf.f k l0 = some (r1, r2)) :
    Calls Try.prog 60 #[.slice A0 l0.length c0] w fun e w' => ∃ v0_ : Value, e = .returned (.tuple #[v0_, .bool r2]) ∧ Kd.R k64 64 w' w.heap.size (fun _ => True) v0_ r1 ∧ Below w.heap.size w w' := SHole.of_calls k A0 c0 l0 r1 r2 w hr0 hc0 h
theorem impl_sheetOf.con (k : Nat) (l0 : List (S64)) (r1 : List (S64)) (r2 : Bool) (H : impl_sheetOf.f k l0 = some (r1, r2)) : Con Try.prog 60 [.p (.c (.sl K64 l0))] (.tp [.c (.ow 64 K64 r1), .c (.v (.bool r2))]) := Con.of_row_bool (by kernel_rfl) rfl rfl fun A c w hr hc => impl_sheetOf.calls k A c l0 r1 r2 w hr hc H
instance impl_sheetOf.ctr {k : Nat} {l0 : List (S64)} {t_ : (List (S64)) × (Bool)} : Ctr (impl_sheetOf.f k l0 = some t_) (Con Try.prog 60 [.p (.c (.sl K64 l0))] (.tp [.c (.ow 64 K64 t_.1), .c (.v (.bool t_.2))])) := ⟨fun h => impl_sheetOf.con _ _ (t_.1) (t_.2) h⟩
end Go.Proofs.Ytbfehdhncncgdaa.I
