/- BY EV: what the Go functions compute (read off the print), and that their calls come to it. No condition. -/
import Derived.Test.YtlhhjdlaljmppaaTEU
import Derived.Test.YtlhhjdlaljmppaaTFJN
import Derived.Test.YtlhhjdlaljmppaaT3
import Derived.Test.YtlhhjdlaljmppaaT4
set_option linter.unusedVariables false
set_option linter.unusedSimpArgs false
namespace Go.Proofs.Ytlhhjdlaljmppaa.T
open Go.RowKit Go.Proofs Go.Proofs.YtlhhjdlaljmppaaW.PrintWords Go.Proofs.YtlhhjdlaljmppaaW.PrintLast EV
def spec_ntSorted.f (k : Nat) (l0 : List (S60)) : Option ((List (S60)) × Bool) := SNote.sortedF k l0
theorem spec_ntSorted.calls (k : Nat) (A0 : Option Addr) (c0 : Nat) (l0 : List (S60)) (r1 : List (S60)) (r2 : Bool) (w : World) (hr0 : Kd.C k60 w A0 l0.length l0) (hc0 : l0.length ≤ c0) (h : spec_ntSorted.f k l0 = some (r1, r2)) :
    Calls Try.prog 51 #[.slice A0 l0.length c0] w fun e w' => ∃ v0_ : Value, e = .returned (.tuple #[v0_, .bool r2]) ∧ Kd.R k60 60 w' w.heap.size (fun _ => True) v0_ r1 ∧ Below w.heap.size w w' := SNote.sorted_calls k A0 c0 l0 r1 r2 w hr0 hc0 h
theorem spec_ntSorted.con (k : Nat) (l0 : List (S60)) (r1 : List (S60)) (r2 : Bool) (H : spec_ntSorted.f k l0 = some (r1, r2)) : Con Try.prog 51 [.p (.c (.sl K60 l0))] (.tp [.c (.ow 60 K60 r1), .c (.v (.bool r2))]) := Con.of_row_bool (by kernel_rfl) rfl rfl fun A c w hr hc => spec_ntSorted.calls k A c l0 r1 r2 w hr hc H
instance spec_ntSorted.ctr {k : Nat} {l0 : List (S60)} {t_ : (List (S60)) × (Bool)} : Ctr (spec_ntSorted.f k l0 = some t_) (Con Try.prog 51 [.p (.c (.sl K60 l0))] (.tp [.c (.ow 60 K60 t_.1), .c (.v (.bool t_.2))])) := ⟨fun h => spec_ntSorted.con _ _ (t_.1) (t_.2) h⟩
end Go.Proofs.Ytlhhjdlaljmppaa.T
