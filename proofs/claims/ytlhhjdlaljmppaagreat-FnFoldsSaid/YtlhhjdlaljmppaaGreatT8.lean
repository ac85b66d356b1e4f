/- BY EV: what the Go functions compute (read off the print), and that their calls come to it. No condition. -/
import Derived.Test.YtlhhjdlaljmppaaGreatTEU
import Derived.Test.YtlhhjdlaljmppaaGreatTFJN
import Derived.Test.YtlhhjdlaljmppaaGreatT5
import Derived.Test.YtlhhjdlaljmppaaGreatT6
set_option linter.unusedVariables false
set_option linter.unusedSimpArgs false
namespace Go.Proofs.YtlhhjdlaljmppaaGreat.T
open Go.RowKit Go.Proofs Go.Proofs.YtlhhjdlaljmppaaGreatW.PrintWords Go.Proofs.YtlhhjdlaljmppaaGreatW.PrintLast EV
def spec_ntSorted.f (k : Nat) (l0 : List (S47)) : Option ((List (S47)) × Bool) := SNote.sortedF k l0
theorem spec_ntSorted.calls (k : Nat) (A0 : Option Addr) (c0 : Nat) (l0 : List (S47)) (r1 : List (S47)) (r2 : Bool) (w : World) (hr0 : Kd.C k47 w A0 l0.length l0) (hc0 : l0.length ≤ c0) (h : spec_ntSorted.f k l0 = some (r1, r2)) :
    Calls Tryz.prog 56 #[.slice A0 l0.length c0] w fun e w' => ∃ v0_ : Value, e = .returned (.tuple #[v0_, .bool r2]) ∧ Kd.R k47 47 w' w.heap.size (fun _ => True) v0_ r1 ∧ Below w.heap.size w w' := SNote.sorted_calls k A0 c0 l0 r1 r2 w hr0 hc0 h
theorem spec_ntSorted.con (k : Nat) (l0 : List (S47)) (r1 : List (S47)) (r2 : Bool) (H : spec_ntSorted.f k l0 = some (r1, r2)) : Con Tryz.prog 56 [.p (.c (.sl K47 l0))] (.tp [.c (.ow 47 K47 r1), .c (.v (.bool r2))]) := Con.of_row_bool (by kernel_rfl) rfl rfl fun A c w hr hc => spec_ntSorted.calls k A c l0 r1 r2 w hr hc H
instance spec_ntSorted.ctr {k : Nat} {l0 : List (S47)} {t_ : (List (S47)) × (Bool)} : Ctr (spec_ntSorted.f k l0 = some t_) (Con Tryz.prog 56 [.p (.c (.sl K47 l0))] (.tp [.c (.ow 47 K47 t_.1), .c (.v (.bool t_.2))])) := ⟨fun h => spec_ntSorted.con _ _ (t_.1) (t_.2) h⟩
end Go.Proofs.YtlhhjdlaljmppaaGreat.T
