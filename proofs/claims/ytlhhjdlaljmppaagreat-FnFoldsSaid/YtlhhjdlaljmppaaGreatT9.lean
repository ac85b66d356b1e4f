/- BY EV: what the Go functions compute (read off the print), and that their calls come to it. No condition. -/
import Derived.Test.YtlhhjdlaljmppaaGreatTEU
import Derived.Test.YtlhhjdlaljmppaaGreatTFIN
import Derived.Test.YtlhhjdlaljmppaaGreatT5
import Derived.Test.YtlhhjdlaljmppaaGreatT6
set_option linter.unusedVariables false
set_option linter.unusedSimpArgs false
namespace Go.Proofs.YtlhhjdlaljmppaaGreat.T
open Go.RowKit Go.Proofs Go.Proofs.YtlhhjdlaljmppaaGreatW.PrintWords Go.Proofs.YtlhhjdlaljmppaaGreatW.PrintLast EV
def impl_Note.f (l0 : List (S47)) : Option (List (S47)) := SNote.cloneF l0
theorem impl_Note.calls (A0 : Option Addr) (c0 : Nat) (l0 : List (S47)) (r1 : List (S47)) (w : World) (hr0 : Kd.C k47 w A0 l0.length l0) (hc0 : l0.length ≤ c0) (h : impl_Note.f l0 = some r1) :
    Calls Tryz.prog 55 #[.slice A0 l0.length c0] w fun e w' => ∃ v0_ : Value, e = .returned v0_ ∧ Kd.R k47 47 w' w.heap.size (fun _ => True) v0_ r1 ∧ Below w.heap.size w w' := SNote.clone_calls A0 c0 l0 r1 w hr0 hc0 h
theorem impl_Note.con (l0 : List (S47)) (r1 : List (S47)) (H : impl_Note.f l0 = some r1) : Con Tryz.prog 55 [.p (.c (.sl K47 l0))] (.p (.c (.ow 47 K47 r1))) := Con.of_row (by kernel_rfl) rfl rfl fun A c w hr hc => impl_Note.calls A c l0 r1 w hr hc H
instance impl_Note.ctr {l0 : List (S47)} {r1 : List (S47)} : Ctr (impl_Note.f l0 = some r1) (Con Tryz.prog 55 [.p (.c (.sl K47 l0))] (.p (.c (.ow 47 K47 r1)))) := ⟨impl_Note.con _ _⟩
end Go.Proofs.YtlhhjdlaljmppaaGreat.T
