/- BY EV: what the Go functions compute (read off the print), and that their calls come to it. No condition. -/
import Derived.Test.YtgjpphcbdbfhlaaGreatLEU
import Derived.Test.YtgjpphcbdbfhlaaGreatLIB
set_option linter.unusedVariables false
set_option linter.unusedSimpArgs false
namespace Go.Proofs.YtgjpphcbdbfhlaaGreat.L
open Go.RowKit Go.Proofs Go.Proofs.YtgjpphcbdbfhlaaGreatW.PrintWords Go.Proofs.YtgjpphcbdbfhlaaGreatW.PrintLast EV
def impl_sortedSet.f (l0 : List Int) : Option (List Int) := SI.setF l0
theorem impl_sortedSet.calls (A0 : Option Addr) (c0 : Nat) (l0 : List Int) (r1 : List Int) (w : World) (hr0 : Kd.C (Kd.int .i64) w A0 l0.length l0) (hc0 : l0.length ≤ c0) (h : impl_sortedSet.f l0 = some r1) :
    Calls Tryz.prog 102 #[.slice A0 l0.length c0] w fun e w' => ∃ v0_ : Value, e = .returned v0_ ∧ Kd.R (Kd.int .i64) 3 w' w.heap.size (fun _ => True) v0_ r1 ∧ Below w.heap.size w w' := SI.set_calls A0 c0 l0 r1 w hr0 hc0 h
theorem impl_sortedSet.con (l0 : List Int) (r1 : List Int) (H : impl_sortedSet.f l0 = some r1) : Con Tryz.prog 102 [.p (.c (.sl (.int .i64) l0))] (.p (.c (.ow 3 (.int .i64) r1))) := Con.of_row (by kernel_rfl) rfl rfl fun A c w hr hc => impl_sortedSet.calls A c l0 r1 w hr hc H
instance impl_sortedSet.ctr {l0 : List Int} {r1 : List Int} : Ctr (impl_sortedSet.f l0 = some r1) (Con Tryz.prog 102 [.p (.c (.sl (.int .i64) l0))] (.p (.c (.ow 3 (.int .i64) r1)))) := ⟨impl_sortedSet.con _ _⟩
end Go.Proofs.YtgjpphcbdbfhlaaGreat.L
