/- BY EV: what the Go functions compute (read off the print), and that their calls come to it. No condition. -/
import Derived.Test.YtlhhjdlaljmppaaTEU
import Derived.Test.YtlhhjdlaljmppaaT16
set_option linter.unusedVariables false
set_option linter.unusedSimpArgs false
namespace Go.Proofs.Ytlhhjdlaljmppaa.T
open Go.RowKit Go.Proofs Go.Proofs.YtlhhjdlaljmppaaW.PrintWords Go.Proofs.YtlhhjdlaljmppaaW.PrintLast EV
def spec_DrawBestTransposition.f (k : Nat) (l0 : List Int) : Option (List Int × Int × List (S60)) := (spec_DrawLossTable.f k l0).bind fun t => (some (t.1, t.2.1, t.2.2))
set_option maxRecDepth 40000 in
set_option maxHeartbeats 4000000 in
theorem spec_DrawBestTransposition.con (k : Nat) (l0 : List Int) (r1 : List Int) (r2 : Int) (r3 : List (S60)) (H : spec_DrawBestTransposition.f k l0 = some (r1, r2, r3)) : Con Try.prog 5 [.p (.c (.sl (.int .u8) l0))] (.tp [.ag [.ow 3 (.int .i64) r1, .v (.int .i64 r2)], .c (.ow 60 K60 r3)]) := by
  refine Con.mk' (fn := Try.f5) Try.func5 rfl (by kernel_rfl) rfl rfl rfl fun X w0 gs hF => ?_
  unfold spec_DrawBestTransposition.f at H
  exact auto
instance spec_DrawBestTransposition.ctr {k : Nat} {l0 : List Int} {t_ : List Int × Int × List (S60)} : Ctr (spec_DrawBestTransposition.f k l0 = some t_) (Con Try.prog 5 [.p (.c (.sl (.int .u8) l0))] (.tp [.ag [.ow 3 (.int .i64) t_.1, .v (.int .i64 t_.2.1)], .c (.ow 60 K60 t_.2.2)])) := ⟨fun h => spec_DrawBestTransposition.con _ _ _ _ _ h⟩

end Go.Proofs.Ytlhhjdlaljmppaa.T
