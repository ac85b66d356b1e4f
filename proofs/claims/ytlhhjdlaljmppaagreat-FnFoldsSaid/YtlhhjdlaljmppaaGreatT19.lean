/- BY EV: what the Go functions compute (read off the print), and that their calls come to it. No condition. -/
import Derived.Test.YtlhhjdlaljmppaaGreatTEU
import Derived.Test.YtlhhjdlaljmppaaGreatT18
set_option linter.unusedVariables false
set_option linter.unusedSimpArgs false
namespace Go.Proofs.YtlhhjdlaljmppaaGreat.T
open Go.RowKit Go.Proofs Go.Proofs.YtlhhjdlaljmppaaGreatW.PrintWords Go.Proofs.YtlhhjdlaljmppaaGreatW.PrintLast EV
def spec_DrawFoldScore.f (k : Nat) (l0 : List Int) : Option (List Int × Int × List (S47)) := (spec_DrawLossTable.f k l0).bind fun t => (some (t.1, t.2.1, t.2.2))
set_option maxRecDepth 40000 in
set_option maxHeartbeats 4000000 in
theorem spec_DrawFoldScore.con (k : Nat) (l0 : List Int) (r1 : List Int) (r2 : Int) (r3 : List (S47)) (H : spec_DrawFoldScore.f k l0 = some (r1, r2, r3)) : Con Tryz.prog 12 [.p (.c (.sl (.int .u8) l0))] (.tp [.ag [.ow 3 (.int .i64) r1, .v (.int .i64 r2)], .c (.ow 47 K47 r3)]) := by
  refine Con.mk' (fn := Tryz.f12) Tryz.func12 rfl (by kernel_rfl) rfl rfl rfl fun X w0 gs hF => ?_
  unfold spec_DrawFoldScore.f at H
  exact auto
instance spec_DrawFoldScore.ctr {k : Nat} {l0 : List Int} {t_ : List Int × Int × List (S47)} : Ctr (spec_DrawFoldScore.f k l0 = some t_) (Con Tryz.prog 12 [.p (.c (.sl (.int .u8) l0))] (.tp [.ag [.ow 3 (.int .i64) t_.1, .v (.int .i64 t_.2.1)], .c (.ow 47 K47 t_.2.2)])) := ⟨fun h => spec_DrawFoldScore.con _ _ _ _ _ h⟩

end Go.Proofs.YtlhhjdlaljmppaaGreat.T
