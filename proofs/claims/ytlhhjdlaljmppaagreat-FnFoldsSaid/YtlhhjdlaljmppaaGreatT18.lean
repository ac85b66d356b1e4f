/- BY EV: what the Go functions compute (read off the print), and that their calls come to it. No condition. -/
import Derived.Test.YtlhhjdlaljmppaaGreatTEU
import Derived.Test.YtlhhjdlaljmppaaGreatT3
import Derived.Test.YtlhhjdlaljmppaaGreatT6
import Derived.Test.YtlhhjdlaljmppaaGreatT17
set_option linter.unusedVariables false
set_option linter.unusedSimpArgs false
namespace Go.Proofs.YtlhhjdlaljmppaaGreat.T
open Go.RowKit Go.Proofs Go.Proofs.YtlhhjdlaljmppaaGreatW.PrintWords Go.Proofs.YtlhhjdlaljmppaaGreatW.PrintLast EV
def spec_DrawLossTable.f (k : Nat) (l0 : List Int) : Option (List Int × Int × List (S47)) := (spec_l1Cur_scoreFor.f k l0 0 0).bind fun t1 => ((spec_l1Cur_one.f l0 t1.2.2.2.1 t1.2.2.2.2 3).bind fun t2 => (if t2.1 = true then ((spec_l1Cur_pick.f l0 t2.2.1 t2.2.2 25).bind fun t3 => ((spec_ntChanged.f k t1.2.2.1 (wrap64 (t3.1 - 12)) 0).bind fun t4 => (if t4.2 = true then ((spec_ntGood.f k t1.2.2.1).bind fun t5 => (if t5 = true then (some (t1.1, t1.2.1, t4.1)) else (some (t1.1, t1.2.1, t1.2.2.1)))) else (some (t1.1, t1.2.1, t1.2.2.1))))) else (some (t1.1, t1.2.1, t1.2.2.1))))
set_option maxRecDepth 40000 in
set_option maxHeartbeats 4000000 in
theorem spec_DrawLossTable.con (k : Nat) (l0 : List Int) (r1 : List Int) (r2 : Int) (r3 : List (S47)) (H : spec_DrawLossTable.f k l0 = some (r1, r2, r3)) : Con Tryz.prog 31 [.p (.c (.sl (.int .u8) l0))] (.tp [.ag [.ow 3 (.int .i64) r1, .v (.int .i64 r2)], .c (.ow 47 K47 r3)]) := by
  refine Con.mk' (fn := Tryz.f31) Tryz.func31 rfl (by kernel_rfl) rfl rfl rfl fun X w0 gs hF => ?_
  unfold spec_DrawLossTable.f at H
  exact auto
instance spec_DrawLossTable.ctr {k : Nat} {l0 : List Int} {t_ : List Int × Int × List (S47)} : Ctr (spec_DrawLossTable.f k l0 = some t_) (Con Tryz.prog 31 [.p (.c (.sl (.int .u8) l0))] (.tp [.ag [.ow 3 (.int .i64) t_.1, .v (.int .i64 t_.2.1)], .c (.ow 47 K47 t_.2.2)])) := ⟨fun h => spec_DrawLossTable.con _ _ _ _ _ h⟩

end Go.Proofs.YtlhhjdlaljmppaaGreat.T
