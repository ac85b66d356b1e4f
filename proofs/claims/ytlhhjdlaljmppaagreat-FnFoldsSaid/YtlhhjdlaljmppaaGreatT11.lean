/- BY EV: what the Go functions compute (read off the print), and that their calls come to it. No condition. -/
import Derived.Test.YtlhhjdlaljmppaaGreatTEU
import Derived.Test.YtlhhjdlaljmppaaGreatT3
set_option linter.unusedVariables false
set_option linter.unusedSimpArgs false
namespace Go.Proofs.YtlhhjdlaljmppaaGreat.T
open Go.RowKit Go.Proofs Go.Proofs.YtlhhjdlaljmppaaGreatW.PrintWords Go.Proofs.YtlhhjdlaljmppaaGreatW.PrintLast EV
def spec_DrawNearestPitch.f (k : Nat) (l0 : List Int) : Option (List Int × Int × Int) := (spec_l1Cur_anyInstrument.f k l0 0 0).bind fun t1 => ((spec_l1Cur_pick.f l0 t1.2.2.1 t1.2.2.2 73).bind fun t2 => ((spec_l1Cur_among.f l0 t2.2.1 t2.2.2 [23, 97]).bind fun t3 => ((spec_l1Cur_among.f l0 t3.2.1 t3.2.2 [60, 61, 66, 74, wrap64 (24 + t2.1), 24, 96, t3.1]).bind fun t4 => (some (t1.1, t1.2.1, t4.1)))))
set_option maxRecDepth 40000 in
set_option maxHeartbeats 4000000 in
theorem spec_DrawNearestPitch.con (k : Nat) (l0 : List Int) (r1 : List Int) (r2 : Int) (r3 : Int) (H : spec_DrawNearestPitch.f k l0 = some (r1, r2, r3)) : Con Tryz.prog 23 [.p (.c (.sl (.int .u8) l0))] (.tp [.ag [.ow 3 (.int .i64) r1, .v (.int .i64 r2)], .c (.v (.int .i64 r3))]) := by
  refine Con.mk' (fn := Tryz.f23) Tryz.func23 rfl (by kernel_rfl) rfl rfl rfl fun X w0 gs hF => ?_
  unfold spec_DrawNearestPitch.f at H
  exact auto
instance spec_DrawNearestPitch.ctr {k : Nat} {l0 : List Int} {t_ : List Int × Int × Int} : Ctr (spec_DrawNearestPitch.f k l0 = some t_) (Con Tryz.prog 23 [.p (.c (.sl (.int .u8) l0))] (.tp [.ag [.ow 3 (.int .i64) t_.1, .v (.int .i64 t_.2.1)], .c (.v (.int .i64 t_.2.2))])) := ⟨fun h => spec_DrawNearestPitch.con _ _ _ _ _ h⟩

end Go.Proofs.YtlhhjdlaljmppaaGreat.T
