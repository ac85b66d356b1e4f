/- BY EV: what the Go functions compute (read off the print), and that their calls come to it. No condition. -/
import Derived.Test.YtlhhjdlaljmppaaTEU
import Derived.Test.YtlhhjdlaljmppaaT3
import Derived.Test.YtlhhjdlaljmppaaT14
set_option linter.unusedVariables false
set_option linter.unusedSimpArgs false
namespace Go.Proofs.Ytlhhjdlaljmppaa.T
open Go.RowKit Go.Proofs Go.Proofs.YtlhhjdlaljmppaaW.PrintWords Go.Proofs.YtlhhjdlaljmppaaW.PrintLast EV
def spec_DrawTransposeLoss.f (k : Nat) (l0 : List Int) : Option (List Int × Int × List (S60) × Int) := (spec_l1Cur_scoreFor.f k l0 0 0).bind fun t1 => ((spec_l1Cur_among.f l0 t1.2.2.2.1 t1.2.2.2.2 [24, 25, -24, -25]).bind fun t2 => ((spec_l1Cur_among.f l0 t2.2.1 t2.2.2 [0, 1, -1, 5, 12, -12, t2.1]).bind fun t3 => (some (t1.1, t1.2.1, t1.2.2.1, t3.1))))
set_option maxRecDepth 40000 in
set_option maxHeartbeats 4000000 in
theorem spec_DrawTransposeLoss.con (k : Nat) (l0 : List Int) (r1 : List Int) (r2 : Int) (r3 : List (S60)) (r4 : Int) (H : spec_DrawTransposeLoss.f k l0 = some (r1, r2, r3, r4)) : Con Try.prog 15 [.p (.c (.sl (.int .u8) l0))] (.tp [.ag [.ow 3 (.int .i64) r1, .v (.int .i64 r2)], .c (.ow 60 K60 r3), .c (.v (.int .i64 r4))]) := by
  refine Con.mk' (fn := Try.f15) Try.func15 rfl (by kernel_rfl) rfl rfl rfl fun X w0 gs hF => ?_
  unfold spec_DrawTransposeLoss.f at H
  exact auto
instance spec_DrawTransposeLoss.ctr {k : Nat} {l0 : List Int} {t_ : List Int × Int × List (S60) × Int} : Ctr (spec_DrawTransposeLoss.f k l0 = some t_) (Con Try.prog 15 [.p (.c (.sl (.int .u8) l0))] (.tp [.ag [.ow 3 (.int .i64) t_.1, .v (.int .i64 t_.2.1)], .c (.ow 60 K60 t_.2.2.1), .c (.v (.int .i64 t_.2.2.2))])) := ⟨fun h => spec_DrawTransposeLoss.con _ _ _ _ _ _ h⟩

end Go.Proofs.Ytlhhjdlaljmppaa.T
