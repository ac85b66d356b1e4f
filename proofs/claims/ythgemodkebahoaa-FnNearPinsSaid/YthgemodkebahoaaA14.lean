/- BY EV: what the Go functions compute (read off the print), and that their calls come to it. No condition. -/
import Derived.Test.YthgemodkebahoaaAEU
import Derived.Test.YthgemodkebahoaaA2
import Derived.Test.YthgemodkebahoaaA5
import Derived.Test.YthgemodkebahoaaA10
set_option linter.unusedVariables false
set_option linter.unusedSimpArgs false
namespace Go.Proofs.Ythgemodkebahoaa.A
open Go.RowKit Go.Proofs Go.Proofs.YthgemodkebahoaaW.PrintWords Go.Proofs.YthgemodkebahoaaW.PrintLast EV
def spec_DrawAddPin.f (k : Nat) (l0 : List Int) : Option (List (S39) × Int × Int × Int) := (spec_l1Cur_pins.f k l0 0 0).bind fun t11 => ((spec_l1Cur_pin.f l0 t11.2.1 t11.2.2).bind fun t13 => ((spec_l1Cur_one.f l0 t13.2.2.2.1 t13.2.2.2.2 16).bind fun t15 => (if t15.1 = true then ((spec_l1Cur_angleOf.f l0 t15.2.1 t15.2.2).bind fun t17 => ((spec_l1Cur_shiftOf.f l0 t17.2.1 t17.2.2).bind fun t20 => (some (t11.1, t13.1, t17.1, t20.1)))) else (some (t11.1, t13.1, t13.2.1, t13.2.2.1)))))
set_option maxRecDepth 40000 in
set_option maxHeartbeats 4000000 in
theorem spec_DrawAddPin.con (k : Nat) (l0 : List Int) (r1 : List (S39)) (r2 : Int) (r3 : Int) (r4 : Int) (H : spec_DrawAddPin.f k l0 = some (r1, r2, r3, r4)) : Con Try.prog 15 [.p (.c (.sl (.int .u8) l0))] (.tp [.c (.ow 39 K39 r1), .ag [.v (.int .i64 r2), .v (.int .i64 r3), .v (.int .i64 r4)]]) := by
  refine Con.mk' (fn := Try.f15) Try.func15 rfl (by kernel_rfl) rfl rfl rfl fun X w0 gs hF => ?_
  unfold spec_DrawAddPin.f at H
  exact auto
instance spec_DrawAddPin.ctr {k : Nat} {l0 : List Int} {t_ : List (S39) × Int × Int × Int} : Ctr (spec_DrawAddPin.f k l0 = some t_) (Con Try.prog 15 [.p (.c (.sl (.int .u8) l0))] (.tp [.c (.ow 39 K39 t_.1), .ag [.v (.int .i64 t_.2.1), .v (.int .i64 t_.2.2.1), .v (.int .i64 t_.2.2.2)]])) := ⟨fun h => spec_DrawAddPin.con _ _ _ _ _ _ h⟩

end Go.Proofs.Ythgemodkebahoaa.A
