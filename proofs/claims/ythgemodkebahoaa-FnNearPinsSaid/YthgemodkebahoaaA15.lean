/- BY EV: what the Go functions compute (read off the print), and that their calls come to it. No condition. -/
import Derived.Test.YthgemodkebahoaaAEU
import Derived.Test.YthgemodkebahoaaA5
import Derived.Test.YthgemodkebahoaaA10
set_option linter.unusedVariables false
set_option linter.unusedSimpArgs false
namespace Go.Proofs.Ythgemodkebahoaa.A
open Go.RowKit Go.Proofs Go.Proofs.YthgemodkebahoaaW.PrintWords Go.Proofs.YthgemodkebahoaaW.PrintLast EV
def spec_DrawTuneOf.f (k : Nat) (l0 : List Int) : Option (List (S39) × Int) := (spec_l1Cur_pins.f k l0 0 0).bind fun t9 => ((spec_l1Cur_shiftOf.f l0 t9.2.1 t9.2.2).bind fun t11 => (some (t9.1, t11.1)))
set_option maxRecDepth 40000 in
set_option maxHeartbeats 4000000 in
theorem spec_DrawTuneOf.con (k : Nat) (l0 : List Int) (r1 : List (S39)) (r2 : Int) (H : spec_DrawTuneOf.f k l0 = some (r1, r2)) : Con Try.prog 18 [.p (.c (.sl (.int .u8) l0))] (.tp [.c (.ow 39 K39 r1), .c (.v (.int .i64 r2))]) := by
  refine Con.mk' (fn := Try.f18) Try.func18 rfl (by kernel_rfl) rfl rfl rfl fun X w0 gs hF => ?_
  unfold spec_DrawTuneOf.f at H
  exact auto
instance spec_DrawTuneOf.ctr {k : Nat} {l0 : List Int} {t_ : List (S39) × Int} : Ctr (spec_DrawTuneOf.f k l0 = some t_) (Con Try.prog 18 [.p (.c (.sl (.int .u8) l0))] (.tp [.c (.ow 39 K39 t_.1), .c (.v (.int .i64 t_.2))])) := ⟨fun h => spec_DrawTuneOf.con _ _ _ _ h⟩

end Go.Proofs.Ythgemodkebahoaa.A
