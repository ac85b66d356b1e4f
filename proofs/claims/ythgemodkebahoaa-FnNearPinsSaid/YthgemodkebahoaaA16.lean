/- BY EV: what the Go functions compute (read off the print), and that their calls come to it. No condition. -/
import Derived.Test.YthgemodkebahoaaAEU
import Derived.Test.YthgemodkebahoaaA10
set_option linter.unusedVariables false
set_option linter.unusedSimpArgs false
namespace Go.Proofs.Ythgemodkebahoaa.A
open Go.RowKit Go.Proofs Go.Proofs.YthgemodkebahoaaW.PrintWords Go.Proofs.YthgemodkebahoaaW.PrintLast EV
def spec_DrawArePins.f (k : Nat) (l0 : List Int) : Option (List (S39)) := (spec_l1Cur_pins.f k l0 0 0).bind fun t8 => (some t8.1)
set_option maxRecDepth 40000 in
set_option maxHeartbeats 4000000 in
theorem spec_DrawArePins.con (k : Nat) (l0 : List Int) (r1 : List (S39)) (H : spec_DrawArePins.f k l0 = some r1) : Con Try.prog 23 [.p (.c (.sl (.int .u8) l0))] (.p (.c (.ow 39 K39 r1))) := by
  refine Con.mk' (fn := Try.f23) Try.func23 rfl (by kernel_rfl) rfl rfl rfl fun X w0 gs hF => ?_
  unfold spec_DrawArePins.f at H
  exact auto
instance spec_DrawArePins.ctr {k : Nat} {l0 : List Int} {t_ : List (S39)} : Ctr (spec_DrawArePins.f k l0 = some t_) (Con Try.prog 23 [.p (.c (.sl (.int .u8) l0))] (.p (.c (.ow 39 K39 t_)))) := ⟨fun h => spec_DrawArePins.con _ _ _ h⟩

end Go.Proofs.Ythgemodkebahoaa.A
