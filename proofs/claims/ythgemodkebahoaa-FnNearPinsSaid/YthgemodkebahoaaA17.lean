/- BY EV: what the Go functions compute (read off the print), and that their calls come to it. No condition. -/
import Derived.Test.YthgemodkebahoaaAEU
import Derived.Test.YthgemodkebahoaaA16
set_option linter.unusedVariables false
set_option linter.unusedSimpArgs false
namespace Go.Proofs.Ythgemodkebahoaa.A
open Go.RowKit Go.Proofs Go.Proofs.YthgemodkebahoaaW.PrintWords Go.Proofs.YthgemodkebahoaaW.PrintLast EV
def spec_DrawGreatestGap.f (k : Nat) (l0 : List Int) : Option (List (S39)) := (spec_DrawArePins.f k l0).bind fun t4 => (some t4)
set_option maxRecDepth 40000 in
set_option maxHeartbeats 4000000 in
theorem spec_DrawGreatestGap.con (k : Nat) (l0 : List Int) (r1 : List (S39)) (H : spec_DrawGreatestGap.f k l0 = some r1) : Con Try.prog 5 [.p (.c (.sl (.int .u8) l0))] (.p (.c (.ow 39 K39 r1))) := by
  refine Con.mk' (fn := Try.f5) Try.func5 rfl (by kernel_rfl) rfl rfl rfl fun X w0 gs hF => ?_
  unfold spec_DrawGreatestGap.f at H
  exact auto
instance spec_DrawGreatestGap.ctr {k : Nat} {l0 : List Int} {t_ : List (S39)} : Ctr (spec_DrawGreatestGap.f k l0 = some t_) (Con Try.prog 5 [.p (.c (.sl (.int .u8) l0))] (.p (.c (.ow 39 K39 t_)))) := ⟨fun h => spec_DrawGreatestGap.con _ _ _ h⟩

end Go.Proofs.Ythgemodkebahoaa.A
