/- BY EV: what the Go functions compute (read off the print), and that their calls come to it. No condition. -/
import Derived.Test.YtipcjpgonncinaaVEU
import Derived.Test.YtipcjpgonncinaaV2
import Derived.Test.YtipcjpgonncinaaV7
set_option linter.unusedVariables false
set_option linter.unusedSimpArgs false
namespace Go.Proofs.Ytipcjpgonncinaa.V
open Go.RowKit Go.Proofs Go.Proofs.YtipcjpgonncinaaW.PrintWords Go.Proofs.YtipcjpgonncinaaW.PrintLast EV
def spec_VoicesFor.l0 : Nat → List Int → Int → List (S51) → Int → Int → Option (Int × Bool)
  | 0, _, _, _, _, _ => none
  | k + 1, l0_0, a0_1, l1, a2, x8 => if x8 ≤ 20 then ((spec_thSearch.f k l0_0 a0_1 l1 x8).bind fun s => (if s.2.1 ≤ a2 then (some (x8, true)) else (spec_VoicesFor.l0 k l0_0 a0_1 l1 a2 (wrap64 (x8 + 1))))) else (some (0, false))
def spec_VoicesFor.f (k : Nat) (l0_0 : List Int) (a0_1 : Int) (l1 : List (S51)) (a2 : Int) : Option (Int × Bool) := (spec_inGood.f k l0_0 a0_1).bind fun t10 => (if t10 = true then ((spec_thGood.f k l1).bind fun t14 => (if t14 = true then ((spec_l1In.f a2 0 2000).bind fun t19 => (if t19 = true then (spec_VoicesFor.l0 k l0_0 a0_1 l1 a2 1) else (some (0, false)))) else (some (0, false)))) else (some (0, false)))
instance spec_VoicesFor.lp0 {k : Nat} {r : Int × Bool} {Q : Wr → Prop} {l0_0 : List Int} {a0_1 a2 : Int} {l1 : List (S51)} {x8 : Int} : Lp (spec_VoicesFor.l0 k l0_0 a0_1 l1 a2 x8 = some r) Q (fun k => ∀ {x8 : Int}, spec_VoicesFor.l0 k l0_0 a0_1 l1 a2 x8 = some r → Q [(16, .p (.c (.v (.int .i64 x8))))]) k [(16, .p (.c (.v (.int .i64 x8))))] := ⟨fun j h => j h⟩
set_option maxRecDepth 8000 in
set_option maxHeartbeats 2000000 in
theorem spec_VoicesFor.con (k : Nat) (l0_0 : List Int) (a0_1 : Int) (l1 : List (S51)) (a2 : Int) (r1 : Int) (r2 : Bool) (H : spec_VoicesFor.f k l0_0 a0_1 l1 a2 = some (r1, r2)) : Con Try.prog 21 [.p (.ag [.sl (.int .i64) l0_0, .v (.int .i64 a0_1)]), .p (.c (.sl K51 l1)), .p (.c (.v (.int .i64 a2)))] (.tp [.c (.v (.int .i64 r1)), .c (.v (.bool r2))]) := by
  refine Con.mk' (fn := Try.f21) Try.func21 rfl (by kernel_rfl) rfl rfl rfl fun X w0 gs hF => ?_
  unfold spec_VoicesFor.f at H
  exact auto
instance spec_VoicesFor.ctr {k : Nat} {l0_0 : List Int} {a0_1 : Int} {l1 : List (S51)} {a2 : Int} {t_ : Int × Bool} : Ctr (spec_VoicesFor.f k l0_0 a0_1 l1 a2 = some t_) (Con Try.prog 21 [.p (.ag [.sl (.int .i64) l0_0, .v (.int .i64 a0_1)]), .p (.c (.sl K51 l1)), .p (.c (.v (.int .i64 a2)))] (.tp [.c (.v (.int .i64 t_.1)), .c (.v (.bool t_.2))])) := ⟨fun h => spec_VoicesFor.con _ _ _ _ _ _ _ h⟩

end Go.Proofs.Ytipcjpgonncinaa.V
