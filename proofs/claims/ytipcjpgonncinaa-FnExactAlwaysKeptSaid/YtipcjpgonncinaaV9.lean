/- BY EV: what the Go functions compute (read off the print), and that their calls come to it. No condition. -/
import Derived.Test.YtipcjpgonncinaaVEU
import Derived.Test.YtipcjpgonncinaaV6
import Derived.Test.YtipcjpgonncinaaV7
set_option linter.unusedVariables false
set_option linter.unusedSimpArgs false
namespace Go.Proofs.Ytipcjpgonncinaa.V
open Go.RowKit Go.Proofs Go.Proofs.YtipcjpgonncinaaW.PrintWords Go.Proofs.YtipcjpgonncinaaW.PrintLast EV
def spec_AlwaysKept.l0 : Nat → List Int → List Bool → Int → Int → Option (List Int × Bool)
  | 0, _, _, _, _ => none
  | k + 1, x8, x22, x23, x24 => if x24 < x23 then (if 0 ≤ x24 then (if x24 < (x22.length : Int) then (if rdOf false x22 x24 = true then (if x8.length < 17592186044416 then (spec_AlwaysKept.l0 k (x8 ++ [x24]) x22 x23 (wrap64 (x24 + 1))) else (none)) else (spec_AlwaysKept.l0 k x8 x22 x23 (wrap64 (x24 + 1)))) else (none)) else (none)) else (some (x8, true))
def spec_AlwaysKept.f (k : Nat) (l0_0 : List Int) (a0_1 : Int) (l1 : List (S51)) (a2 : Int) : Option (List Int × Bool) := (spec_thAsked.f k l0_0 a0_1 l1 a2).bind fun t14 => (if t14 = true then ((spec_thSearch.f k l0_0 a0_1 l1 a2).bind fun s => (spec_AlwaysKept.l0 k ([] : List Int) s.2.2 (s.2.2.length : Int) 0)) else (some (([] : List Int), false)))
instance spec_AlwaysKept.lp0 {k : Nat} {r : List Int × Bool} {Q : Wr → Prop} {p22 : List Bool} {p23 : Int} {x8 : List Int} {x24 : Int} : Lp (spec_AlwaysKept.l0 k x8 p22 p23 x24 = some r) Q (fun k => ∀ {x8 : List Int} {x24 : Int}, spec_AlwaysKept.l0 k x8 p22 p23 x24 = some r → Q [(16, .p (.c (.rp (Try.f23.ntmps + 8)))), (2 * (Try.f23.ntmps + 8) + 1, .row 3 (.int .i64) x8), (48, .p (.c (.v (.int .i64 x24))))]) k [(16, .p (.c (.rp (Try.f23.ntmps + 8)))), (2 * (Try.f23.ntmps + 8) + 1, .row 3 (.int .i64) x8), (48, .p (.c (.v (.int .i64 x24))))] := ⟨fun j h => j h⟩
set_option maxRecDepth 40000 in
set_option maxHeartbeats 2000000 in
theorem spec_AlwaysKept.con (k : Nat) (l0_0 : List Int) (a0_1 : Int) (l1 : List (S51)) (a2 : Int) (r1 : List Int) (r2 : Bool) (H : spec_AlwaysKept.f k l0_0 a0_1 l1 a2 = some (r1, r2)) : Con Try.prog 23 [.p (.ag [.sl (.int .i64) l0_0, .v (.int .i64 a0_1)]), .p (.c (.sl K51 l1)), .p (.c (.v (.int .i64 a2)))] (.tp [.c (.ow 3 (.int .i64) r1), .c (.v (.bool r2))]) := by
  refine Con.mk' (fn := Try.f23) Try.func23 rfl (by kernel_rfl) rfl rfl rfl fun X w0 gs hF => ?_
  unfold spec_AlwaysKept.f at H
  exact auto
instance spec_AlwaysKept.ctr {k : Nat} {l0_0 : List Int} {a0_1 : Int} {l1 : List (S51)} {a2 : Int} {t_ : List Int × Bool} : Ctr (spec_AlwaysKept.f k l0_0 a0_1 l1 a2 = some t_) (Con Try.prog 23 [.p (.ag [.sl (.int .i64) l0_0, .v (.int .i64 a0_1)]), .p (.c (.sl K51 l1)), .p (.c (.v (.int .i64 a2)))] (.tp [.c (.ow 3 (.int .i64) t_.1), .c (.v (.bool t_.2))])) := ⟨fun h => spec_AlwaysKept.con _ _ _ _ _ _ _ h⟩

end Go.Proofs.Ytipcjpgonncinaa.V
