/- BY EV: what the Go functions compute (read off the print), and that their calls come to it. No condition. -/
import Derived.Test.YthgemodkebahoaaAEU
import Derived.Test.YthgemodkebahoaaA1
import Derived.Test.YthgemodkebahoaaA2
import Derived.Test.YthgemodkebahoaaA3
import Derived.Test.YthgemodkebahoaaA4
import Derived.Test.YthgemodkebahoaaA5
import Derived.Test.YthgemodkebahoaaA6
import Derived.Test.YthgemodkebahoaaA11
import Derived.Test.YthgemodkebahoaaA12
import Derived.Test.YthgemodkebahoaaA13
import Derived.Test.YthgemodkebahoaaA14
import Derived.Test.YthgemodkebahoaaA15
import Derived.Test.YthgemodkebahoaaA17
set_option linter.unusedVariables false
set_option linter.unusedSimpArgs false
namespace Go.Proofs.Ythgemodkebahoaa.A
open Go.RowKit Go.Proofs Go.Proofs.YthgemodkebahoaaW.PrintWords Go.Proofs.YthgemodkebahoaaW.PrintLast EV
/-! ### laws_FnNearPins: function 3 -/
mutual
def laws_FnNearPins.j0 : Nat → List Int → List (S39) → Bool → Int → Bool → Option (Bool)
  | 0, _, _, _, _, _ => none
  | k + 1, x1, x5, x7, x8, x69 => if x69 = true then (some false) else (if x7 = true then ((impl_NearPins.f k x5 x8).bind fun bt376 => (if bt376.2 = true then (if (bt376.1.length : Int) > 0 then (laws_FnNearPins.j1 k x1 x5 x8 true) else (if x8 < 1 then (laws_FnNearPins.j1 k x1 x5 x8 true) else (laws_FnNearPins.j1 k x1 x5 x8 (decide (x8 > 180))))) else (laws_FnNearPins.j1 k x1 x5 x8 true))) else (laws_FnNearPins.j2 k x1))
def laws_FnNearPins.j2 : Nat → List Int → Option (Bool)
  | 0, _ => none
  | k + 1, x1 => (spec_DrawBestTurn.f k x1).bind fun bt384 => ((impl_BestTurn.f k bt384.1 bt384.2.1 bt384.2.2).bind fun bt389 => ((spec_BestTurn.f k bt384.1 bt384.2.1 bt384.2.2).bind fun bt391 => (if (bt389.2 != bt391.2) = true then (laws_FnNearPins.j3 k x1 bt384.1 bt384.2.1 bt384.2.2 bt389.2 bt391.1 true) else (laws_FnNearPins.j3 k x1 bt384.1 bt384.2.1 bt384.2.2 bt389.2 bt391.1 (bt389.1 != bt391.1)))))
def laws_FnNearPins.j3 : Nat → List Int → List (S39) → Int → Int → Bool → Int → Bool → Option (Bool)
  | 0, _, _, _, _, _, _, _ => none
  | k + 1, x1, x14, x15, x16, x18, x19, x135 => if x135 = true then (some false) else (if x18 = true then ((impl_TurnTune.f k x14 x15 x19).bind fun bt393 => ((impl_NearPins.f k bt393.1 x16).bind fun bt397 => (if bt393.2 = true then (if bt397.2 = true then (laws_FnNearPins.j4 k x1 x14 x15 x16 x19 (decide ((bt397.1.length : Int) > 0))) else (laws_FnNearPins.j4 k x1 x14 x15 x16 x19 true)) else (laws_FnNearPins.j4 k x1 x14 x15 x16 x19 true)))) else (laws_FnNearPins.j5 k x1))
def laws_FnNearPins.j5 : Nat → List Int → Option (Bool)
  | 0, _ => none
  | k + 1, x1 => (spec_DrawNearPins.f k x1).bind fun bt409 => ((impl_NearPins.f k bt409.1 bt409.2).bind fun bt413 => ((spec_NearPins.f k bt409.1 bt409.2).bind fun bt417 => ((spec_DrawAddPin.f k x1).bind fun bt421 => ((impl_AddPin.f k bt421.1 bt421.2.1 bt421.2.2.1 bt421.2.2.2).bind fun bt428 => ((spec_AddPin.f k bt421.1 bt421.2.1 bt421.2.2.1 bt421.2.2.2).bind fun bt432 => ((spec_DrawTuneOf.f k x1).bind fun bt436 => ((impl_TuneOf.f k bt436.1 bt436.2).bind fun bt440 => ((spec_TuneOf.f k bt436.1 bt436.2).bind fun bt444 => (if (bt413.2 == bt417.2) = true then ((laws_sameLists.f k bt413.1 bt417.1).bind fun t448 => (if t448 = true then (if (bt428.2 == bt432.2) = true then ((laws_pSamePins.f k bt428.1 bt432.1).bind fun t449 => (if t449 = true then (if bt428.2 = true then (if (bt432.1.length : Int) = (wrap64 ((bt421.1.length : Int) + 1)) then (if (bt440.2 == bt444.2) = true then ((laws_pSamePins.f k bt440.1 bt444.1).bind fun t450 => (some t450)) else (some false)) else (some false)) else (if (bt440.2 == bt444.2) = true then ((laws_pSamePins.f k bt440.1 bt444.1).bind fun t451 => (some t451)) else (some false))) else (some false))) else (some false)) else (some false))) else (some false))))))))))
def laws_FnNearPins.j4 : Nat → List Int → List (S39) → Int → Int → Int → Bool → Option (Bool)
  | 0, _, _, _, _, _, _ => none
  | k + 1, x1, x14, x15, x16, x19, x160 => if x160 = true then (some false) else (if x19 > 0 then ((impl_TurnTune.f k x14 x15 (wrap64 (x19 - 1))).bind fun bt401 => ((impl_NearPins.f k bt401.1 x16).bind fun bt405 => (if bt401.2 = true then (if bt405.2 = true then (if (bt405.1.length : Int) = 0 then (some false) else (laws_FnNearPins.j5 k x1)) else (some false)) else (some false)))) else (laws_FnNearPins.j5 k x1))
def laws_FnNearPins.j1 : Nat → List Int → List (S39) → Int → Bool → Option (Bool)
  | 0, _, _, _, _ => none
  | k + 1, x1, x5, x8, x91 => if x91 = true then (some false) else (if x8 < 180 then ((impl_NearPins.f k x5 (wrap64 (x8 + 1))).bind fun bt380 => (if bt380.2 = true then (if (bt380.1.length : Int) = 0 then (some false) else (laws_FnNearPins.j2 k x1)) else (some false))) else (laws_FnNearPins.j2 k x1))
end
def laws_FnNearPins.f (k : Nat) (l0 : List Int) (l1 : List Int) : Option (Bool) := (laws_big.f l0 l1).bind fun t368 => (if t368 = true then (some true) else ((spec_DrawGreatestGap.f k l0).bind fun t369 => ((impl_GreatestGap.f k t369).bind fun bt372 => ((spec_GreatestGap.f k t369).bind fun bt374 => (if (bt372.2 != bt374.2) = true then (laws_FnNearPins.j0 k l1 t369 bt372.2 bt374.1 true) else (laws_FnNearPins.j0 k l1 t369 bt372.2 bt374.1 (bt372.1 != bt374.1)))))))
set_option maxRecDepth 8000 in
set_option maxHeartbeats 40000000 in
theorem laws_FnNearPins.con (k : Nat) (l0 : List Int) (l1 : List Int) (r : Bool) (H : laws_FnNearPins.f k l0 l1 = some r) : Con Try.prog 3 [.p (.c (.sl (.int .u8) l0)), .p (.c (.sl (.int .u8) l1))] (.p (.c (.v (.bool r)))) := by
  refine Con.mk' (fn := Try.f3) Try.func3 rfl (by kernel_rfl) rfl rfl rfl fun X w0 gs hF => ?_
  unfold laws_FnNearPins.f at H
  exact auto
instance laws_FnNearPins.ctr {k : Nat} {l0 : List Int} {l1 : List Int} {r : Bool} : Ctr (laws_FnNearPins.f k l0 l1 = some r) (Con Try.prog 3 [.p (.c (.sl (.int .u8) l0)), .p (.c (.sl (.int .u8) l1))] (.p (.c (.v (.bool r))))) := ⟨laws_FnNearPins.con _ _ _ _⟩
theorem laws_FnNearPins.calls (k : Nat) (A0 : Option Addr) (c0 : Nat) (l0 : List Int) (A1 : Option Addr) (c1 : Nat) (l1 : List Int) (r : Bool) (w : World) (hr0 : Kd.C (Kd.int .u8) w A0 l0.length l0) (hc0 : l0.length ≤ c0) (hr1 : Kd.C (Kd.int .u8) w A1 l1.length l1) (hc1 : l1.length ≤ c1) (h : laws_FnNearPins.f k l0 l1 = some r) :
    Calls Try.prog 3 #[.slice A0 l0.length c0, .slice A1 l1.length c1] w fun e w' => e = .returned (.bool r) ∧ Below w.heap.size w w' :=
  (laws_FnNearPins.con k l0 l1 r h).val rfl (show Args.relg (fun _ => False) w _ [.slice A0 l0.length c0, .slice A1 l1.length c1] [.slice A0 l0.length c0, .slice A1 l1.length c1] from ⟨_, _, rfl, ⟨rfl, A0, c0, rfl, hc0, row_of_C rfl (fun _ h => h) hr0⟩, ⟨_, _, rfl, ⟨rfl, A1, c1, rfl, hc1, row_of_C rfl (fun _ h => h) hr1⟩, rfl⟩⟩)
end Go.Proofs.Ythgemodkebahoaa.A
