/- BY EV: what the Go functions compute (read off the print), and that their calls come to it. No condition. -/
import Derived.Test.YtbfehdhncncgdaaCEU
import Derived.Test.YtbfehdhncncgdaaC1
import Derived.Test.YtbfehdhncncgdaaC3
set_option linter.unusedVariables false
set_option linter.unusedSimpArgs false
namespace Go.Proofs.Ytbfehdhncncgdaa.C
open Go.RowKit Go.Proofs Go.Proofs.YtbfehdhncncgdaaW.PrintWords Go.Proofs.YtbfehdhncncgdaaW.PrintLast EV
/-! ### laws_FnExactCrowdedSteps: function 6 -/
def laws_FnExactCrowdedSteps.j0 : Nat → List (S73) → List (S64) → Bool → Option (Bool)
  | 0, _, _, _ => none
  | k + 1, x0, x8, x38 => if x38 = true then (some false) else ((laws_toHoleS.f k x0).bind fun t170 => ((laws_eqHoleS.f k x8 t170).bind fun t173 => (if t173 = true then (some true) else (some false))))
def laws_FnExactCrowdedSteps.f (k : Nat) (l0 : List (S73)) (a1 : Int) : Option (Bool) := (laws_szHoleS.f l0 1048576).bind fun t159 => (if t159 < 0 then (some true) else ((laws_toHoleS.f k l0).bind fun t160 => ((spec_CrowdedSteps.f k t160 a1).bind fun bt163 => ((laws_toHoleS.f k l0).bind fun t165 => ((impl_CrowdedSteps.f k t165 a1).bind fun bt168 => (if bt168.1 = bt163.1 then (laws_FnExactCrowdedSteps.j0 k l0 t165 (bt168.2 != bt163.2)) else (laws_FnExactCrowdedSteps.j0 k l0 t165 true)))))))
set_option maxRecDepth 8000 in
set_option maxHeartbeats 2000000 in
theorem laws_FnExactCrowdedSteps.con (k : Nat) (l0 : List (S73)) (a1 : Int) (r : Bool) (H : laws_FnExactCrowdedSteps.f k l0 a1 = some r) : Con Try.prog 6 [.p (.c (.sl K73 l0)), .p (.c (.v (.int .i64 a1)))] (.p (.c (.v (.bool r)))) := by
  refine Con.mk' (fn := Try.f6) Try.func6 rfl (by kernel_rfl) rfl rfl rfl fun X w0 gs hF => ?_
  unfold laws_FnExactCrowdedSteps.f at H
  exact auto
instance laws_FnExactCrowdedSteps.ctr {k : Nat} {l0 : List (S73)} {a1 : Int} {r : Bool} : Ctr (laws_FnExactCrowdedSteps.f k l0 a1 = some r) (Con Try.prog 6 [.p (.c (.sl K73 l0)), .p (.c (.v (.int .i64 a1)))] (.p (.c (.v (.bool r))))) := ⟨laws_FnExactCrowdedSteps.con _ _ _ _⟩
theorem laws_FnExactCrowdedSteps.calls (k : Nat) (A0 : Option Addr) (c0 : Nat) (l0 : List (S73)) (a1 : Int) (r : Bool) (w : World) (hr0 : Kd.C k73 w A0 l0.length l0) (hc0 : l0.length ≤ c0) (h : laws_FnExactCrowdedSteps.f k l0 a1 = some r) :
    Calls Try.prog 6 #[.slice A0 l0.length c0, .int .i64 a1] w fun e w' => e = .returned (.bool r) ∧ Below w.heap.size w w' :=
  (laws_FnExactCrowdedSteps.con k l0 a1 r h).val rfl (show Args.relg (fun _ => False) w _ [.slice A0 l0.length c0, .int .i64 a1] [.slice A0 l0.length c0, .int .i64 a1] from ⟨_, _, rfl, ⟨rfl, A0, c0, rfl, hc0, row_of_C rfl (fun _ h => h) hr0⟩, ⟨_, _, rfl, ⟨rfl, rfl⟩, rfl⟩⟩)
end Go.Proofs.Ytbfehdhncncgdaa.C
