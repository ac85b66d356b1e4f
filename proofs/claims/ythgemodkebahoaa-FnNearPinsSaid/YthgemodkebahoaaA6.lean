/- BY EV: what the Go functions compute (read off the print), and that their calls come to it. No condition. -/
import Derived.Test.YthgemodkebahoaaAEU
import Derived.Test.YthgemodkebahoaaA5
set_option linter.unusedVariables false
set_option linter.unusedSimpArgs false
namespace Go.Proofs.Ythgemodkebahoaa.A
open Go.RowKit Go.Proofs Go.Proofs.YthgemodkebahoaaW.PrintWords Go.Proofs.YthgemodkebahoaaW.PrintLast EV
/-! ### laws_sameLists: function 21 -/
def laws_sameLists.l0 : Nat → List (List Int) → List (List Int) → Int → Int → Option (Bool)
  | 0, _, _, _, _ => none
  | k + 1, x0, x1, x12, x13 => if x13 < x12 then (if 0 ≤ x13 then (if x13 < (x0.length : Int) then (if x13 < (x1.length : Int) then ((laws_sameInts.f k (rd_L8 x0 x13) (rd_L8 x1 x13)).bind fun t365 => (if t365 = true then (laws_sameLists.l0 k x0 x1 x12 (wrap64 (x13 + 1))) else (some false))) else (none)) else (none)) else (none)) else (some true)
def laws_sameLists.f (k : Nat) (l0 : List (List Int)) (l1 : List (List Int)) : Option (Bool) := if (l0.length : Int) = (l1.length : Int) then (laws_sameLists.l0 k l0 l1 (l0.length : Int) 0) else (some false)
instance laws_sameLists.lp0 {k : Nat} {r : Bool} {Q : Wr → Prop} {p0 : List (List Int)} {p1 : List (List Int)} {p2 : Int} {x13_1 : Int} : Lp (laws_sameLists.l0 k p0 p1 p2 x13_1 = some r) Q (fun k => ∀ {x13_1 : Int}, laws_sameLists.l0 k p0 p1 p2 x13_1 = some r → Q [(26, .p (.c (.v (.int .i64 x13_1))))]) k [(26, .p (.c (.v (.int .i64 x13_1))))] := ⟨fun j h => j h⟩
set_option maxRecDepth 8000 in
set_option maxHeartbeats 2000000 in
theorem laws_sameLists.con (k : Nat) (l0 : List (List Int)) (l1 : List (List Int)) (r : Bool) (H : laws_sameLists.f k l0 l1 = some r) : Con Try.prog 21 [.p (.c (.sl KL3 l0)), .p (.c (.sl KL3 l1))] (.p (.c (.v (.bool r)))) := by
  refine Con.mk' (fn := Try.f21) Try.func21 rfl (by kernel_rfl) rfl rfl rfl fun X w0 gs hF => ?_
  unfold laws_sameLists.f at H
  exact auto
instance laws_sameLists.ctr {k : Nat} {l0 : List (List Int)} {l1 : List (List Int)} {r : Bool} : Ctr (laws_sameLists.f k l0 l1 = some r) (Con Try.prog 21 [.p (.c (.sl KL3 l0)), .p (.c (.sl KL3 l1))] (.p (.c (.v (.bool r))))) := ⟨laws_sameLists.con _ _ _ _⟩
end Go.Proofs.Ythgemodkebahoaa.A
