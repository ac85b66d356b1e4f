/- BY EV: what the Go functions compute (read off the print), and that their calls come to it. No condition. -/
import Derived.Test.YtlhhjdlaljmppaaGreatTEU
set_option linter.unusedVariables false
set_option linter.unusedSimpArgs false
namespace Go.Proofs.YtlhhjdlaljmppaaGreat.T
open Go.RowKit Go.Proofs Go.Proofs.YtlhhjdlaljmppaaGreatW.PrintWords Go.Proofs.YtlhhjdlaljmppaaGreatW.PrintLast EV
/-! ### laws_sameInts: function 22 -/
def laws_sameInts.l0 : Nat → List Int → List Int → Int → Int → Option (Bool)
  | 0, _, _, _, _ => none
  | k + 1, x0, x1, x12, x13 => if x13 < x12 then (if 0 ≤ x13 then (if x13 < (x0.length : Int) then (if x13 < (x1.length : Int) then (if (rd x0 x13) = (rd x1 x13) then (laws_sameInts.l0 k x0 x1 x12 (wrap64 (x13 + 1))) else (some false)) else (none)) else (none)) else (none)) else (some true)
def laws_sameInts.f (k : Nat) (l0 : List Int) (l1 : List Int) : Option (Bool) := if (l0.length : Int) = (l1.length : Int) then (laws_sameInts.l0 k l0 l1 (l0.length : Int) 0) else (some false)
instance laws_sameInts.lp0 {k : Nat} {r : Bool} {Q : Wr → Prop} {p0 : List Int} {p1 : List Int} {p2 : Int} {x13_1 : Int} : Lp (laws_sameInts.l0 k p0 p1 p2 x13_1 = some r) Q (fun k => ∀ {x13_1 : Int}, laws_sameInts.l0 k p0 p1 p2 x13_1 = some r → Q [(26, .p (.c (.v (.int .i64 x13_1))))]) k [(26, .p (.c (.v (.int .i64 x13_1))))] := ⟨fun j h => j h⟩
set_option maxRecDepth 20000 in
set_option maxHeartbeats 2000000 in
theorem laws_sameInts.con (k : Nat) (l0 : List Int) (l1 : List Int) (r : Bool) (H : laws_sameInts.f k l0 l1 = some r) : Con Tryz.prog 22 [.p (.c (.sl (.int .i64) l0)), .p (.c (.sl (.int .i64) l1))] (.p (.c (.v (.bool r)))) := by
  refine Con.mk' (fn := Tryz.f22) Tryz.func22 rfl (by kernel_rfl) rfl rfl rfl fun X w0 gs hF => ?_
  unfold laws_sameInts.f at H
  exact auto
instance laws_sameInts.ctr {k : Nat} {l0 : List Int} {l1 : List Int} {r : Bool} : Ctr (laws_sameInts.f k l0 l1 = some r) (Con Tryz.prog 22 [.p (.c (.sl (.int .i64) l0)), .p (.c (.sl (.int .i64) l1))] (.p (.c (.v (.bool r))))) := ⟨laws_sameInts.con _ _ _ _⟩
end Go.Proofs.YtlhhjdlaljmppaaGreat.T
