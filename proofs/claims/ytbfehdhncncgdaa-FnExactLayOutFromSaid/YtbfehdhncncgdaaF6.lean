/- BY EV: what the Go functions compute (read off the print), and that their calls come to it. No condition. -/
import Derived.Test.YtbfehdhncncgdaaFEU
import Derived.Test.YtbfehdhncncgdaaF4
import Derived.Test.YtbfehdhncncgdaaF5
set_option linter.unusedVariables false
set_option linter.unusedSimpArgs false
namespace Go.Proofs.Ytbfehdhncncgdaa.F
open Go.RowKit Go.Proofs Go.Proofs.YtbfehdhncncgdaaW.PrintWords Go.Proofs.YtbfehdhncncgdaaW.PrintLast EV
/-! ### impl_canPlay: function 58 -/
def impl_canPlay.l0 : Nat → List (S57) → List (S57) → Int → Int → List Int → Int → Option (Bool)
  | 0, _, _, _, _, _, _ => none
  | k + 1, x1, x7, x8, x9, x351000, x351001 => if x9 < x8 then (if 0 ≤ x9 then (if x9 < (x7.length : Int) then ((slices_Contains_int_int.f k x351000 ((rd_T57 x7 x9).f0)).bind fun t353 => (if t353 = true then (impl_canPlay.l0 k x1 x7 x8 (wrap64 (x9 + 1)) x351000 x351001) else (some false))) else (none)) else (none)) else ((impl_fastRepeats.f k x1 x351001).bind fun t354 => (some ((t354.length : Int) == 0)))
def impl_canPlay.f (k : Nat) (l0_0 : List Int) (a0_1 : Int) (l1 : List (S57)) : Option (Bool) := impl_canPlay.l0 k l1 l1 (l1.length : Int) 0 l0_0 a0_1
instance impl_canPlay.lp0 {k : Nat} {r : Bool} {Q : Wr → Prop} {p0 : List (S57)} {p1 : List (S57)} {p2 : Int} {p4 : List Int} {p5 : Int} {x9_1 : Int} : Lp (impl_canPlay.l0 k p0 p1 p2 x9_1 p4 p5 = some r) Q (fun k => ∀ {x9_1 : Int}, impl_canPlay.l0 k p0 p1 p2 x9_1 p4 p5 = some r → Q [(18, .p (.c (.v (.int .i64 x9_1))))]) k [(18, .p (.c (.v (.int .i64 x9_1))))] := ⟨fun j h => j h⟩
set_option maxRecDepth 8000 in
set_option maxHeartbeats 2000000 in
theorem impl_canPlay.con (k : Nat) (l0_0 : List Int) (a0_1 : Int) (l1 : List (S57)) (r : Bool) (H : impl_canPlay.f k l0_0 a0_1 l1 = some r) : Con Try.prog 58 [.p (.ag [.sl (.int .i64) l0_0, .v (.int .i64 a0_1)]), .p (.c (.sl K57 l1))] (.p (.c (.v (.bool r)))) := by
  refine Con.mk' (fn := Try.f58) Try.func58 rfl (by kernel_rfl) rfl rfl rfl fun X w0 gs hF => ?_
  unfold impl_canPlay.f at H
  exact auto
instance impl_canPlay.ctr {k : Nat} {l0_0 : List Int} {a0_1 : Int} {l1 : List (S57)} {r : Bool} : Ctr (impl_canPlay.f k l0_0 a0_1 l1 = some r) (Con Try.prog 58 [.p (.ag [.sl (.int .i64) l0_0, .v (.int .i64 a0_1)]), .p (.c (.sl K57 l1))] (.p (.c (.v (.bool r))))) := ⟨impl_canPlay.con _ _ _ _ _⟩
/-! ### impl_holeFor: function 59 -/
def impl_holeFor.f (k : Nat) (l0_0 : List Int) (a0_1 : Int) (a1_0 : Int) (a1_1 : Int) (a1_2 : Int) : Option (Int × Int × Int × Bool) := (slices_Index_int_int.f k l0_0 a1_0).bind fun t360 => ((impl_noteEnd.f a1_0 a1_1 a1_2).bind fun t361 => (if t360 < 0 then (some (0, 0, 0, false)) else ((impl_IsHole.f t360 (wrap64 (2 * a1_1)) (wrap64 ((wrap64 (2 * t361)) - 1))).bind fun t363 => (if t363 = true then (some (t360, wrap64 (2 * a1_1), wrap64 ((wrap64 (2 * t361)) - 1), true)) else (some (0, 0, 0, false))))))
set_option maxRecDepth 8000 in
set_option maxHeartbeats 2000000 in
theorem impl_holeFor.con (k : Nat) (l0_0 : List Int) (a0_1 : Int) (a1_0 : Int) (a1_1 : Int) (a1_2 : Int) (r1 : Int) (r2 : Int) (r3 : Int) (r4 : Bool) (H : impl_holeFor.f k l0_0 a0_1 a1_0 a1_1 a1_2 = some (r1, r2, r3, r4)) : Con Try.prog 59 [.p (.ag [.sl (.int .i64) l0_0, .v (.int .i64 a0_1)]), .p (.ag [.v (.int .i64 a1_0), .v (.int .i64 a1_1), .v (.int .i64 a1_2)])] (.tp [.ag [.v (.int .i64 r1), .v (.int .i64 r2), .v (.int .i64 r3)], .c (.v (.bool r4))]) := by
  refine Con.mk' (fn := Try.f59) Try.func59 rfl (by kernel_rfl) rfl rfl rfl fun X w0 gs hF => ?_
  unfold impl_holeFor.f at H
  exact auto
instance impl_holeFor.ctr {k : Nat} {l0_0 : List Int} {a0_1 : Int} {a1_0 : Int} {a1_1 : Int} {a1_2 : Int} {t_ : (Int) × (Int) × (Int) × (Bool)} : Ctr (impl_holeFor.f k l0_0 a0_1 a1_0 a1_1 a1_2 = some t_) (Con Try.prog 59 [.p (.ag [.sl (.int .i64) l0_0, .v (.int .i64 a0_1)]), .p (.ag [.v (.int .i64 a1_0), .v (.int .i64 a1_1), .v (.int .i64 a1_2)])] (.tp [.ag [.v (.int .i64 t_.1), .v (.int .i64 t_.2.1), .v (.int .i64 t_.2.2.1)], .c (.v (.bool t_.2.2.2))])) := ⟨fun h => impl_holeFor.con _ _ _ _ _ _ (t_.1) (t_.2.1) (t_.2.2.1) (t_.2.2.2) h⟩
end Go.Proofs.Ytbfehdhncncgdaa.F
