/- BY EV: what the Go functions compute (read off the print), and that their calls come to it. No condition. -/
import Derived.Test.YtgjpphcbdbfhlaaGreatLEU
import Derived.Test.YtgjpphcbdbfhlaaGreatL2
import Derived.Test.YtgjpphcbdbfhlaaGreatL3
set_option linter.unusedVariables false
set_option linter.unusedSimpArgs false
namespace Go.Proofs.YtgjpphcbdbfhlaaGreat.L
open Go.RowKit Go.Proofs Go.Proofs.YtgjpphcbdbfhlaaGreatW.PrintWords Go.Proofs.YtgjpphcbdbfhlaaGreatW.PrintLast EV
/-! ### spec_inAsked: function 39 -/
def spec_inAsked.f (k : Nat) (l0_0 : List Int) (a0_1 : Int) (l1 : List (S36)) : Option (Bool) := (spec_inGood.f k l0_0 a0_1).bind fun t352 => (if t352 = true then ((spec_ntGood.f k l1).bind fun t353 => (some t353)) else (some false))
set_option maxRecDepth 20000 in
set_option maxHeartbeats 2000000 in
theorem spec_inAsked.con (k : Nat) (l0_0 : List Int) (a0_1 : Int) (l1 : List (S36)) (r : Bool) (H : spec_inAsked.f k l0_0 a0_1 l1 = some r) : Con Tryz.prog 39 [.p (.ag [.sl (.int .i64) l0_0, .v (.int .i64 a0_1)]), .p (.c (.sl K36 l1))] (.p (.c (.v (.bool r)))) := by
  refine Con.mk' (fn := Tryz.f39) Tryz.func39 rfl (by kernel_rfl) rfl rfl rfl fun X w0 gs hF => ?_
  unfold spec_inAsked.f at H
  exact auto
instance spec_inAsked.ctr {k : Nat} {l0_0 : List Int} {a0_1 : Int} {l1 : List (S36)} {r : Bool} : Ctr (spec_inAsked.f k l0_0 a0_1 l1 = some r) (Con Tryz.prog 39 [.p (.ag [.sl (.int .i64) l0_0, .v (.int .i64 a0_1)]), .p (.c (.sl K36 l1))] (.p (.c (.v (.bool r))))) := ⟨spec_inAsked.con _ _ _ _ _⟩
/-! ### spec_inLast: function 80 -/
def spec_inLast.l0 : Nat → List (S36) → Int → Int → Option (Int)
  | 0, _, _, _ => none
  | k + 1, x0, x1, x5 => if x5 ≥ 0 then (if 0 ≤ x5 then (if x5 < (x0.length : Int) then (if 0 ≤ x1 then (if x1 < (x0.length : Int) then (if ((rd_T36 x0 x5).f0) = ((rd_T36 x0 x1).f0) then (some x5) else (spec_inLast.l0 k x0 x1 (wrap64 (x5 - 1)))) else (none)) else (none)) else (none)) else (none)) else (some (-1))
def spec_inLast.f (k : Nat) (l0 : List (S36)) (a1 : Int) : Option (Int) := spec_inLast.l0 k l0 a1 (wrap64 (a1 - 1))
instance spec_inLast.lp0 {k : Nat} {r : Int} {Q : Wr → Prop} {p0 : List (S36)} {p1 : Int} {x5_1 : Int} : Lp (spec_inLast.l0 k p0 p1 x5_1 = some r) Q (fun k => ∀ {x5_1 : Int}, spec_inLast.l0 k p0 p1 x5_1 = some r → Q [(10, .p (.c (.v (.int .i64 x5_1))))]) k [(10, .p (.c (.v (.int .i64 x5_1))))] := ⟨fun j h => j h⟩
set_option maxRecDepth 20000 in
set_option maxHeartbeats 2000000 in
theorem spec_inLast.con (k : Nat) (l0 : List (S36)) (a1 : Int) (r : Int) (H : spec_inLast.f k l0 a1 = some r) : Con Tryz.prog 80 [.p (.c (.sl K36 l0)), .p (.c (.v (.int .i64 a1)))] (.p (.c (.v (.int .i64 r)))) := by
  refine Con.mk' (fn := Tryz.f80) Tryz.func80 rfl (by kernel_rfl) rfl rfl rfl fun X w0 gs hF => ?_
  unfold spec_inLast.f at H
  exact auto
instance spec_inLast.ctr {k : Nat} {l0 : List (S36)} {a1 : Int} {r : Int} : Ctr (spec_inLast.f k l0 a1 = some r) (Con Tryz.prog 80 [.p (.c (.sl K36 l0)), .p (.c (.v (.int .i64 a1)))] (.p (.c (.v (.int .i64 r))))) := ⟨spec_inLast.con _ _ _ _⟩
/-! ### spec_inTrack: function 81 -/
def spec_inTrack.l0 : Nat → Int → List Int → Int → Int → Option (Int)
  | 0, _, _, _, _ => none
  | k + 1, x1, x8, x9, x10 => if x10 < x9 then (if 0 ≤ x10 then (if x10 < (x8.length : Int) then (if (rd x8 x10) = x1 then (some x10) else (spec_inTrack.l0 k x1 x8 x9 (wrap64 (x10 + 1)))) else (none)) else (none)) else (some (-1))
def spec_inTrack.f (k : Nat) (l0_0 : List Int) (a0_1 : Int) (a1 : Int) : Option (Int) := spec_inTrack.l0 k a1 l0_0 (l0_0.length : Int) 0
instance spec_inTrack.lp0 {k : Nat} {r : Int} {Q : Wr → Prop} {p0 : Int} {p1 : List Int} {p2 : Int} {x10_1 : Int} : Lp (spec_inTrack.l0 k p0 p1 p2 x10_1 = some r) Q (fun k => ∀ {x10_1 : Int}, spec_inTrack.l0 k p0 p1 p2 x10_1 = some r → Q [(20, .p (.c (.v (.int .i64 x10_1))))]) k [(20, .p (.c (.v (.int .i64 x10_1))))] := ⟨fun j h => j h⟩
set_option maxRecDepth 20000 in
set_option maxHeartbeats 2000000 in
theorem spec_inTrack.con (k : Nat) (l0_0 : List Int) (a0_1 : Int) (a1 : Int) (r : Int) (H : spec_inTrack.f k l0_0 a0_1 a1 = some r) : Con Tryz.prog 81 [.p (.ag [.sl (.int .i64) l0_0, .v (.int .i64 a0_1)]), .p (.c (.v (.int .i64 a1)))] (.p (.c (.v (.int .i64 r)))) := by
  refine Con.mk' (fn := Tryz.f81) Tryz.func81 rfl (by kernel_rfl) rfl rfl rfl fun X w0 gs hF => ?_
  unfold spec_inTrack.f at H
  exact auto
instance spec_inTrack.ctr {k : Nat} {l0_0 : List Int} {a0_1 : Int} {a1 : Int} {r : Int} : Ctr (spec_inTrack.f k l0_0 a0_1 a1 = some r) (Con Tryz.prog 81 [.p (.ag [.sl (.int .i64) l0_0, .v (.int .i64 a0_1)]), .p (.c (.v (.int .i64 a1)))] (.p (.c (.v (.int .i64 r))))) := ⟨spec_inTrack.con _ _ _ _ _⟩
/-! ### spec_inPart: function 41 -/
def spec_inPart.l0 : Nat → List (S36) → List (S36) → Int → Int → List Int → Int → Option ((List (S36)))
  | 0, _, _, _, _, _, _ => none
  | k + 1, x5, x10, x11, x12, x359000, x359001 => if x12 < x11 then (if 0 ≤ x12 then (if x12 < (x10.length : Int) then ((some (([] : List (S36)) : List (S36))).bind fun y361 => (if y361.length + x5.length < 5864062014805 then ((some (y361 ++ x5 : List (S36))).bind fun y364 => ((some (([(⟨(rd_T36 x10 x12).f0, (rd_T36 x10 x12).f1, (rd_T36 x10 x12).f2⟩ : S36)] : List (S36)) : List (S36))).bind fun y367 => (if y364.length + y367.length < 5864062014805 then ((some (y364 ++ y367 : List (S36))).bind fun y370 => ((spec_inLast.f k y370 (x5.length : Int)).bind fun t373 => ((spec_inTrack.f k x359000 x359001 ((rd_T36 x10 x12).f0)).bind fun t374 => (if t374 ≥ 0 then (if t373 < 0 then (spec_inPart.l0 k y370 x10 x11 (wrap64 (x12 + 1)) x359000 x359001) else (if 0 ≤ t373 then (if t373 < (y370.length : Int) then (if (wrap64 (((rd_T36 x10 x12).f1) - ((rd_T36 y370 t373).f1))) ≥ x359001 then (spec_inPart.l0 k y370 x10 x11 (wrap64 (x12 + 1)) x359000 x359001) else (spec_inPart.l0 k x5 x10 x11 (wrap64 (x12 + 1)) x359000 x359001)) else (none)) else (none))) else (spec_inPart.l0 k x5 x10 x11 (wrap64 (x12 + 1)) x359000 x359001))))) else (none)))) else (none))) else (none)) else (none)) else (some x5)
def spec_inPart.f (k : Nat) (l0_0 : List Int) (a0_1 : Int) (l1 : List (S36)) : Option ((List (S36))) := spec_inPart.l0 k ([] : List (S36)) l1 (l1.length : Int) 0 l0_0 a0_1
instance spec_inPart.lp0 {k : Nat} {r : (List (S36))} {Q : Wr → Prop} {p1 : List (S36)} {p2 : Int} {p4 : List Int} {p5 : Int} {x5_1 : List (S36)} {x12_1 : Int} : Lp (spec_inPart.l0 k x5_1 p1 p2 x12_1 p4 p5 = some r) Q (fun k => ∀ {x5_1 : List (S36)} {x12_1 : Int}, spec_inPart.l0 k x5_1 p1 p2 x12_1 p4 p5 = some r → Q [(10, .p (.c (.rp (Tryz.f41.ntmps + 5)))), (2 * (Tryz.f41.ntmps + 5) + 1, .row 36 K36 x5_1), (24, .p (.c (.v (.int .i64 x12_1))))]) k [(10, .p (.c (.rp (Tryz.f41.ntmps + 5)))), (2 * (Tryz.f41.ntmps + 5) + 1, .row 36 K36 x5_1), (24, .p (.c (.v (.int .i64 x12_1))))] := ⟨fun j h => j h⟩
set_option maxRecDepth 20000 in
set_option maxHeartbeats 2000000 in
theorem spec_inPart.con (k : Nat) (l0_0 : List Int) (a0_1 : Int) (l1 : List (S36)) (r : List (S36)) (H : spec_inPart.f k l0_0 a0_1 l1 = some r) : Con Tryz.prog 41 [.p (.ag [.sl (.int .i64) l0_0, .v (.int .i64 a0_1)]), .p (.c (.sl K36 l1))] (.p (.c (.ow 36 K36 r))) := by
  refine Con.mk' (fn := Tryz.f41) Tryz.func41 rfl (by kernel_rfl) rfl rfl rfl fun X w0 gs hF => ?_
  unfold spec_inPart.f at H
  exact auto
instance spec_inPart.ctr {k : Nat} {l0_0 : List Int} {a0_1 : Int} {l1 : List (S36)} {r : List (S36)} : Ctr (spec_inPart.f k l0_0 a0_1 l1 = some r) (Con Tryz.prog 41 [.p (.ag [.sl (.int .i64) l0_0, .v (.int .i64 a0_1)]), .p (.c (.sl K36 l1))] (.p (.c (.ow 36 K36 r)))) := ⟨spec_inPart.con _ _ _ _ _⟩
/-! ### impl_isPitch: function 82 -/
def impl_isPitch.f (a0 : Int) : Option (Bool) := if a0 ≥ 24 then (some (decide (a0 ≤ 96))) else (some false)
set_option maxRecDepth 20000 in
set_option maxHeartbeats 2000000 in
theorem impl_isPitch.con (a0 : Int) (r : Bool) (H : impl_isPitch.f a0 = some r) : Con Tryz.prog 82 [.p (.c (.v (.int .i64 a0)))] (.p (.c (.v (.bool r)))) := by
  refine Con.mk' (fn := Tryz.f82) Tryz.func82 rfl (by kernel_rfl) rfl rfl rfl fun X w0 gs hF => ?_
  unfold impl_isPitch.f at H
  exact auto
instance impl_isPitch.ctr {a0 : Int} {r : Bool} : Ctr (impl_isPitch.f a0 = some r) (Con Tryz.prog 82 [.p (.c (.v (.int .i64 a0)))] (.p (.c (.v (.bool r))))) := ⟨impl_isPitch.con _ _⟩
/-! ### impl_IsInstrument: function 42 -/
mutual
def impl_IsInstrument.j0 : Nat → Bool → List Int → Int → Option (Bool)
  | 0, _, _, _ => none
  | k + 1, x24, x377000, x377001 => if x24 = true then (some false) else (impl_IsInstrument.l0 k x377000 (x377000.length : Int) 0 x377000 x377001)
def impl_IsInstrument.l0 : Nat → List Int → Int → Int → List Int → Int → Option (Bool)
  | 0, _, _, _, _, _ => none
  | k + 1, x26, x27, x28, x377000, x377001 => if x28 < x27 then (if 0 ≤ x28 then (if x28 < (x26.length : Int) then ((impl_isPitch.f (rd x26 x28)).bind fun t378 => (if t378 = true then (if x28 > 0 then (if 0 ≤ (wrap64 (x28 - 1)) then (if (wrap64 (x28 - 1)) < (x377000.length : Int) then (if (rd x26 x28) ≤ (rd x377000 (wrap64 (x28 - 1))) then (some false) else (impl_IsInstrument.l0 k x26 x27 (wrap64 (x28 + 1)) x377000 x377001)) else (none)) else (none)) else (impl_IsInstrument.l0 k x26 x27 (wrap64 (x28 + 1)) x377000 x377001)) else (some false))) else (none)) else (none)) else (some true)
end
def impl_IsInstrument.f (k : Nat) (l0_0 : List Int) (a0_1 : Int) : Option (Bool) := if (l0_0.length : Int) < 1 then (impl_IsInstrument.j0 k true l0_0 a0_1) else (if (l0_0.length : Int) > 20 then (impl_IsInstrument.j0 k true l0_0 a0_1) else (if a0_1 < 1 then (impl_IsInstrument.j0 k true l0_0 a0_1) else (impl_IsInstrument.j0 k (decide (a0_1 > 20)) l0_0 a0_1)))
instance impl_IsInstrument.lp0 {k : Nat} {r : Bool} {Q : Wr → Prop} {p0 : List Int} {p1 : Int} {p3 : List Int} {p4 : Int} {x28_2 : Int} : Lp (impl_IsInstrument.l0 k p0 p1 x28_2 p3 p4 = some r) Q (fun k => ∀ {x28_2 : Int}, impl_IsInstrument.l0 k p0 p1 x28_2 p3 p4 = some r → Q [(56, .p (.c (.v (.int .i64 x28_2))))]) k [(56, .p (.c (.v (.int .i64 x28_2))))] := ⟨fun j h => j h⟩
set_option maxRecDepth 20000 in
set_option maxHeartbeats 2000000 in
theorem impl_IsInstrument.con (k : Nat) (l0_0 : List Int) (a0_1 : Int) (r : Bool) (H : impl_IsInstrument.f k l0_0 a0_1 = some r) : Con Tryz.prog 42 [.p (.ag [.sl (.int .i64) l0_0, .v (.int .i64 a0_1)])] (.p (.c (.v (.bool r)))) := by
  refine Con.mk' (fn := Tryz.f42) Tryz.func42 rfl (by kernel_rfl) rfl rfl rfl fun X w0 gs hF => ?_
  unfold impl_IsInstrument.f at H
  exact auto
instance impl_IsInstrument.ctr {k : Nat} {l0_0 : List Int} {a0_1 : Int} {r : Bool} : Ctr (impl_IsInstrument.f k l0_0 a0_1 = some r) (Con Tryz.prog 42 [.p (.ag [.sl (.int .i64) l0_0, .v (.int .i64 a0_1)])] (.p (.c (.v (.bool r))))) := ⟨impl_IsInstrument.con _ _ _ _⟩
/-! ### impl_isTrack: function 77 -/
def impl_isTrack.f (a0 : Int) : Option (Bool) := if a0 ≥ 0 then (some (decide (a0 < 20))) else (some false)
set_option maxRecDepth 20000 in
set_option maxHeartbeats 2000000 in
theorem impl_isTrack.con (a0 : Int) (r : Bool) (H : impl_isTrack.f a0 = some r) : Con Tryz.prog 77 [.p (.c (.v (.int .i64 a0)))] (.p (.c (.v (.bool r)))) := by
  refine Con.mk' (fn := Tryz.f77) Tryz.func77 rfl (by kernel_rfl) rfl rfl rfl fun X w0 gs hF => ?_
  unfold impl_isTrack.f at H
  exact auto
instance impl_isTrack.ctr {a0 : Int} {r : Bool} : Ctr (impl_isTrack.f a0 = some r) (Con Tryz.prog 77 [.p (.c (.v (.int .i64 a0)))] (.p (.c (.v (.bool r))))) := ⟨impl_isTrack.con _ _⟩
/-! ### impl_IsHole: function 61 -/
def impl_IsHole.f (a0_0 : Int) (a0_1 : Int) (a0_2 : Int) : Option (Bool) := (impl_isTrack.f a0_0).bind fun t381 => (if t381 = true then (if a0_1 ≥ 0 then (if a0_1 < a0_2 then (some (decide (a0_2 ≤ 2000))) else (some false)) else (some false)) else (some false))
set_option maxRecDepth 20000 in
set_option maxHeartbeats 2000000 in
theorem impl_IsHole.con (a0_0 : Int) (a0_1 : Int) (a0_2 : Int) (r : Bool) (H : impl_IsHole.f a0_0 a0_1 a0_2 = some r) : Con Tryz.prog 61 [.p (.ag [.v (.int .i64 a0_0), .v (.int .i64 a0_1), .v (.int .i64 a0_2)])] (.p (.c (.v (.bool r)))) := by
  refine Con.mk' (fn := Tryz.f61) Tryz.func61 rfl (by kernel_rfl) rfl rfl rfl fun X w0 gs hF => ?_
  unfold impl_IsHole.f at H
  exact auto
instance impl_IsHole.ctr {a0_0 : Int} {a0_1 : Int} {a0_2 : Int} {r : Bool} : Ctr (impl_IsHole.f a0_0 a0_1 a0_2 = some r) (Con Tryz.prog 61 [.p (.ag [.v (.int .i64 a0_0), .v (.int .i64 a0_1), .v (.int .i64 a0_2)])] (.p (.c (.v (.bool r))))) := ⟨impl_IsHole.con _ _ _ _⟩
/-! ### slices_Index_int_int: function 94 -/
def slices_Index_int_int.l0 : Nat → List Int → Int → Int → Int → Option (Int)
  | 0, _, _, _, _ => none
  | k + 1, x0, x1, x7, x8 => if x8 < x7 then (if 0 ≤ x8 then (if x8 < (x0.length : Int) then (if x1 = (rd x0 x8) then (some x8) else (slices_Index_int_int.l0 k x0 x1 x7 (wrap64 (x8 + 1)))) else (none)) else (none)) else (some (-1))
def slices_Index_int_int.f (k : Nat) (l0 : List Int) (a1 : Int) : Option (Int) := slices_Index_int_int.l0 k l0 a1 (l0.length : Int) 0
instance slices_Index_int_int.lp0 {k : Nat} {r : Int} {Q : Wr → Prop} {p0 : List Int} {p1 : Int} {p2 : Int} {x8_1 : Int} : Lp (slices_Index_int_int.l0 k p0 p1 p2 x8_1 = some r) Q (fun k => ∀ {x8_1 : Int}, slices_Index_int_int.l0 k p0 p1 p2 x8_1 = some r → Q [(16, .p (.c (.v (.int .i64 x8_1))))]) k [(16, .p (.c (.v (.int .i64 x8_1))))] := ⟨fun j h => j h⟩
set_option maxRecDepth 20000 in
set_option maxHeartbeats 2000000 in
theorem slices_Index_int_int.con (k : Nat) (l0 : List Int) (a1 : Int) (r : Int) (H : slices_Index_int_int.f k l0 a1 = some r) : Con Tryz.prog 94 [.p (.c (.sl (.int .i64) l0)), .p (.c (.v (.int .i64 a1)))] (.p (.c (.v (.int .i64 r)))) := by
  refine Con.mk' (fn := Tryz.f94) Tryz.func94 rfl (by kernel_rfl) rfl rfl rfl fun X w0 gs hF => ?_
  unfold slices_Index_int_int.f at H
  exact auto
instance slices_Index_int_int.ctr {k : Nat} {l0 : List Int} {a1 : Int} {r : Int} : Ctr (slices_Index_int_int.f k l0 a1 = some r) (Con Tryz.prog 94 [.p (.c (.sl (.int .i64) l0)), .p (.c (.v (.int .i64 a1)))] (.p (.c (.v (.int .i64 r))))) := ⟨slices_Index_int_int.con _ _ _ _⟩
/-! ### impl_holeFor: function 56 -/
def impl_holeFor.f (k : Nat) (l0_0 : List Int) (a0_1 : Int) (a1_0 : Int) (a1_1 : Int) (a1_2 : Int) : Option (Int × Int × Int × Bool) := (slices_Index_int_int.f k l0_0 a1_0).bind fun t386 => ((impl_noteEnd.f a1_0 a1_1 a1_2).bind fun t387 => (if t386 < 0 then (some (0, 0, 0, false)) else ((impl_IsHole.f t386 (wrap64 (2 * a1_1)) (wrap64 ((wrap64 (2 * t387)) - 1))).bind fun t389 => (if t389 = true then (some (t386, wrap64 (2 * a1_1), wrap64 ((wrap64 (2 * t387)) - 1), true)) else (some (0, 0, 0, false))))))
set_option maxRecDepth 20000 in
set_option maxHeartbeats 2000000 in
theorem impl_holeFor.con (k : Nat) (l0_0 : List Int) (a0_1 : Int) (a1_0 : Int) (a1_1 : Int) (a1_2 : Int) (r1 : Int) (r2 : Int) (r3 : Int) (r4 : Bool) (H : impl_holeFor.f k l0_0 a0_1 a1_0 a1_1 a1_2 = some (r1, r2, r3, r4)) : Con Tryz.prog 56 [.p (.ag [.sl (.int .i64) l0_0, .v (.int .i64 a0_1)]), .p (.ag [.v (.int .i64 a1_0), .v (.int .i64 a1_1), .v (.int .i64 a1_2)])] (.tp [.ag [.v (.int .i64 r1), .v (.int .i64 r2), .v (.int .i64 r3)], .c (.v (.bool r4))]) := by
  refine Con.mk' (fn := Tryz.f56) Tryz.func56 rfl (by kernel_rfl) rfl rfl rfl fun X w0 gs hF => ?_
  unfold impl_holeFor.f at H
  exact auto
instance impl_holeFor.ctr {k : Nat} {l0_0 : List Int} {a0_1 : Int} {a1_0 : Int} {a1_1 : Int} {a1_2 : Int} {t_ : (Int) × (Int) × (Int) × (Bool)} : Ctr (impl_holeFor.f k l0_0 a0_1 a1_0 a1_1 a1_2 = some t_) (Con Tryz.prog 56 [.p (.ag [.sl (.int .i64) l0_0, .v (.int .i64 a0_1)]), .p (.ag [.v (.int .i64 a1_0), .v (.int .i64 a1_1), .v (.int .i64 a1_2)])] (.tp [.ag [.v (.int .i64 t_.1), .v (.int .i64 t_.2.1), .v (.int .i64 t_.2.2.1)], .c (.v (.bool t_.2.2.2))])) := ⟨fun h => impl_holeFor.con _ _ _ _ _ _ (t_.1) (t_.2.1) (t_.2.2.1) (t_.2.2.2) h⟩
end Go.Proofs.YtgjpphcbdbfhlaaGreat.L
