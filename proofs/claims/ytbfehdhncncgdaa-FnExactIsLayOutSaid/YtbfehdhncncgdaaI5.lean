/- BY EV: what the Go functions compute (read off the print), and that their calls come to it. No condition. -/
import Derived.Test.YtbfehdhncncgdaaIEU
import Derived.Test.YtbfehdhncncgdaaI4
set_option linter.unusedVariables false
set_option linter.unusedSimpArgs false
namespace Go.Proofs.Ytbfehdhncncgdaa.I
open Go.RowKit Go.Proofs Go.Proofs.YtbfehdhncncgdaaW.PrintWords Go.Proofs.YtbfehdhncncgdaaW.PrintLast EV
/-! ### spec_inFast: function 65 -/
def spec_inFast.l0 : Nat → List (S57) → Int → List (List Int) → List (S57) → Int → Int → Option ((List (List Int)))
  | 0, _, _, _, _, _, _ => none
  | k + 1, x0, x1, x5, x9, x10, x11 => if x11 < x10 then (if 0 ≤ x11 then (if x11 < (x9.length : Int) then ((spec_inLast.f k x0 x11).bind fun t264 => (if t264 ≥ 0 then (if 0 ≤ t264 then (if t264 < (x0.length : Int) then (if (wrap64 (((rd_T57 x9 x11).f1) - ((rd_T57 x0 t264).f1))) < x1 then (if x5.length < 5864062014805 then (spec_inFast.l0 k x0 x1 (x5 ++ [(([t264, x11] : List Int))]) x9 x10 (wrap64 (x11 + 1))) else (none)) else (spec_inFast.l0 k x0 x1 x5 x9 x10 (wrap64 (x11 + 1)))) else (none)) else (none)) else (spec_inFast.l0 k x0 x1 x5 x9 x10 (wrap64 (x11 + 1))))) else (none)) else (none)) else (some x5)
def spec_inFast.f (k : Nat) (l0 : List (S57)) (a1 : Int) : Option ((List (List Int))) := spec_inFast.l0 k l0 a1 ([] : List (List Int)) l0 (l0.length : Int) 0
instance spec_inFast.lp0 {k : Nat} {r : (List (List Int))} {Q : Wr → Prop} {p0 : List (S57)} {p1 : Int} {p3 : List (S57)} {p4 : Int} {x5_1 : List (List Int)} {x11_1 : Int} : Lp (spec_inFast.l0 k p0 p1 x5_1 p3 p4 x11_1 = some r) Q (fun k => ∀ {x5_1 : List (List Int)} {x11_1 : Int}, spec_inFast.l0 k p0 p1 x5_1 p3 p4 x11_1 = some r → Q [(10, .p (.c (.rp (Try.f65.ntmps + 5)))), (2 * (Try.f65.ntmps + 5) + 1, .row 22 KL3 x5_1), (22, .p (.c (.v (.int .i64 x11_1))))]) k [(10, .p (.c (.rp (Try.f65.ntmps + 5)))), (2 * (Try.f65.ntmps + 5) + 1, .row 22 KL3 x5_1), (22, .p (.c (.v (.int .i64 x11_1))))] := ⟨fun j h => j h⟩
set_option maxRecDepth 8000 in
set_option maxHeartbeats 2000000 in
theorem spec_inFast.con (k : Nat) (l0 : List (S57)) (a1 : Int) (r : List (List Int)) (H : spec_inFast.f k l0 a1 = some r) : Con Try.prog 65 [.p (.c (.sl K57 l0)), .p (.c (.v (.int .i64 a1)))] (.p (.c (.ow 22 KL3 r))) := by
  refine Con.mk' (fn := Try.f65) Try.func65 rfl (by kernel_rfl) rfl rfl rfl fun X w0 gs hF => ?_
  unfold spec_inFast.f at H
  exact auto
instance spec_inFast.ctr {k : Nat} {l0 : List (S57)} {a1 : Int} {r : List (List Int)} : Ctr (spec_inFast.f k l0 a1 = some r) (Con Try.prog 65 [.p (.c (.sl K57 l0)), .p (.c (.v (.int .i64 a1)))] (.p (.c (.ow 22 KL3 r)))) := ⟨spec_inFast.con _ _ _ _⟩
/-! ### spec_inPlays: function 44 -/
def spec_inPlays.f (k : Nat) (l0_0 : List Int) (a0_1 : Int) (l1 : List (S57)) : Option (Bool) := (spec_inMissing.f k l0_0 a0_1 l1).bind fun t273 => (if (t273.length : Int) = 0 then ((spec_inFast.f k l1 a0_1).bind fun t276 => (some ((t276.length : Int) == 0))) else (some false))
set_option maxRecDepth 8000 in
set_option maxHeartbeats 2000000 in
theorem spec_inPlays.con (k : Nat) (l0_0 : List Int) (a0_1 : Int) (l1 : List (S57)) (r : Bool) (H : spec_inPlays.f k l0_0 a0_1 l1 = some r) : Con Try.prog 44 [.p (.ag [.sl (.int .i64) l0_0, .v (.int .i64 a0_1)]), .p (.c (.sl K57 l1))] (.p (.c (.v (.bool r)))) := by
  refine Con.mk' (fn := Try.f44) Try.func44 rfl (by kernel_rfl) rfl rfl rfl fun X w0 gs hF => ?_
  unfold spec_inPlays.f at H
  exact auto
instance spec_inPlays.ctr {k : Nat} {l0_0 : List Int} {a0_1 : Int} {l1 : List (S57)} {r : Bool} : Ctr (spec_inPlays.f k l0_0 a0_1 l1 = some r) (Con Try.prog 44 [.p (.ag [.sl (.int .i64) l0_0, .v (.int .i64 a0_1)]), .p (.c (.sl K57 l1))] (.p (.c (.v (.bool r))))) := ⟨spec_inPlays.con _ _ _ _ _⟩
/-! ### laws_toHole: function 45 -/
def laws_toHole.f (a0_0 : Int) (a0_1 : Int) (a0_2 : Int) : Option (Int × Int × Int) := some (a0_0, a0_1, a0_2)
set_option maxRecDepth 8000 in
set_option maxHeartbeats 2000000 in
theorem laws_toHole.con (a0_0 : Int) (a0_1 : Int) (a0_2 : Int) (r1 : Int) (r2 : Int) (r3 : Int) (H : laws_toHole.f a0_0 a0_1 a0_2 = some (r1, r2, r3)) : Con Try.prog 45 [.p (.ag [.v (.int .i64 a0_0), .v (.int .i64 a0_1), .v (.int .i64 a0_2)])] (.p (.ag [.v (.int .i64 r1), .v (.int .i64 r2), .v (.int .i64 r3)])) := by
  refine Con.mk' (fn := Try.f45) Try.func45 rfl (by kernel_rfl) rfl rfl rfl fun X w0 gs hF => ?_
  unfold laws_toHole.f at H
  exact auto
instance laws_toHole.ctr {a0_0 : Int} {a0_1 : Int} {a0_2 : Int} {t_ : (Int) × (Int) × (Int)} : Ctr (laws_toHole.f a0_0 a0_1 a0_2 = some t_) (Con Try.prog 45 [.p (.ag [.v (.int .i64 a0_0), .v (.int .i64 a0_1), .v (.int .i64 a0_2)])] (.p (.ag [.v (.int .i64 t_.1), .v (.int .i64 t_.2.1), .v (.int .i64 t_.2.2)]))) := ⟨fun h => laws_toHole.con _ _ _ (t_.1) (t_.2.1) (t_.2.2) h⟩
/-! ### laws_toHoleS: function 24 -/
def laws_toHoleS.l0 : Nat → List (S73) → List (S64) → Int → Option ((List (S64)))
  | 0, _, _, _ => none
  | k + 1, x0, x3, x4 => if x4 < (x0.length : Int) then (if 0 ≤ x4 then ((laws_toHole.f ((rd_T73 x0 x4).f0) ((rd_T73 x0 x4).f1) ((rd_T73 x0 x4).f2)).bind fun bt293 => (if x4 < (x3.length : Int) then (laws_toHoleS.l0 k x0 (x3.set (x4 : Int).toNat (⟨bt293.1, bt293.2.1, bt293.2.2⟩ : S64)) (wrap64 (x4 + 1))) else (none))) else (none)) else (some x3)
def laws_toHoleS.f (k : Nat) (l0 : List (S73)) : Option ((List (S64))) := if 0 ≤ (l0.length : Int) then (if ((l0.length : Int) : Int).toNat ≤ 11728124029610 then (laws_toHoleS.l0 k l0 (List.replicate ((l0.length : Int) : Int).toNat z64) 0) else (none)) else (none)
instance laws_toHoleS.lp0 {k : Nat} {r : (List (S64))} {Q : Wr → Prop} {p0 : List (S73)} {x3_1 : List (S64)} {x4_1 : Int} : Lp (laws_toHoleS.l0 k p0 x3_1 x4_1 = some r) Q (fun k => ∀ {x3_1 : List (S64)} {x4_1 : Int}, laws_toHoleS.l0 k p0 x3_1 x4_1 = some r → Q [(6, .p (.c (.rp (Try.f24.ntmps + 3)))), (2 * (Try.f24.ntmps + 3) + 1, .row 64 K64 x3_1), (8, .p (.c (.v (.int .i64 x4_1))))]) k [(6, .p (.c (.rp (Try.f24.ntmps + 3)))), (2 * (Try.f24.ntmps + 3) + 1, .row 64 K64 x3_1), (8, .p (.c (.v (.int .i64 x4_1))))] := ⟨fun j h => j h⟩
set_option maxRecDepth 8000 in
set_option maxHeartbeats 2000000 in
theorem laws_toHoleS.con (k : Nat) (l0 : List (S73)) (r : List (S64)) (H : laws_toHoleS.f k l0 = some r) : Con Try.prog 24 [.p (.c (.sl K73 l0))] (.p (.c (.ow 64 K64 r))) := by
  refine Con.mk' (fn := Try.f24) Try.func24 rfl (by kernel_rfl) rfl rfl rfl fun X w0 gs hF => ?_
  unfold laws_toHoleS.f at H
  exact auto
instance laws_toHoleS.ctr {k : Nat} {l0 : List (S73)} {r : List (S64)} : Ctr (laws_toHoleS.f k l0 = some r) (Con Try.prog 24 [.p (.c (.sl K73 l0))] (.p (.c (.ow 64 K64 r)))) := ⟨laws_toHoleS.con _ _ _⟩
/-! ### impl_isPitch: function 54 -/
def impl_isPitch.f (a0 : Int) : Option (Bool) := if a0 ≥ 24 then (some (decide (a0 ≤ 96))) else (some false)
set_option maxRecDepth 8000 in
set_option maxHeartbeats 2000000 in
theorem impl_isPitch.con (a0 : Int) (r : Bool) (H : impl_isPitch.f a0 = some r) : Con Try.prog 54 [.p (.c (.v (.int .i64 a0)))] (.p (.c (.v (.bool r)))) := by
  refine Con.mk' (fn := Try.f54) Try.func54 rfl (by kernel_rfl) rfl rfl rfl fun X w0 gs hF => ?_
  unfold impl_isPitch.f at H
  exact auto
instance impl_isPitch.ctr {a0 : Int} {r : Bool} : Ctr (impl_isPitch.f a0 = some r) (Con Try.prog 54 [.p (.c (.v (.int .i64 a0)))] (.p (.c (.v (.bool r))))) := ⟨impl_isPitch.con _ _⟩
/-! ### impl_IsInstrument: function 33 -/
mutual
def impl_IsInstrument.j0 : Nat → Bool → List Int → Int → Option (Bool)
  | 0, _, _, _ => none
  | k + 1, x24, x298000, x298001 => if x24 = true then (some false) else (impl_IsInstrument.l0 k x298000 (x298000.length : Int) 0 x298000 x298001)
def impl_IsInstrument.l0 : Nat → List Int → Int → Int → List Int → Int → Option (Bool)
  | 0, _, _, _, _, _ => none
  | k + 1, x26, x27, x28, x298000, x298001 => if x28 < x27 then (if 0 ≤ x28 then (if x28 < (x26.length : Int) then ((impl_isPitch.f (rd x26 x28)).bind fun t299 => (if t299 = true then (if x28 > 0 then (if 0 ≤ (wrap64 (x28 - 1)) then (if (wrap64 (x28 - 1)) < (x298000.length : Int) then (if (rd x26 x28) ≤ (rd x298000 (wrap64 (x28 - 1))) then (some false) else (impl_IsInstrument.l0 k x26 x27 (wrap64 (x28 + 1)) x298000 x298001)) else (none)) else (none)) else (impl_IsInstrument.l0 k x26 x27 (wrap64 (x28 + 1)) x298000 x298001)) else (some false))) else (none)) else (none)) else (some true)
end
def impl_IsInstrument.f (k : Nat) (l0_0 : List Int) (a0_1 : Int) : Option (Bool) := if (l0_0.length : Int) < 1 then (impl_IsInstrument.j0 k true l0_0 a0_1) else (if (l0_0.length : Int) > 20 then (impl_IsInstrument.j0 k true l0_0 a0_1) else (if a0_1 < 1 then (impl_IsInstrument.j0 k true l0_0 a0_1) else (impl_IsInstrument.j0 k (decide (a0_1 > 20)) l0_0 a0_1)))
instance impl_IsInstrument.lp0 {k : Nat} {r : Bool} {Q : Wr → Prop} {p0 : List Int} {p1 : Int} {p3 : List Int} {p4 : Int} {x28_2 : Int} : Lp (impl_IsInstrument.l0 k p0 p1 x28_2 p3 p4 = some r) Q (fun k => ∀ {x28_2 : Int}, impl_IsInstrument.l0 k p0 p1 x28_2 p3 p4 = some r → Q [(56, .p (.c (.v (.int .i64 x28_2))))]) k [(56, .p (.c (.v (.int .i64 x28_2))))] := ⟨fun j h => j h⟩
set_option maxRecDepth 8000 in
set_option maxHeartbeats 2000000 in
theorem impl_IsInstrument.con (k : Nat) (l0_0 : List Int) (a0_1 : Int) (r : Bool) (H : impl_IsInstrument.f k l0_0 a0_1 = some r) : Con Try.prog 33 [.p (.ag [.sl (.int .i64) l0_0, .v (.int .i64 a0_1)])] (.p (.c (.v (.bool r)))) := by
  refine Con.mk' (fn := Try.f33) Try.func33 rfl (by kernel_rfl) rfl rfl rfl fun X w0 gs hF => ?_
  unfold impl_IsInstrument.f at H
  exact auto
instance impl_IsInstrument.ctr {k : Nat} {l0_0 : List Int} {a0_1 : Int} {r : Bool} : Ctr (impl_IsInstrument.f k l0_0 a0_1 = some r) (Con Try.prog 33 [.p (.ag [.sl (.int .i64) l0_0, .v (.int .i64 a0_1)])] (.p (.c (.v (.bool r))))) := ⟨impl_IsInstrument.con _ _ _ _⟩
/-! ### slices_Index_int_int: function 80 -/
def slices_Index_int_int.l0 : Nat → List Int → Int → Int → Int → Option (Int)
  | 0, _, _, _, _ => none
  | k + 1, x0, x1, x7, x8 => if x8 < x7 then (if 0 ≤ x8 then (if x8 < (x0.length : Int) then (if x1 = (rd x0 x8) then (some x8) else (slices_Index_int_int.l0 k x0 x1 x7 (wrap64 (x8 + 1)))) else (none)) else (none)) else (some (-1))
def slices_Index_int_int.f (k : Nat) (l0 : List Int) (a1 : Int) : Option (Int) := slices_Index_int_int.l0 k l0 a1 (l0.length : Int) 0
instance slices_Index_int_int.lp0 {k : Nat} {r : Int} {Q : Wr → Prop} {p0 : List Int} {p1 : Int} {p2 : Int} {x8_1 : Int} : Lp (slices_Index_int_int.l0 k p0 p1 p2 x8_1 = some r) Q (fun k => ∀ {x8_1 : Int}, slices_Index_int_int.l0 k p0 p1 p2 x8_1 = some r → Q [(16, .p (.c (.v (.int .i64 x8_1))))]) k [(16, .p (.c (.v (.int .i64 x8_1))))] := ⟨fun j h => j h⟩
set_option maxRecDepth 8000 in
set_option maxHeartbeats 2000000 in
theorem slices_Index_int_int.con (k : Nat) (l0 : List Int) (a1 : Int) (r : Int) (H : slices_Index_int_int.f k l0 a1 = some r) : Con Try.prog 80 [.p (.c (.sl (.int .i64) l0)), .p (.c (.v (.int .i64 a1)))] (.p (.c (.v (.int .i64 r)))) := by
  refine Con.mk' (fn := Try.f80) Try.func80 rfl (by kernel_rfl) rfl rfl rfl fun X w0 gs hF => ?_
  unfold slices_Index_int_int.f at H
  exact auto
instance slices_Index_int_int.ctr {k : Nat} {l0 : List Int} {a1 : Int} {r : Int} : Ctr (slices_Index_int_int.f k l0 a1 = some r) (Con Try.prog 80 [.p (.c (.sl (.int .i64) l0)), .p (.c (.v (.int .i64 a1)))] (.p (.c (.v (.int .i64 r))))) := ⟨slices_Index_int_int.con _ _ _ _⟩
/-! ### slices_Contains_int_int: function 78 -/
def slices_Contains_int_int.f (k : Nat) (l0 : List Int) (a1 : Int) : Option (Bool) := (slices_Index_int_int.f k l0 a1).bind fun t302 => (some (decide (t302 ≥ 0)))
set_option maxRecDepth 8000 in
set_option maxHeartbeats 2000000 in
theorem slices_Contains_int_int.con (k : Nat) (l0 : List Int) (a1 : Int) (r : Bool) (H : slices_Contains_int_int.f k l0 a1 = some r) : Con Try.prog 78 [.p (.c (.sl (.int .i64) l0)), .p (.c (.v (.int .i64 a1)))] (.p (.c (.v (.bool r)))) := by
  refine Con.mk' (fn := Try.f78) Try.func78 rfl (by kernel_rfl) rfl rfl rfl fun X w0 gs hF => ?_
  unfold slices_Contains_int_int.f at H
  exact auto
instance slices_Contains_int_int.ctr {k : Nat} {l0 : List Int} {a1 : Int} {r : Bool} : Ctr (slices_Contains_int_int.f k l0 a1 = some r) (Con Try.prog 78 [.p (.c (.sl (.int .i64) l0)), .p (.c (.v (.int .i64 a1)))] (.p (.c (.v (.bool r))))) := ⟨slices_Contains_int_int.con _ _ _ _⟩
/-! ### impl_fastRepeats: function 79 -/
mutual
def impl_fastRepeats.l0 : Nat → List (S57) → Int → List (List Int) → List (S57) → Int → Int → Option ((List (List Int)))
  | 0, _, _, _, _, _, _ => none
  | k + 1, x0, x1, x5, x10, x11, x12 => if x12 < x11 then (if 0 ≤ x12 then (if x12 < (x10.length : Int) then (impl_fastRepeats.l1 k x0 x1 x5 x12 (wrap64 (x12 - 1)) x10 x11 x12 ((rd_T57 x10 x12).f0) ((rd_T57 x10 x12).f1) ((rd_T57 x10 x12).f2)) else (none)) else (none)) else (some x5)
def impl_fastRepeats.l1 : Nat → List (S57) → Int → List (List Int) → Int → Int → List (S57) → Int → Int → Int → Int → Int → Option ((List (List Int)))
  | 0, _, _, _, _, _, _, _, _, _, _, _ => none
  | k + 1, x0, x1, x5, x6, x8, x10, x11, x12, x308000, x308001, x308002 => if x8 ≥ 0 then (if 0 ≤ x8 then (if x8 < (x0.length : Int) then (if ((rd_T57 x0 x8).f0) = x308000 then (if (wrap64 (x308001 - ((rd_T57 x0 x8).f1))) < x1 then (if x5.length < 5864062014805 then (impl_fastRepeats.l0 k x0 x1 (x5 ++ [(([x8, x6] : List Int))]) x10 x11 (wrap64 (x12 + 1))) else (none)) else (impl_fastRepeats.l0 k x0 x1 x5 x10 x11 (wrap64 (x12 + 1)))) else (impl_fastRepeats.l1 k x0 x1 x5 x6 (wrap64 (x8 - 1)) x10 x11 x12 x308000 x308001 x308002)) else (none)) else (none)) else (impl_fastRepeats.l0 k x0 x1 x5 x10 x11 (wrap64 (x12 + 1)))
end
def impl_fastRepeats.f (k : Nat) (l0 : List (S57)) (a1 : Int) : Option ((List (List Int))) := impl_fastRepeats.l0 k l0 a1 (([] : List (List Int))) l0 (l0.length : Int) 0
instance impl_fastRepeats.lp0 {k : Nat} {r : (List (List Int))} {Q : Wr → Prop} {p0 : List (S57)} {p1 : Int} {p3 : List (S57)} {p4 : Int} {x5_1 : List (List Int)} {x12_1 : Int} : Lp (impl_fastRepeats.l0 k p0 p1 x5_1 p3 p4 x12_1 = some r) Q (fun k => ∀ {x5_1 : List (List Int)} {x12_1 : Int}, impl_fastRepeats.l0 k p0 p1 x5_1 p3 p4 x12_1 = some r → Q [(10, .p (.c (.rp (Try.f79.ntmps + 5)))), (2 * (Try.f79.ntmps + 5) + 1, .row 22 KL3 x5_1), (24, .p (.c (.v (.int .i64 x12_1))))]) k [(10, .p (.c (.rp (Try.f79.ntmps + 5)))), (2 * (Try.f79.ntmps + 5) + 1, .row 22 KL3 x5_1), (24, .p (.c (.v (.int .i64 x12_1))))] := ⟨fun j h => j h⟩
instance impl_fastRepeats.lp1 {k : Nat} {r : (List (List Int))} {Q : Wr → Prop} {p0 : List (S57)} {p1 : Int} {p3 : Int} {p5 : List (S57)} {p6 : Int} {p7 : Int} {p8 : Int} {p9 : Int} {p10 : Int} {x5_2 : List (List Int)} {x8_2 : Int} : Lp (impl_fastRepeats.l1 k p0 p1 x5_2 p3 x8_2 p5 p6 p7 p8 p9 p10 = some r) Q (fun k => ∀ {x5_2 : List (List Int)} {x8_2 : Int}, impl_fastRepeats.l1 k p0 p1 x5_2 p3 x8_2 p5 p6 p7 p8 p9 p10 = some r → Q [(10, .p (.c (.rp (Try.f79.ntmps + 5)))), (2 * (Try.f79.ntmps + 5) + 1, .row 22 KL3 x5_2), (16, .p (.c (.v (.int .i64 x8_2))))]) k [(10, .p (.c (.rp (Try.f79.ntmps + 5)))), (2 * (Try.f79.ntmps + 5) + 1, .row 22 KL3 x5_2), (16, .p (.c (.v (.int .i64 x8_2))))] := ⟨fun j h => j h⟩
set_option maxRecDepth 8000 in
set_option maxHeartbeats 2000000 in
theorem impl_fastRepeats.con (k : Nat) (l0 : List (S57)) (a1 : Int) (r : List (List Int)) (H : impl_fastRepeats.f k l0 a1 = some r) : Con Try.prog 79 [.p (.c (.sl K57 l0)), .p (.c (.v (.int .i64 a1)))] (.p (.c (.ow 22 KL3 r))) := by
  refine Con.mk' (fn := Try.f79) Try.func79 rfl (by kernel_rfl) rfl rfl rfl fun X w0 gs hF => ?_
  unfold impl_fastRepeats.f at H
  exact auto
instance impl_fastRepeats.ctr {k : Nat} {l0 : List (S57)} {a1 : Int} {r : List (List Int)} : Ctr (impl_fastRepeats.f k l0 a1 = some r) (Con Try.prog 79 [.p (.c (.sl K57 l0)), .p (.c (.v (.int .i64 a1)))] (.p (.c (.ow 22 KL3 r)))) := ⟨impl_fastRepeats.con _ _ _ _⟩
/-! ### impl_canPlay: function 58 -/
def impl_canPlay.l0 : Nat → List (S57) → List (S57) → Int → Int → List Int → Int → Option (Bool)
  | 0, _, _, _, _, _, _ => none
  | k + 1, x1, x7, x8, x9, x317000, x317001 => if x9 < x8 then (if 0 ≤ x9 then (if x9 < (x7.length : Int) then ((slices_Contains_int_int.f k x317000 ((rd_T57 x7 x9).f0)).bind fun t319 => (if t319 = true then (impl_canPlay.l0 k x1 x7 x8 (wrap64 (x9 + 1)) x317000 x317001) else (some false))) else (none)) else (none)) else ((impl_fastRepeats.f k x1 x317001).bind fun t320 => (some ((t320.length : Int) == 0)))
def impl_canPlay.f (k : Nat) (l0_0 : List Int) (a0_1 : Int) (l1 : List (S57)) : Option (Bool) := impl_canPlay.l0 k l1 l1 (l1.length : Int) 0 l0_0 a0_1
instance impl_canPlay.lp0 {k : Nat} {r : Bool} {Q : Wr → Prop} {p0 : List (S57)} {p1 : List (S57)} {p2 : Int} {p4 : List Int} {p5 : Int} {x9_1 : Int} : Lp (impl_canPlay.l0 k p0 p1 p2 x9_1 p4 p5 = some r) Q (fun k => ∀ {x9_1 : Int}, impl_canPlay.l0 k p0 p1 p2 x9_1 p4 p5 = some r → Q [(18, .p (.c (.v (.int .i64 x9_1))))]) k [(18, .p (.c (.v (.int .i64 x9_1))))] := ⟨fun j h => j h⟩
set_option maxRecDepth 8000 in
set_option maxHeartbeats 2000000 in
theorem impl_canPlay.con (k : Nat) (l0_0 : List Int) (a0_1 : Int) (l1 : List (S57)) (r : Bool) (H : impl_canPlay.f k l0_0 a0_1 l1 = some r) : Con Try.prog 58 [.p (.ag [.sl (.int .i64) l0_0, .v (.int .i64 a0_1)]), .p (.c (.sl K57 l1))] (.p (.c (.v (.bool r)))) := by
  refine Con.mk' (fn := Try.f58) Try.func58 rfl (by kernel_rfl) rfl rfl rfl fun X w0 gs hF => ?_
  unfold impl_canPlay.f at H
  exact auto
instance impl_canPlay.ctr {k : Nat} {l0_0 : List Int} {a0_1 : Int} {l1 : List (S57)} {r : Bool} : Ctr (impl_canPlay.f k l0_0 a0_1 l1 = some r) (Con Try.prog 58 [.p (.ag [.sl (.int .i64) l0_0, .v (.int .i64 a0_1)]), .p (.c (.sl K57 l1))] (.p (.c (.v (.bool r))))) := ⟨impl_canPlay.con _ _ _ _ _⟩
end Go.Proofs.Ytbfehdhncncgdaa.I
