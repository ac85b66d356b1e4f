/- BY EV: what the Go functions compute (read off the print), and that their calls come to it. No condition. -/
import Derived.Test.YtbfehdhncncgdaaLEU
import Derived.Test.YtbfehdhncncgdaaL3
import Derived.Test.YtbfehdhncncgdaaL4
set_option linter.unusedVariables false
set_option linter.unusedSimpArgs false
namespace Go.Proofs.Ytbfehdhncncgdaa.L
open Go.RowKit Go.Proofs Go.Proofs.YtbfehdhncncgdaaW.PrintWords Go.Proofs.YtbfehdhncncgdaaW.PrintLast EV
/-! ### impl_holeFor: function 59 -/
def impl_holeFor.f (k : Nat) (l0_0 : List Int) (a0_1 : Int) (a1_0 : Int) (a1_1 : Int) (a1_2 : Int) : Option (Int × Int × Int × Bool) := (slices_Index_int_int.f k l0_0 a1_0).bind fun t331 => ((impl_noteEnd.f a1_0 a1_1 a1_2).bind fun t332 => (if t331 < 0 then (some (0, 0, 0, false)) else ((impl_IsHole.f t331 (wrap64 (2 * a1_1)) (wrap64 ((wrap64 (2 * t332)) - 1))).bind fun t334 => (if t334 = true then (some (t331, wrap64 (2 * a1_1), wrap64 ((wrap64 (2 * t332)) - 1), true)) else (some (0, 0, 0, false))))))
set_option maxRecDepth 8000 in
set_option maxHeartbeats 2000000 in
theorem impl_holeFor.con (k : Nat) (l0_0 : List Int) (a0_1 : Int) (a1_0 : Int) (a1_1 : Int) (a1_2 : Int) (r1 : Int) (r2 : Int) (r3 : Int) (r4 : Bool) (H : impl_holeFor.f k l0_0 a0_1 a1_0 a1_1 a1_2 = some (r1, r2, r3, r4)) : Con Try.prog 59 [.p (.ag [.sl (.int .i64) l0_0, .v (.int .i64 a0_1)]), .p (.ag [.v (.int .i64 a1_0), .v (.int .i64 a1_1), .v (.int .i64 a1_2)])] (.tp [.ag [.v (.int .i64 r1), .v (.int .i64 r2), .v (.int .i64 r3)], .c (.v (.bool r4))]) := by
  refine Con.mk' (fn := Try.f59) Try.func59 rfl (by kernel_rfl) rfl rfl rfl fun X w0 gs hF => ?_
  unfold impl_holeFor.f at H
  exact auto
instance impl_holeFor.ctr {k : Nat} {l0_0 : List Int} {a0_1 : Int} {a1_0 : Int} {a1_1 : Int} {a1_2 : Int} {t_ : (Int) × (Int) × (Int) × (Bool)} : Ctr (impl_holeFor.f k l0_0 a0_1 a1_0 a1_1 a1_2 = some t_) (Con Try.prog 59 [.p (.ag [.sl (.int .i64) l0_0, .v (.int .i64 a0_1)]), .p (.ag [.v (.int .i64 a1_0), .v (.int .i64 a1_1), .v (.int .i64 a1_2)])] (.tp [.ag [.v (.int .i64 t_.1), .v (.int .i64 t_.2.1), .v (.int .i64 t_.2.2.1)], .c (.v (.bool t_.2.2.2))])) := ⟨fun h => impl_holeFor.con _ _ _ _ _ _ (t_.1) (t_.2.1) (t_.2.2.1) (t_.2.2.2) h⟩
/-! ### laws_eqHole: function 36 -/
def laws_eqHole.f (a0_0 : Int) (a0_1 : Int) (a0_2 : Int) (a1_0 : Int) (a1_1 : Int) (a1_2 : Int) : Option (Bool) := if a0_0 = a1_0 then (if a0_1 = a1_1 then (if a0_2 = a1_2 then (some true) else (some false)) else (some false)) else (some false)
set_option maxRecDepth 8000 in
set_option maxHeartbeats 2000000 in
theorem laws_eqHole.con (a0_0 : Int) (a0_1 : Int) (a0_2 : Int) (a1_0 : Int) (a1_1 : Int) (a1_2 : Int) (r : Bool) (H : laws_eqHole.f a0_0 a0_1 a0_2 a1_0 a1_1 a1_2 = some r) : Con Try.prog 36 [.p (.ag [.v (.int .i64 a0_0), .v (.int .i64 a0_1), .v (.int .i64 a0_2)]), .p (.ag [.v (.int .i64 a1_0), .v (.int .i64 a1_1), .v (.int .i64 a1_2)])] (.p (.c (.v (.bool r)))) := by
  refine Con.mk' (fn := Try.f36) Try.func36 rfl (by kernel_rfl) rfl rfl rfl fun X w0 gs hF => ?_
  unfold laws_eqHole.f at H
  exact auto
instance laws_eqHole.ctr {a0_0 : Int} {a0_1 : Int} {a0_2 : Int} {a1_0 : Int} {a1_1 : Int} {a1_2 : Int} {r : Bool} : Ctr (laws_eqHole.f a0_0 a0_1 a0_2 a1_0 a1_1 a1_2 = some r) (Con Try.prog 36 [.p (.ag [.v (.int .i64 a0_0), .v (.int .i64 a0_1), .v (.int .i64 a0_2)]), .p (.ag [.v (.int .i64 a1_0), .v (.int .i64 a1_1), .v (.int .i64 a1_2)])] (.p (.c (.v (.bool r))))) := ⟨laws_eqHole.con _ _ _ _ _ _ _⟩
/-! ### laws_eqHoleS: function 13 -/
def laws_eqHoleS.l0 : Nat → List (S64) → List (S64) → Int → Option (Bool)
  | 0, _, _, _ => none
  | k + 1, x0, x1, x5 => if x5 < (x0.length : Int) then (if 0 ≤ x5 then (if x5 < (x1.length : Int) then ((laws_eqHole.f ((rd_T64 x0 x5).f0) ((rd_T64 x0 x5).f1) ((rd_T64 x0 x5).f2) ((rd_T64 x1 x5).f0) ((rd_T64 x1 x5).f1) ((rd_T64 x1 x5).f2)).bind fun t365 => (if t365 = true then (laws_eqHoleS.l0 k x0 x1 (wrap64 (x5 + 1))) else (some false))) else (none)) else (none)) else (some true)
def laws_eqHoleS.f (k : Nat) (l0 : List (S64)) (l1 : List (S64)) : Option (Bool) := if (l0.length : Int) = (l1.length : Int) then (laws_eqHoleS.l0 k l0 l1 0) else (some false)
instance laws_eqHoleS.lp0 {k : Nat} {r : Bool} {Q : Wr → Prop} {p0 : List (S64)} {p1 : List (S64)} {x5_1 : Int} : Lp (laws_eqHoleS.l0 k p0 p1 x5_1 = some r) Q (fun k => ∀ {x5_1 : Int}, laws_eqHoleS.l0 k p0 p1 x5_1 = some r → Q [(10, .p (.c (.v (.int .i64 x5_1))))]) k [(10, .p (.c (.v (.int .i64 x5_1))))] := ⟨fun j h => j h⟩
set_option maxRecDepth 8000 in
set_option maxHeartbeats 2000000 in
theorem laws_eqHoleS.con (k : Nat) (l0 : List (S64)) (l1 : List (S64)) (r : Bool) (H : laws_eqHoleS.f k l0 l1 = some r) : Con Try.prog 13 [.p (.c (.sl K64 l0)), .p (.c (.sl K64 l1))] (.p (.c (.v (.bool r)))) := by
  refine Con.mk' (fn := Try.f13) Try.func13 rfl (by kernel_rfl) rfl rfl rfl fun X w0 gs hF => ?_
  unfold laws_eqHoleS.f at H
  exact auto
instance laws_eqHoleS.ctr {k : Nat} {l0 : List (S64)} {l1 : List (S64)} {r : Bool} : Ctr (laws_eqHoleS.f k l0 l1 = some r) (Con Try.prog 13 [.p (.c (.sl K64 l0)), .p (.c (.sl K64 l1))] (.p (.c (.v (.bool r))))) := ⟨laws_eqHoleS.con _ _ _ _⟩
/-! ### laws_eqIntS: function 37 -/
def laws_eqIntS.l0 : Nat → List Int → List Int → Int → Option (Bool)
  | 0, _, _, _ => none
  | k + 1, x0, x1, x5 => if x5 < (x0.length : Int) then (if 0 ≤ x5 then (if x5 < (x1.length : Int) then (if (rd x0 x5) = (rd x1 x5) then (laws_eqIntS.l0 k x0 x1 (wrap64 (x5 + 1))) else (some false)) else (none)) else (none)) else (some true)
def laws_eqIntS.f (k : Nat) (l0 : List Int) (l1 : List Int) : Option (Bool) := if (l0.length : Int) = (l1.length : Int) then (laws_eqIntS.l0 k l0 l1 0) else (some false)
instance laws_eqIntS.lp0 {k : Nat} {r : Bool} {Q : Wr → Prop} {p0 : List Int} {p1 : List Int} {x5_1 : Int} : Lp (laws_eqIntS.l0 k p0 p1 x5_1 = some r) Q (fun k => ∀ {x5_1 : Int}, laws_eqIntS.l0 k p0 p1 x5_1 = some r → Q [(10, .p (.c (.v (.int .i64 x5_1))))]) k [(10, .p (.c (.v (.int .i64 x5_1))))] := ⟨fun j h => j h⟩
set_option maxRecDepth 8000 in
set_option maxHeartbeats 2000000 in
theorem laws_eqIntS.con (k : Nat) (l0 : List Int) (l1 : List Int) (r : Bool) (H : laws_eqIntS.f k l0 l1 = some r) : Con Try.prog 37 [.p (.c (.sl (.int .i64) l0)), .p (.c (.sl (.int .i64) l1))] (.p (.c (.v (.bool r)))) := by
  refine Con.mk' (fn := Try.f37) Try.func37 rfl (by kernel_rfl) rfl rfl rfl fun X w0 gs hF => ?_
  unfold laws_eqIntS.f at H
  exact auto
instance laws_eqIntS.ctr {k : Nat} {l0 : List Int} {l1 : List Int} {r : Bool} : Ctr (laws_eqIntS.f k l0 l1 = some r) (Con Try.prog 37 [.p (.c (.sl (.int .i64) l0)), .p (.c (.sl (.int .i64) l1))] (.p (.c (.v (.bool r))))) := ⟨laws_eqIntS.con _ _ _ _⟩
/-! ### laws_eqInstrument: function 14 -/
def laws_eqInstrument.f (k : Nat) (l0_0 : List Int) (a0_1 : Int) (l1_0 : List Int) (a1_1 : Int) : Option (Bool) := (laws_eqIntS.f k l0_0 l1_0).bind fun t370 => (if t370 = true then (if a0_1 = a1_1 then (some true) else (some false)) else (some false))
set_option maxRecDepth 8000 in
set_option maxHeartbeats 2000000 in
theorem laws_eqInstrument.con (k : Nat) (l0_0 : List Int) (a0_1 : Int) (l1_0 : List Int) (a1_1 : Int) (r : Bool) (H : laws_eqInstrument.f k l0_0 a0_1 l1_0 a1_1 = some r) : Con Try.prog 14 [.p (.ag [.sl (.int .i64) l0_0, .v (.int .i64 a0_1)]), .p (.ag [.sl (.int .i64) l1_0, .v (.int .i64 a1_1)])] (.p (.c (.v (.bool r)))) := by
  refine Con.mk' (fn := Try.f14) Try.func14 rfl (by kernel_rfl) rfl rfl rfl fun X w0 gs hF => ?_
  unfold laws_eqInstrument.f at H
  exact auto
instance laws_eqInstrument.ctr {k : Nat} {l0_0 : List Int} {a0_1 : Int} {l1_0 : List Int} {a1_1 : Int} {r : Bool} : Ctr (laws_eqInstrument.f k l0_0 a0_1 l1_0 a1_1 = some r) (Con Try.prog 14 [.p (.ag [.sl (.int .i64) l0_0, .v (.int .i64 a0_1)]), .p (.ag [.sl (.int .i64) l1_0, .v (.int .i64 a1_1)])] (.p (.c (.v (.bool r))))) := ⟨laws_eqInstrument.con _ _ _ _ _ _⟩
/-! ### laws_eqNote: function 38 -/
def laws_eqNote.f (a0_0 : Int) (a0_1 : Int) (a0_2 : Int) (a1_0 : Int) (a1_1 : Int) (a1_2 : Int) : Option (Bool) := if a0_0 = a1_0 then (if a0_1 = a1_1 then (if a0_2 = a1_2 then (some true) else (some false)) else (some false)) else (some false)
set_option maxRecDepth 8000 in
set_option maxHeartbeats 2000000 in
theorem laws_eqNote.con (a0_0 : Int) (a0_1 : Int) (a0_2 : Int) (a1_0 : Int) (a1_1 : Int) (a1_2 : Int) (r : Bool) (H : laws_eqNote.f a0_0 a0_1 a0_2 a1_0 a1_1 a1_2 = some r) : Con Try.prog 38 [.p (.ag [.v (.int .i64 a0_0), .v (.int .i64 a0_1), .v (.int .i64 a0_2)]), .p (.ag [.v (.int .i64 a1_0), .v (.int .i64 a1_1), .v (.int .i64 a1_2)])] (.p (.c (.v (.bool r)))) := by
  refine Con.mk' (fn := Try.f38) Try.func38 rfl (by kernel_rfl) rfl rfl rfl fun X w0 gs hF => ?_
  unfold laws_eqNote.f at H
  exact auto
instance laws_eqNote.ctr {a0_0 : Int} {a0_1 : Int} {a0_2 : Int} {a1_0 : Int} {a1_1 : Int} {a1_2 : Int} {r : Bool} : Ctr (laws_eqNote.f a0_0 a0_1 a0_2 a1_0 a1_1 a1_2 = some r) (Con Try.prog 38 [.p (.ag [.v (.int .i64 a0_0), .v (.int .i64 a0_1), .v (.int .i64 a0_2)]), .p (.ag [.v (.int .i64 a1_0), .v (.int .i64 a1_1), .v (.int .i64 a1_2)])] (.p (.c (.v (.bool r))))) := ⟨laws_eqNote.con _ _ _ _ _ _ _⟩
/-! ### laws_eqNoteS: function 15 -/
def laws_eqNoteS.l0 : Nat → List (S57) → List (S57) → Int → Option (Bool)
  | 0, _, _, _ => none
  | k + 1, x0, x1, x5 => if x5 < (x0.length : Int) then (if 0 ≤ x5 then (if x5 < (x1.length : Int) then ((laws_eqNote.f ((rd_T57 x0 x5).f0) ((rd_T57 x0 x5).f1) ((rd_T57 x0 x5).f2) ((rd_T57 x1 x5).f0) ((rd_T57 x1 x5).f1) ((rd_T57 x1 x5).f2)).bind fun t375 => (if t375 = true then (laws_eqNoteS.l0 k x0 x1 (wrap64 (x5 + 1))) else (some false))) else (none)) else (none)) else (some true)
def laws_eqNoteS.f (k : Nat) (l0 : List (S57)) (l1 : List (S57)) : Option (Bool) := if (l0.length : Int) = (l1.length : Int) then (laws_eqNoteS.l0 k l0 l1 0) else (some false)
instance laws_eqNoteS.lp0 {k : Nat} {r : Bool} {Q : Wr → Prop} {p0 : List (S57)} {p1 : List (S57)} {x5_1 : Int} : Lp (laws_eqNoteS.l0 k p0 p1 x5_1 = some r) Q (fun k => ∀ {x5_1 : Int}, laws_eqNoteS.l0 k p0 p1 x5_1 = some r → Q [(10, .p (.c (.v (.int .i64 x5_1))))]) k [(10, .p (.c (.v (.int .i64 x5_1))))] := ⟨fun j h => j h⟩
set_option maxRecDepth 8000 in
set_option maxHeartbeats 2000000 in
theorem laws_eqNoteS.con (k : Nat) (l0 : List (S57)) (l1 : List (S57)) (r : Bool) (H : laws_eqNoteS.f k l0 l1 = some r) : Con Try.prog 15 [.p (.c (.sl K57 l0)), .p (.c (.sl K57 l1))] (.p (.c (.v (.bool r)))) := by
  refine Con.mk' (fn := Try.f15) Try.func15 rfl (by kernel_rfl) rfl rfl rfl fun X w0 gs hF => ?_
  unfold laws_eqNoteS.f at H
  exact auto
instance laws_eqNoteS.ctr {k : Nat} {l0 : List (S57)} {l1 : List (S57)} {r : Bool} : Ctr (laws_eqNoteS.f k l0 l1 = some r) (Con Try.prog 15 [.p (.c (.sl K57 l0)), .p (.c (.sl K57 l1))] (.p (.c (.v (.bool r))))) := ⟨laws_eqNoteS.con _ _ _ _⟩
/-! ### laws_markIntS: function 39 -/
def laws_markIntS.l0 : Nat → List Int → Int → Int → Option (Int × List Int)
  | 0, _, _, _ => none
  | k + 1, x0, x1, x5 => if x5 < (x0.length : Int) then (if 0 ≤ x5 then (laws_markIntS.l0 k (x0.set (x5 : Int).toNat x1) (wrap64 (x1 + 1)) (wrap64 (x5 + 1))) else (none)) else (some (x1, x0))
def laws_markIntS.f (k : Nat) (l0 : List Int) (a1 : Int) : Option (Int × List Int) := laws_markIntS.l0 k l0 a1 0
instance laws_markIntS.lp0 {k : Nat} {r : Int × List Int} {Q : Wr → Prop}  {x0_1 : List Int} {x1_1 : Int} {x5_1 : Int} : Lp (laws_markIntS.l0 k x0_1 x1_1 x5_1 = some r) Q (fun k => ∀ {x0_1 : List Int} {x1_1 : Int} {x5_1 : Int}, laws_markIntS.l0 k x0_1 x1_1 x5_1 = some r → Q [(0, .p (.c (.rp (2 * Try.f39.ntmps + 0)))), (2 * (2 * Try.f39.ntmps + 0) + 1, .row 3 (.int .i64) x0_1), (2, .p (.c (.v (.int .i64 x1_1)))), (10, .p (.c (.v (.int .i64 x5_1))))]) k [(0, .p (.c (.rp (2 * Try.f39.ntmps + 0)))), (2 * (2 * Try.f39.ntmps + 0) + 1, .row 3 (.int .i64) x0_1), (2, .p (.c (.v (.int .i64 x1_1)))), (10, .p (.c (.v (.int .i64 x5_1))))] := ⟨fun j h => j h⟩
set_option maxRecDepth 8000 in
set_option maxHeartbeats 2000000 in
theorem laws_markIntS.con (k : Nat) (l0 : List Int) (a1 : Int) (r1 : Int) (r2 : List Int) (H : laws_markIntS.f k l0 a1 = some (r1, r2)) : Con Try.prog 39 [.p (.c (.ow 3 (.int .i64) l0)), .p (.c (.v (.int .i64 a1)))] (.p (.c (.v (.int .i64 r1)))) [(0, .c (.ow 3 (.int .i64) r2))] := by
  refine Con.mk' (fn := Try.f39) Try.func39 rfl (by kernel_rfl) rfl rfl rfl fun X w0 gs hF => ?_
  unfold laws_markIntS.f at H
  exact auto
instance laws_markIntS.ctr {k : Nat} {l0 : List Int} {a1 : Int} {t_ : (Int) × (List Int)} : Ctr (laws_markIntS.f k l0 a1 = some t_) (Con Try.prog 39 [.p (.c (.ow 3 (.int .i64) l0)), .p (.c (.v (.int .i64 a1)))] (.p (.c (.v (.int .i64 t_.1)))) [(0, .c (.ow 3 (.int .i64) t_.2))]) := ⟨fun h => laws_markIntS.con _ _ _ (t_.1) (t_.2) h⟩
/-! ### laws_markInstrument: function 16 -/
def laws_markInstrument.f (k : Nat) (l0_0 : List Int) (a0_1 : Int) (a1 : Int) : Option (Int × List Int) := (laws_markIntS.f k l0_0 a1).bind fun bt378 => (some (bt378.1, bt378.2))
set_option maxRecDepth 8000 in
set_option maxHeartbeats 2000000 in
theorem laws_markInstrument.con (k : Nat) (l0_0 : List Int) (a0_1 : Int) (a1 : Int) (r1 : Int) (r2 : List Int) (H : laws_markInstrument.f k l0_0 a0_1 a1 = some (r1, r2)) : Con Try.prog 16 [.p (.ag [.ow 3 (.int .i64) l0_0, .v (.int .i64 a0_1)]), .p (.c (.v (.int .i64 a1)))] (.p (.c (.v (.int .i64 r1)))) [(0, .c (.ow 3 (.int .i64) r2))] := by
  refine Con.mk' (fn := Try.f16) Try.func16 rfl (by kernel_rfl) rfl rfl rfl fun X w0 gs hF => ?_
  unfold laws_markInstrument.f at H
  exact auto
instance laws_markInstrument.ctr {k : Nat} {l0_0 : List Int} {a0_1 : Int} {a1 : Int} {t_ : (Int) × (List Int)} : Ctr (laws_markInstrument.f k l0_0 a0_1 a1 = some t_) (Con Try.prog 16 [.p (.ag [.ow 3 (.int .i64) l0_0, .v (.int .i64 a0_1)]), .p (.c (.v (.int .i64 a1)))] (.p (.c (.v (.int .i64 t_.1)))) [(0, .c (.ow 3 (.int .i64) t_.2))]) := ⟨fun h => laws_markInstrument.con _ _ _ _ (t_.1) (t_.2) h⟩
/-! ### laws_markNoteS: function 17 -/
def laws_markNoteS.l0 : Nat → List (S57) → Int → Int → Option (Int × (List (S57)))
  | 0, _, _, _ => none
  | k + 1, x0, x1, x5 => if x5 < (x0.length : Int) then (if 0 ≤ x5 then ((some (x0.set (x5 : Int).toNat (⟨x1, (rd_T57 x0 x5).f1, (rd_T57 x0 x5).f2⟩ : S57) : List (S57))).bind fun y380 => ((some (y380.set (x5 : Int).toNat (⟨(rd_T57 y380 x5).f0, wrap64 (x1 + 1), (rd_T57 y380 x5).f2⟩ : S57) : List (S57))).bind fun y381 => (laws_markNoteS.l0 k (y381.set (x5 : Int).toNat (⟨(rd_T57 y381 x5).f0, (rd_T57 y381 x5).f1, wrap64 ((wrap64 (x1 + 1)) + 1)⟩ : S57)) (wrap64 ((wrap64 ((wrap64 (x1 + 1)) + 1)) + 1)) (wrap64 (x5 + 1))))) else (none)) else (some (x1, x0))
def laws_markNoteS.f (k : Nat) (l0 : List (S57)) (a1 : Int) : Option (Int × (List (S57))) := laws_markNoteS.l0 k l0 a1 0
instance laws_markNoteS.lp0 {k : Nat} {r : Int × (List (S57))} {Q : Wr → Prop}  {x0_1 : List (S57)} {x1_1 : Int} {x5_1 : Int} : Lp (laws_markNoteS.l0 k x0_1 x1_1 x5_1 = some r) Q (fun k => ∀ {x0_1 : List (S57)} {x1_1 : Int} {x5_1 : Int}, laws_markNoteS.l0 k x0_1 x1_1 x5_1 = some r → Q [(0, .p (.c (.rp (2 * Try.f17.ntmps + 0)))), (2 * (2 * Try.f17.ntmps + 0) + 1, .row 57 K57 x0_1), (2, .p (.c (.v (.int .i64 x1_1)))), (10, .p (.c (.v (.int .i64 x5_1))))]) k [(0, .p (.c (.rp (2 * Try.f17.ntmps + 0)))), (2 * (2 * Try.f17.ntmps + 0) + 1, .row 57 K57 x0_1), (2, .p (.c (.v (.int .i64 x1_1)))), (10, .p (.c (.v (.int .i64 x5_1))))] := ⟨fun j h => j h⟩
set_option maxRecDepth 8000 in
set_option maxHeartbeats 2000000 in
theorem laws_markNoteS.con (k : Nat) (l0 : List (S57)) (a1 : Int) (r1 : Int) (r2 : List (S57)) (H : laws_markNoteS.f k l0 a1 = some (r1, r2)) : Con Try.prog 17 [.p (.c (.ow 57 K57 l0)), .p (.c (.v (.int .i64 a1)))] (.p (.c (.v (.int .i64 r1)))) [(0, .c (.ow 57 K57 r2))] := by
  refine Con.mk' (fn := Try.f17) Try.func17 rfl (by kernel_rfl) rfl rfl rfl fun X w0 gs hF => ?_
  unfold laws_markNoteS.f at H
  exact auto
instance laws_markNoteS.ctr {k : Nat} {l0 : List (S57)} {a1 : Int} {t_ : (Int) × (List (S57))} : Ctr (laws_markNoteS.f k l0 a1 = some t_) (Con Try.prog 17 [.p (.c (.ow 57 K57 l0)), .p (.c (.v (.int .i64 a1)))] (.p (.c (.v (.int .i64 t_.1)))) [(0, .c (.ow 57 K57 t_.2))]) := ⟨fun h => laws_markNoteS.con _ _ _ (t_.1) (t_.2) h⟩
end Go.Proofs.Ytbfehdhncncgdaa.L
