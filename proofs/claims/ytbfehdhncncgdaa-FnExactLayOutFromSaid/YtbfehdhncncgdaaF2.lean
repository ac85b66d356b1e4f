/- BY EV: what the Go functions compute (read off the print), and that their calls come to it. No condition. -/
import Derived.Test.YtbfehdhncncgdaaFEU
import Derived.Test.YtbfehdhncncgdaaF1
set_option linter.unusedVariables false
set_option linter.unusedSimpArgs false
namespace Go.Proofs.Ytbfehdhncncgdaa.F
open Go.RowKit Go.Proofs Go.Proofs.YtbfehdhncncgdaaW.PrintWords Go.Proofs.YtbfehdhncncgdaaW.PrintLast EV
/-! ### laws_eqInstrument: function 14 -/
def laws_eqInstrument.f (k : Nat) (l0_0 : List Int) (a0_1 : Int) (l1_0 : List Int) (a1_1 : Int) : Option (Bool) := (laws_eqIntS.f k l0_0 l1_0).bind fun t134 => (if t134 = true then (if a0_1 = a1_1 then (some true) else (some false)) else (some false))
set_option maxRecDepth 8000 in
set_option maxHeartbeats 2000000 in
theorem laws_eqInstrument.con (k : Nat) (l0_0 : List Int) (a0_1 : Int) (l1_0 : List Int) (a1_1 : Int) (r : Bool) (H : laws_eqInstrument.f k l0_0 a0_1 l1_0 a1_1 = some r) : Con Try.prog 14 [.p (.ag [.sl (.int .i64) l0_0, .v (.int .i64 a0_1)]), .p (.ag [.sl (.int .i64) l1_0, .v (.int .i64 a1_1)])] (.p (.c (.v (.bool r)))) := by
  refine Con.mk' (fn := Try.f14) Try.func14 rfl (by kernel_rfl) rfl rfl rfl fun X w0 gs hF => ?_
  unfold laws_eqInstrument.f at H
  exact auto
instance laws_eqInstrument.ctr {k : Nat} {l0_0 : List Int} {a0_1 : Int} {l1_0 : List Int} {a1_1 : Int} {r : Bool} : Ctr (laws_eqInstrument.f k l0_0 a0_1 l1_0 a1_1 = some r) (Con Try.prog 14 [.p (.ag [.sl (.int .i64) l0_0, .v (.int .i64 a0_1)]), .p (.ag [.sl (.int .i64) l1_0, .v (.int .i64 a1_1)])] (.p (.c (.v (.bool r))))) := ⟨laws_eqInstrument.con _ _ _ _ _ _⟩
/-! ### laws_eqNote: function 38 -/
def laws_eqNote.f (a0_0 : Int) (a0_1 : Int) (a0_2 : Int) (a1_0 : Int) (a1_1 : Int) (a1_2 : Int) : Option (Bool) := if a0_0 = a1_0 then (if a0_1 = a1_1 then (if a0_2 = a1_2 then (some true) else (some false)) else (some false)) else (some false)
set_option maxRecDepth 8000 in
set_option maxHeartbeats 2000000 in
theorem laws_eqNote.con (a0_0 : Int) (a0_1 : Int) (a0_2 : Int) (a1_0 : Int) (a1_1 : Int) (a1_2 : Int) (r : Bool) (H : laws_eqNote.f a0_0 a0_1 a0_2 a1_0 a1_1 a1_2 = some r) : Con Try.prog 38 [.p (.ag [.v (.int .i64 a0_0), .v (.int .i64 a0_1), .v (.int .i64 a0_2)]), .p (.ag [.v (.int .i64 a1_0), .v (.int .i64 a1_1), .v (.int .i64 a1_2)])] (.p (.c (.v (.bool r)))) := by
  refine Con.mk' (fn := Try.f38) Try.func38 rfl (by kernel_rfl) rfl rfl rfl fun X w0 gs hF => ?_
  unfold laws_eqNote.f at H
  exact auto
instance laws_eqNote.ctr {a0_0 : Int} {a0_1 : Int} {a0_2 : Int} {a1_0 : Int} {a1_1 : Int} {a1_2 : Int} {r : Bool} : Ctr (laws_eqNote.f a0_0 a0_1 a0_2 a1_0 a1_1 a1_2 = some r) (Con Try.prog 38 [.p (.ag [.v (.int .i64 a0_0), .v (.int .i64 a0_1), .v (.int .i64 a0_2)]), .p (.ag [.v (.int .i64 a1_0), .v (.int .i64 a1_1), .v (.int .i64 a1_2)])] (.p (.c (.v (.bool r))))) := ⟨laws_eqNote.con _ _ _ _ _ _ _⟩
/-! ### laws_eqNoteS: function 15 -/
def laws_eqNoteS.l0 : Nat → List (S57) → List (S57) → Int → Option (Bool)
  | 0, _, _, _ => none
  | k + 1, x0, x1, x5 => if x5 < (x0.length : Int) then (if 0 ≤ x5 then (if x5 < (x1.length : Int) then ((laws_eqNote.f ((rd_T57 x0 x5).f0) ((rd_T57 x0 x5).f1) ((rd_T57 x0 x5).f2) ((rd_T57 x1 x5).f0) ((rd_T57 x1 x5).f1) ((rd_T57 x1 x5).f2)).bind fun t139 => (if t139 = true then (laws_eqNoteS.l0 k x0 x1 (wrap64 (x5 + 1))) else (some false))) else (none)) else (none)) else (some true)
def laws_eqNoteS.f (k : Nat) (l0 : List (S57)) (l1 : List (S57)) : Option (Bool) := if (l0.length : Int) = (l1.length : Int) then (laws_eqNoteS.l0 k l0 l1 0) else (some false)
instance laws_eqNoteS.lp0 {k : Nat} {r : Bool} {Q : Wr → Prop} {p0 : List (S57)} {p1 : List (S57)} {x5_1 : Int} : Lp (laws_eqNoteS.l0 k p0 p1 x5_1 = some r) Q (fun k => ∀ {x5_1 : Int}, laws_eqNoteS.l0 k p0 p1 x5_1 = some r → Q [(10, .p (.c (.v (.int .i64 x5_1))))]) k [(10, .p (.c (.v (.int .i64 x5_1))))] := ⟨fun j h => j h⟩
set_option maxRecDepth 8000 in
set_option maxHeartbeats 2000000 in
theorem laws_eqNoteS.con (k : Nat) (l0 : List (S57)) (l1 : List (S57)) (r : Bool) (H : laws_eqNoteS.f k l0 l1 = some r) : Con Try.prog 15 [.p (.c (.sl K57 l0)), .p (.c (.sl K57 l1))] (.p (.c (.v (.bool r)))) := by
  refine Con.mk' (fn := Try.f15) Try.func15 rfl (by kernel_rfl) rfl rfl rfl fun X w0 gs hF => ?_
  unfold laws_eqNoteS.f at H
  exact auto
instance laws_eqNoteS.ctr {k : Nat} {l0 : List (S57)} {l1 : List (S57)} {r : Bool} : Ctr (laws_eqNoteS.f k l0 l1 = some r) (Con Try.prog 15 [.p (.c (.sl K57 l0)), .p (.c (.sl K57 l1))] (.p (.c (.v (.bool r))))) := ⟨laws_eqNoteS.con _ _ _ _⟩
/-! ### laws_markIntS: function 39 -/
def laws_markIntS.l0 : Nat → List Int → Int → Int → Option (Int × List Int)
  | 0, _, _, _ => none
  | k + 1, x0, x1, x5 => if x5 < (x0.length : Int) then (if 0 ≤ x5 then (laws_markIntS.l0 k (x0.set (x5 : Int).toNat x1) (wrap64 (x1 + 1)) (wrap64 (x5 + 1))) else (none)) else (some (x1, x0))
def laws_markIntS.f (k : Nat) (l0 : List Int) (a1 : Int) : Option (Int × List Int) := laws_markIntS.l0 k l0 a1 0
instance laws_markIntS.lp0 {k : Nat} {r : Int × List Int} {Q : Wr → Prop}  {x0_1 : List Int} {x1_1 : Int} {x5_1 : Int} : Lp (laws_markIntS.l0 k x0_1 x1_1 x5_1 = some r) Q (fun k => ∀ {x0_1 : List Int} {x1_1 : Int} {x5_1 : Int}, laws_markIntS.l0 k x0_1 x1_1 x5_1 = some r → Q [(0, .p (.c (.rp (2 * Try.f39.ntmps + 0)))), (2 * (2 * Try.f39.ntmps + 0) + 1, .row 3 (.int .i64) x0_1), (2, .p (.c (.v (.int .i64 x1_1)))), (10, .p (.c (.v (.int .i64 x5_1))))]) k [(0, .p (.c (.rp (2 * Try.f39.ntmps + 0)))), (2 * (2 * Try.f39.ntmps + 0) + 1, .row 3 (.int .i64) x0_1), (2, .p (.c (.v (.int .i64 x1_1)))), (10, .p (.c (.v (.int .i64 x5_1))))] := ⟨fun j h => j h⟩
set_option maxRecDepth 8000 in
set_option maxHeartbeats 2000000 in
theorem laws_markIntS.con (k : Nat) (l0 : List Int) (a1 : Int) (r1 : Int) (r2 : List Int) (H : laws_markIntS.f k l0 a1 = some (r1, r2)) : Con Try.prog 39 [.p (.c (.ow 3 (.int .i64) l0)), .p (.c (.v (.int .i64 a1)))] (.p (.c (.v (.int .i64 r1)))) [(0, .c (.ow 3 (.int .i64) r2))] := by
  refine Con.mk' (fn := Try.f39) Try.func39 rfl (by kernel_rfl) rfl rfl rfl fun X w0 gs hF => ?_
  unfold laws_markIntS.f at H
  exact auto
instance laws_markIntS.ctr {k : Nat} {l0 : List Int} {a1 : Int} {t_ : (Int) × (List Int)} : Ctr (laws_markIntS.f k l0 a1 = some t_) (Con Try.prog 39 [.p (.c (.ow 3 (.int .i64) l0)), .p (.c (.v (.int .i64 a1)))] (.p (.c (.v (.int .i64 t_.1)))) [(0, .c (.ow 3 (.int .i64) t_.2))]) := ⟨fun h => laws_markIntS.con _ _ _ (t_.1) (t_.2) h⟩
/-! ### laws_markInstrument: function 16 -/
def laws_markInstrument.f (k : Nat) (l0_0 : List Int) (a0_1 : Int) (a1 : Int) : Option (Int × List Int) := (laws_markIntS.f k l0_0 a1).bind fun bt142 => (some (bt142.1, bt142.2))
set_option maxRecDepth 8000 in
set_option maxHeartbeats 2000000 in
theorem laws_markInstrument.con (k : Nat) (l0_0 : List Int) (a0_1 : Int) (a1 : Int) (r1 : Int) (r2 : List Int) (H : laws_markInstrument.f k l0_0 a0_1 a1 = some (r1, r2)) : Con Try.prog 16 [.p (.ag [.ow 3 (.int .i64) l0_0, .v (.int .i64 a0_1)]), .p (.c (.v (.int .i64 a1)))] (.p (.c (.v (.int .i64 r1)))) [(0, .c (.ow 3 (.int .i64) r2))] := by
  refine Con.mk' (fn := Try.f16) Try.func16 rfl (by kernel_rfl) rfl rfl rfl fun X w0 gs hF => ?_
  unfold laws_markInstrument.f at H
  exact auto
instance laws_markInstrument.ctr {k : Nat} {l0_0 : List Int} {a0_1 : Int} {a1 : Int} {t_ : (Int) × (List Int)} : Ctr (laws_markInstrument.f k l0_0 a0_1 a1 = some t_) (Con Try.prog 16 [.p (.ag [.ow 3 (.int .i64) l0_0, .v (.int .i64 a0_1)]), .p (.c (.v (.int .i64 a1)))] (.p (.c (.v (.int .i64 t_.1)))) [(0, .c (.ow 3 (.int .i64) t_.2))]) := ⟨fun h => laws_markInstrument.con _ _ _ _ (t_.1) (t_.2) h⟩
/-! ### laws_markNoteS: function 17 -/
def laws_markNoteS.l0 : Nat → List (S57) → Int → Int → Option (Int × (List (S57)))
  | 0, _, _, _ => none
  | k + 1, x0, x1, x5 => if x5 < (x0.length : Int) then (if 0 ≤ x5 then ((some (x0.set (x5 : Int).toNat (⟨x1, (rd_T57 x0 x5).f1, (rd_T57 x0 x5).f2⟩ : S57) : List (S57))).bind fun y144 => ((some (y144.set (x5 : Int).toNat (⟨(rd_T57 y144 x5).f0, wrap64 (x1 + 1), (rd_T57 y144 x5).f2⟩ : S57) : List (S57))).bind fun y145 => (laws_markNoteS.l0 k (y145.set (x5 : Int).toNat (⟨(rd_T57 y145 x5).f0, (rd_T57 y145 x5).f1, wrap64 ((wrap64 (x1 + 1)) + 1)⟩ : S57)) (wrap64 ((wrap64 ((wrap64 (x1 + 1)) + 1)) + 1)) (wrap64 (x5 + 1))))) else (none)) else (some (x1, x0))
def laws_markNoteS.f (k : Nat) (l0 : List (S57)) (a1 : Int) : Option (Int × (List (S57))) := laws_markNoteS.l0 k l0 a1 0
instance laws_markNoteS.lp0 {k : Nat} {r : Int × (List (S57))} {Q : Wr → Prop}  {x0_1 : List (S57)} {x1_1 : Int} {x5_1 : Int} : Lp (laws_markNoteS.l0 k x0_1 x1_1 x5_1 = some r) Q (fun k => ∀ {x0_1 : List (S57)} {x1_1 : Int} {x5_1 : Int}, laws_markNoteS.l0 k x0_1 x1_1 x5_1 = some r → Q [(0, .p (.c (.rp (2 * Try.f17.ntmps + 0)))), (2 * (2 * Try.f17.ntmps + 0) + 1, .row 57 K57 x0_1), (2, .p (.c (.v (.int .i64 x1_1)))), (10, .p (.c (.v (.int .i64 x5_1))))]) k [(0, .p (.c (.rp (2 * Try.f17.ntmps + 0)))), (2 * (2 * Try.f17.ntmps + 0) + 1, .row 57 K57 x0_1), (2, .p (.c (.v (.int .i64 x1_1)))), (10, .p (.c (.v (.int .i64 x5_1))))] := ⟨fun j h => j h⟩
set_option maxRecDepth 8000 in
set_option maxHeartbeats 2000000 in
theorem laws_markNoteS.con (k : Nat) (l0 : List (S57)) (a1 : Int) (r1 : Int) (r2 : List (S57)) (H : laws_markNoteS.f k l0 a1 = some (r1, r2)) : Con Try.prog 17 [.p (.c (.ow 57 K57 l0)), .p (.c (.v (.int .i64 a1)))] (.p (.c (.v (.int .i64 r1)))) [(0, .c (.ow 57 K57 r2))] := by
  refine Con.mk' (fn := Try.f17) Try.func17 rfl (by kernel_rfl) rfl rfl rfl fun X w0 gs hF => ?_
  unfold laws_markNoteS.f at H
  exact auto
instance laws_markNoteS.ctr {k : Nat} {l0 : List (S57)} {a1 : Int} {t_ : (Int) × (List (S57))} : Ctr (laws_markNoteS.f k l0 a1 = some t_) (Con Try.prog 17 [.p (.c (.ow 57 K57 l0)), .p (.c (.v (.int .i64 a1)))] (.p (.c (.v (.int .i64 t_.1)))) [(0, .c (.ow 57 K57 t_.2))]) := ⟨fun h => laws_markNoteS.con _ _ _ (t_.1) (t_.2) h⟩
/-! ### laws_markHoleS: function 18 -/
def laws_markHoleS.l0 : Nat → List (S64) → Int → Int → Option (Int × (List (S64)))
  | 0, _, _, _ => none
  | k + 1, x0, x1, x5 => if x5 < (x0.length : Int) then (if 0 ≤ x5 then ((some (x0.set (x5 : Int).toNat (⟨x1, (rd_T64 x0 x5).f1, (rd_T64 x0 x5).f2⟩ : S64) : List (S64))).bind fun y147 => ((some (y147.set (x5 : Int).toNat (⟨(rd_T64 y147 x5).f0, wrap64 (x1 + 1), (rd_T64 y147 x5).f2⟩ : S64) : List (S64))).bind fun y148 => (laws_markHoleS.l0 k (y148.set (x5 : Int).toNat (⟨(rd_T64 y148 x5).f0, (rd_T64 y148 x5).f1, wrap64 ((wrap64 (x1 + 1)) + 1)⟩ : S64)) (wrap64 ((wrap64 ((wrap64 (x1 + 1)) + 1)) + 1)) (wrap64 (x5 + 1))))) else (none)) else (some (x1, x0))
def laws_markHoleS.f (k : Nat) (l0 : List (S64)) (a1 : Int) : Option (Int × (List (S64))) := laws_markHoleS.l0 k l0 a1 0
instance laws_markHoleS.lp0 {k : Nat} {r : Int × (List (S64))} {Q : Wr → Prop}  {x0_1 : List (S64)} {x1_1 : Int} {x5_1 : Int} : Lp (laws_markHoleS.l0 k x0_1 x1_1 x5_1 = some r) Q (fun k => ∀ {x0_1 : List (S64)} {x1_1 : Int} {x5_1 : Int}, laws_markHoleS.l0 k x0_1 x1_1 x5_1 = some r → Q [(0, .p (.c (.rp (2 * Try.f18.ntmps + 0)))), (2 * (2 * Try.f18.ntmps + 0) + 1, .row 64 K64 x0_1), (2, .p (.c (.v (.int .i64 x1_1)))), (10, .p (.c (.v (.int .i64 x5_1))))]) k [(0, .p (.c (.rp (2 * Try.f18.ntmps + 0)))), (2 * (2 * Try.f18.ntmps + 0) + 1, .row 64 K64 x0_1), (2, .p (.c (.v (.int .i64 x1_1)))), (10, .p (.c (.v (.int .i64 x5_1))))] := ⟨fun j h => j h⟩
set_option maxRecDepth 8000 in
set_option maxHeartbeats 2000000 in
theorem laws_markHoleS.con (k : Nat) (l0 : List (S64)) (a1 : Int) (r1 : Int) (r2 : List (S64)) (H : laws_markHoleS.f k l0 a1 = some (r1, r2)) : Con Try.prog 18 [.p (.c (.ow 64 K64 l0)), .p (.c (.v (.int .i64 a1)))] (.p (.c (.v (.int .i64 r1)))) [(0, .c (.ow 64 K64 r2))] := by
  refine Con.mk' (fn := Try.f18) Try.func18 rfl (by kernel_rfl) rfl rfl rfl fun X w0 gs hF => ?_
  unfold laws_markHoleS.f at H
  exact auto
instance laws_markHoleS.ctr {k : Nat} {l0 : List (S64)} {a1 : Int} {t_ : (Int) × (List (S64))} : Ctr (laws_markHoleS.f k l0 a1 = some t_) (Con Try.prog 18 [.p (.c (.ow 64 K64 l0)), .p (.c (.v (.int .i64 a1)))] (.p (.c (.v (.int .i64 t_.1)))) [(0, .c (.ow 64 K64 t_.2))]) := ⟨fun h => laws_markHoleS.con _ _ _ (t_.1) (t_.2) h⟩
/-! ### laws_heldHoleS: function 19 -/
def laws_heldHoleS.l0 : Nat → List (S64) → Int → Int → Option (Int)
  | 0, _, _, _ => none
  | k + 1, x0, x1, x5 => if x5 < (x0.length : Int) then (if 0 ≤ x5 then (if ((rd_T64 x0 x5).f0) = x1 then (if ((rd_T64 x0 x5).f1) = (wrap64 (x1 + 1)) then (if ((rd_T64 x0 x5).f2) = (wrap64 ((wrap64 (x1 + 1)) + 1)) then (laws_heldHoleS.l0 k x0 (wrap64 ((wrap64 ((wrap64 (x1 + 1)) + 1)) + 1)) (wrap64 (x5 + 1))) else (some (-1))) else (some (-1))) else (some (-1))) else (none)) else (some x1)
def laws_heldHoleS.f (k : Nat) (l0 : List (S64)) (a1 : Int) : Option (Int) := laws_heldHoleS.l0 k l0 a1 0
instance laws_heldHoleS.lp0 {k : Nat} {r : Int} {Q : Wr → Prop} {p0 : List (S64)} {x1_1 : Int} {x5_1 : Int} : Lp (laws_heldHoleS.l0 k p0 x1_1 x5_1 = some r) Q (fun k => ∀ {x1_1 : Int} {x5_1 : Int}, laws_heldHoleS.l0 k p0 x1_1 x5_1 = some r → Q [(2, .p (.c (.v (.int .i64 x1_1)))), (10, .p (.c (.v (.int .i64 x5_1))))]) k [(2, .p (.c (.v (.int .i64 x1_1)))), (10, .p (.c (.v (.int .i64 x5_1))))] := ⟨fun j h => j h⟩
set_option maxRecDepth 8000 in
set_option maxHeartbeats 2000000 in
theorem laws_heldHoleS.con (k : Nat) (l0 : List (S64)) (a1 : Int) (r : Int) (H : laws_heldHoleS.f k l0 a1 = some r) : Con Try.prog 19 [.p (.c (.sl K64 l0)), .p (.c (.v (.int .i64 a1)))] (.p (.c (.v (.int .i64 r)))) := by
  refine Con.mk' (fn := Try.f19) Try.func19 rfl (by kernel_rfl) rfl rfl rfl fun X w0 gs hF => ?_
  unfold laws_heldHoleS.f at H
  exact auto
instance laws_heldHoleS.ctr {k : Nat} {l0 : List (S64)} {a1 : Int} {r : Int} : Ctr (laws_heldHoleS.f k l0 a1 = some r) (Con Try.prog 19 [.p (.c (.sl K64 l0)), .p (.c (.v (.int .i64 a1)))] (.p (.c (.v (.int .i64 r))))) := ⟨laws_heldHoleS.con _ _ _ _⟩
/-! ### spec_l1In: function 40 -/
def spec_l1In.f (a0 : Int) (a1 : Int) (a2 : Int) : Option (Bool) := if a0 ≥ a1 then (some (decide (a0 ≤ a2))) else (some false)
set_option maxRecDepth 8000 in
set_option maxHeartbeats 2000000 in
theorem spec_l1In.con (a0 : Int) (a1 : Int) (a2 : Int) (r : Bool) (H : spec_l1In.f a0 a1 a2 = some r) : Con Try.prog 40 [.p (.c (.v (.int .i64 a0))), .p (.c (.v (.int .i64 a1))), .p (.c (.v (.int .i64 a2)))] (.p (.c (.v (.bool r)))) := by
  refine Con.mk' (fn := Try.f40) Try.func40 rfl (by kernel_rfl) rfl rfl rfl fun X w0 gs hF => ?_
  unfold spec_l1In.f at H
  exact auto
instance spec_l1In.ctr {a0 : Int} {a1 : Int} {a2 : Int} {r : Bool} : Ctr (spec_l1In.f a0 a1 a2 = some r) (Con Try.prog 40 [.p (.c (.v (.int .i64 a0))), .p (.c (.v (.int .i64 a1))), .p (.c (.v (.int .i64 a2)))] (.p (.c (.v (.bool r))))) := ⟨spec_l1In.con _ _ _ _⟩
/-! ### spec_l1Rising: function 73 -/
def spec_l1Rising.l0 : Nat → List Int → Int → Int → List Int → Int → Int → Option (Bool)
  | 0, _, _, _, _, _, _ => none
  | k + 1, x0, x1, x2, x9, x10, x11 => if x11 < x10 then (if 0 ≤ x11 then (if x11 < (x9.length : Int) then ((spec_l1In.f (rd x9 x11) x1 x2).bind fun t154 => (if t154 = true then (if x11 > 0 then (if 0 ≤ (wrap64 (x11 - 1)) then (if (wrap64 (x11 - 1)) < (x0.length : Int) then (if (rd x0 (wrap64 (x11 - 1))) ≥ (rd x9 x11) then (some false) else (spec_l1Rising.l0 k x0 x1 x2 x9 x10 (wrap64 (x11 + 1)))) else (none)) else (none)) else (spec_l1Rising.l0 k x0 x1 x2 x9 x10 (wrap64 (x11 + 1)))) else (some false))) else (none)) else (none)) else (some true)
def spec_l1Rising.f (k : Nat) (l0 : List Int) (a1 : Int) (a2 : Int) : Option (Bool) := spec_l1Rising.l0 k l0 a1 a2 l0 (l0.length : Int) 0
instance spec_l1Rising.lp0 {k : Nat} {r : Bool} {Q : Wr → Prop} {p0 : List Int} {p1 : Int} {p2 : Int} {p3 : List Int} {p4 : Int} {x11_1 : Int} : Lp (spec_l1Rising.l0 k p0 p1 p2 p3 p4 x11_1 = some r) Q (fun k => ∀ {x11_1 : Int}, spec_l1Rising.l0 k p0 p1 p2 p3 p4 x11_1 = some r → Q [(22, .p (.c (.v (.int .i64 x11_1))))]) k [(22, .p (.c (.v (.int .i64 x11_1))))] := ⟨fun j h => j h⟩
set_option maxRecDepth 8000 in
set_option maxHeartbeats 2000000 in
theorem spec_l1Rising.con (k : Nat) (l0 : List Int) (a1 : Int) (a2 : Int) (r : Bool) (H : spec_l1Rising.f k l0 a1 a2 = some r) : Con Try.prog 73 [.p (.c (.sl (.int .i64) l0)), .p (.c (.v (.int .i64 a1))), .p (.c (.v (.int .i64 a2)))] (.p (.c (.v (.bool r)))) := by
  refine Con.mk' (fn := Try.f73) Try.func73 rfl (by kernel_rfl) rfl rfl rfl fun X w0 gs hF => ?_
  unfold spec_l1Rising.f at H
  exact auto
instance spec_l1Rising.ctr {k : Nat} {l0 : List Int} {a1 : Int} {a2 : Int} {r : Bool} : Ctr (spec_l1Rising.f k l0 a1 a2 = some r) (Con Try.prog 73 [.p (.c (.sl (.int .i64) l0)), .p (.c (.v (.int .i64 a1))), .p (.c (.v (.int .i64 a2)))] (.p (.c (.v (.bool r))))) := ⟨spec_l1Rising.con _ _ _ _ _⟩
end Go.Proofs.Ytbfehdhncncgdaa.F
