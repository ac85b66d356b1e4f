/- BY EV: what the Go functions compute (read off the print), and that their calls come to it. No condition. -/
import Derived.Test.YtipcjpgonncinaaJEU
import Derived.Test.YtipcjpgonncinaaJ1
import Derived.Test.YtipcjpgonncinaaJ2
import Derived.Test.YtipcjpgonncinaaJ3
set_option linter.unusedVariables false
set_option linter.unusedSimpArgs false
namespace Go.Proofs.Ytipcjpgonncinaa.J
open Go.RowKit Go.Proofs Go.Proofs.YtipcjpgonncinaaW.PrintWords Go.Proofs.YtipcjpgonncinaaW.PrintLast EV
/-! ### laws_eqNote: function 43 -/
def laws_eqNote.f (a0_0 : Int) (a0_1 : Int) (a0_2 : Int) (a1_0 : Int) (a1_1 : Int) (a1_2 : Int) : Option (Bool) := if a0_0 = a1_0 then (if a0_1 = a1_1 then (if a0_2 = a1_2 then (some true) else (some false)) else (some false)) else (some false)
set_option maxRecDepth 8000 in
set_option maxHeartbeats 2000000 in
theorem laws_eqNote.con (a0_0 : Int) (a0_1 : Int) (a0_2 : Int) (a1_0 : Int) (a1_1 : Int) (a1_2 : Int) (r : Bool) (H : laws_eqNote.f a0_0 a0_1 a0_2 a1_0 a1_1 a1_2 = some r) : Con Try.prog 43 [.p (.ag [.v (.int .i64 a0_0), .v (.int .i64 a0_1), .v (.int .i64 a0_2)]), .p (.ag [.v (.int .i64 a1_0), .v (.int .i64 a1_1), .v (.int .i64 a1_2)])] (.p (.c (.v (.bool r)))) := by
  refine Con.mk' (fn := Try.f43) Try.func43 rfl (by kernel_rfl) rfl rfl rfl fun X w0 gs hF => ?_
  unfold laws_eqNote.f at H
  exact auto
instance laws_eqNote.ctr {a0_0 : Int} {a0_1 : Int} {a0_2 : Int} {a1_0 : Int} {a1_1 : Int} {a1_2 : Int} {r : Bool} : Ctr (laws_eqNote.f a0_0 a0_1 a0_2 a1_0 a1_1 a1_2 = some r) (Con Try.prog 43 [.p (.ag [.v (.int .i64 a0_0), .v (.int .i64 a0_1), .v (.int .i64 a0_2)]), .p (.ag [.v (.int .i64 a1_0), .v (.int .i64 a1_1), .v (.int .i64 a1_2)])] (.p (.c (.v (.bool r))))) := ⟨laws_eqNote.con _ _ _ _ _ _ _⟩
/-! ### laws_eqNoteS: function 14 -/
def laws_eqNoteS.l0 : Nat → List (S51) → List (S51) → Int → Option (Bool)
  | 0, _, _, _ => none
  | k + 1, x0, x1, x5 => if x5 < (x0.length : Int) then (if 0 ≤ x5 then (if x5 < (x1.length : Int) then ((laws_eqNote.f ((rd_T51 x0 x5).f0) ((rd_T51 x0 x5).f1) ((rd_T51 x0 x5).f2) ((rd_T51 x1 x5).f0) ((rd_T51 x1 x5).f1) ((rd_T51 x1 x5).f2)).bind fun t236 => (if t236 = true then (laws_eqNoteS.l0 k x0 x1 (wrap64 (x5 + 1))) else (some false))) else (none)) else (none)) else (some true)
def laws_eqNoteS.f (k : Nat) (l0 : List (S51)) (l1 : List (S51)) : Option (Bool) := if (l0.length : Int) = (l1.length : Int) then (laws_eqNoteS.l0 k l0 l1 0) else (some false)
instance laws_eqNoteS.lp0 {k : Nat} {r : Bool} {Q : Wr → Prop} {p0 : List (S51)} {p1 : List (S51)} {x5_1 : Int} : Lp (laws_eqNoteS.l0 k p0 p1 x5_1 = some r) Q (fun k => ∀ {x5_1 : Int}, laws_eqNoteS.l0 k p0 p1 x5_1 = some r → Q [(10, .p (.c (.v (.int .i64 x5_1))))]) k [(10, .p (.c (.v (.int .i64 x5_1))))] := ⟨fun j h => j h⟩
set_option maxRecDepth 8000 in
set_option maxHeartbeats 2000000 in
theorem laws_eqNoteS.con (k : Nat) (l0 : List (S51)) (l1 : List (S51)) (r : Bool) (H : laws_eqNoteS.f k l0 l1 = some r) : Con Try.prog 14 [.p (.c (.sl K51 l0)), .p (.c (.sl K51 l1))] (.p (.c (.v (.bool r)))) := by
  refine Con.mk' (fn := Try.f14) Try.func14 rfl (by kernel_rfl) rfl rfl rfl fun X w0 gs hF => ?_
  unfold laws_eqNoteS.f at H
  exact auto
instance laws_eqNoteS.ctr {k : Nat} {l0 : List (S51)} {l1 : List (S51)} {r : Bool} : Ctr (laws_eqNoteS.f k l0 l1 = some r) (Con Try.prog 14 [.p (.c (.sl K51 l0)), .p (.c (.sl K51 l1))] (.p (.c (.v (.bool r))))) := ⟨laws_eqNoteS.con _ _ _ _⟩
/-! ### laws_eqIntS: function 25 -/
def laws_eqIntS.l0 : Nat → List Int → List Int → Int → Option (Bool)
  | 0, _, _, _ => none
  | k + 1, x0, x1, x5 => if x5 < (x0.length : Int) then (if 0 ≤ x5 then (if x5 < (x1.length : Int) then (if (rd x0 x5) = (rd x1 x5) then (laws_eqIntS.l0 k x0 x1 (wrap64 (x5 + 1))) else (some false)) else (none)) else (none)) else (some true)
def laws_eqIntS.f (k : Nat) (l0 : List Int) (l1 : List Int) : Option (Bool) := if (l0.length : Int) = (l1.length : Int) then (laws_eqIntS.l0 k l0 l1 0) else (some false)
instance laws_eqIntS.lp0 {k : Nat} {r : Bool} {Q : Wr → Prop} {p0 : List Int} {p1 : List Int} {x5_1 : Int} : Lp (laws_eqIntS.l0 k p0 p1 x5_1 = some r) Q (fun k => ∀ {x5_1 : Int}, laws_eqIntS.l0 k p0 p1 x5_1 = some r → Q [(10, .p (.c (.v (.int .i64 x5_1))))]) k [(10, .p (.c (.v (.int .i64 x5_1))))] := ⟨fun j h => j h⟩
set_option maxRecDepth 8000 in
set_option maxHeartbeats 2000000 in
theorem laws_eqIntS.con (k : Nat) (l0 : List Int) (l1 : List Int) (r : Bool) (H : laws_eqIntS.f k l0 l1 = some r) : Con Try.prog 25 [.p (.c (.sl (.int .i64) l0)), .p (.c (.sl (.int .i64) l1))] (.p (.c (.v (.bool r)))) := by
  refine Con.mk' (fn := Try.f25) Try.func25 rfl (by kernel_rfl) rfl rfl rfl fun X w0 gs hF => ?_
  unfold laws_eqIntS.f at H
  exact auto
instance laws_eqIntS.ctr {k : Nat} {l0 : List Int} {l1 : List Int} {r : Bool} : Ctr (laws_eqIntS.f k l0 l1 = some r) (Con Try.prog 25 [.p (.c (.sl (.int .i64) l0)), .p (.c (.sl (.int .i64) l1))] (.p (.c (.v (.bool r))))) := ⟨laws_eqIntS.con _ _ _ _⟩
/-! ### laws_eqInstrument: function 15 -/
def laws_eqInstrument.f (k : Nat) (l0_0 : List Int) (a0_1 : Int) (l1_0 : List Int) (a1_1 : Int) : Option (Bool) := (laws_eqIntS.f k l0_0 l1_0).bind fun t241 => (if t241 = true then (if a0_1 = a1_1 then (some true) else (some false)) else (some false))
set_option maxRecDepth 8000 in
set_option maxHeartbeats 2000000 in
theorem laws_eqInstrument.con (k : Nat) (l0_0 : List Int) (a0_1 : Int) (l1_0 : List Int) (a1_1 : Int) (r : Bool) (H : laws_eqInstrument.f k l0_0 a0_1 l1_0 a1_1 = some r) : Con Try.prog 15 [.p (.ag [.sl (.int .i64) l0_0, .v (.int .i64 a0_1)]), .p (.ag [.sl (.int .i64) l1_0, .v (.int .i64 a1_1)])] (.p (.c (.v (.bool r)))) := by
  refine Con.mk' (fn := Try.f15) Try.func15 rfl (by kernel_rfl) rfl rfl rfl fun X w0 gs hF => ?_
  unfold laws_eqInstrument.f at H
  exact auto
instance laws_eqInstrument.ctr {k : Nat} {l0_0 : List Int} {a0_1 : Int} {l1_0 : List Int} {a1_1 : Int} {r : Bool} : Ctr (laws_eqInstrument.f k l0_0 a0_1 l1_0 a1_1 = some r) (Con Try.prog 15 [.p (.ag [.sl (.int .i64) l0_0, .v (.int .i64 a0_1)]), .p (.ag [.sl (.int .i64) l1_0, .v (.int .i64 a1_1)])] (.p (.c (.v (.bool r))))) := ⟨laws_eqInstrument.con _ _ _ _ _ _⟩
/-! ### laws_markIntS: function 26 -/
def laws_markIntS.l0 : Nat → List Int → Int → Int → Option (Int × List Int)
  | 0, _, _, _ => none
  | k + 1, x0, x1, x5 => if x5 < (x0.length : Int) then (if 0 ≤ x5 then (laws_markIntS.l0 k (x0.set (x5 : Int).toNat x1) (wrap64 (x1 + 1)) (wrap64 (x5 + 1))) else (none)) else (some (x1, x0))
def laws_markIntS.f (k : Nat) (l0 : List Int) (a1 : Int) : Option (Int × List Int) := laws_markIntS.l0 k l0 a1 0
instance laws_markIntS.lp0 {k : Nat} {r : Int × List Int} {Q : Wr → Prop}  {x0_1 : List Int} {x1_1 : Int} {x5_1 : Int} : Lp (laws_markIntS.l0 k x0_1 x1_1 x5_1 = some r) Q (fun k => ∀ {x0_1 : List Int} {x1_1 : Int} {x5_1 : Int}, laws_markIntS.l0 k x0_1 x1_1 x5_1 = some r → Q [(0, .p (.c (.rp (2 * Try.f26.ntmps + 0)))), (2 * (2 * Try.f26.ntmps + 0) + 1, .row 3 (.int .i64) x0_1), (2, .p (.c (.v (.int .i64 x1_1)))), (10, .p (.c (.v (.int .i64 x5_1))))]) k [(0, .p (.c (.rp (2 * Try.f26.ntmps + 0)))), (2 * (2 * Try.f26.ntmps + 0) + 1, .row 3 (.int .i64) x0_1), (2, .p (.c (.v (.int .i64 x1_1)))), (10, .p (.c (.v (.int .i64 x5_1))))] := ⟨fun j h => j h⟩
set_option maxRecDepth 8000 in
set_option maxHeartbeats 2000000 in
theorem laws_markIntS.con (k : Nat) (l0 : List Int) (a1 : Int) (r1 : Int) (r2 : List Int) (H : laws_markIntS.f k l0 a1 = some (r1, r2)) : Con Try.prog 26 [.p (.c (.ow 3 (.int .i64) l0)), .p (.c (.v (.int .i64 a1)))] (.p (.c (.v (.int .i64 r1)))) [(0, .c (.ow 3 (.int .i64) r2))] := by
  refine Con.mk' (fn := Try.f26) Try.func26 rfl (by kernel_rfl) rfl rfl rfl fun X w0 gs hF => ?_
  unfold laws_markIntS.f at H
  exact auto
instance laws_markIntS.ctr {k : Nat} {l0 : List Int} {a1 : Int} {t_ : (Int) × (List Int)} : Ctr (laws_markIntS.f k l0 a1 = some t_) (Con Try.prog 26 [.p (.c (.ow 3 (.int .i64) l0)), .p (.c (.v (.int .i64 a1)))] (.p (.c (.v (.int .i64 t_.1)))) [(0, .c (.ow 3 (.int .i64) t_.2))]) := ⟨fun h => laws_markIntS.con _ _ _ (t_.1) (t_.2) h⟩
/-! ### laws_markInstrument: function 16 -/
def laws_markInstrument.f (k : Nat) (l0_0 : List Int) (a0_1 : Int) (a1 : Int) : Option (Int × List Int) := (laws_markIntS.f k l0_0 a1).bind fun bt244 => (some (bt244.1, bt244.2))
set_option maxRecDepth 8000 in
set_option maxHeartbeats 2000000 in
theorem laws_markInstrument.con (k : Nat) (l0_0 : List Int) (a0_1 : Int) (a1 : Int) (r1 : Int) (r2 : List Int) (H : laws_markInstrument.f k l0_0 a0_1 a1 = some (r1, r2)) : Con Try.prog 16 [.p (.ag [.ow 3 (.int .i64) l0_0, .v (.int .i64 a0_1)]), .p (.c (.v (.int .i64 a1)))] (.p (.c (.v (.int .i64 r1)))) [(0, .c (.ow 3 (.int .i64) r2))] := by
  refine Con.mk' (fn := Try.f16) Try.func16 rfl (by kernel_rfl) rfl rfl rfl fun X w0 gs hF => ?_
  unfold laws_markInstrument.f at H
  exact auto
instance laws_markInstrument.ctr {k : Nat} {l0_0 : List Int} {a0_1 : Int} {a1 : Int} {t_ : (Int) × (List Int)} : Ctr (laws_markInstrument.f k l0_0 a0_1 a1 = some t_) (Con Try.prog 16 [.p (.ag [.ow 3 (.int .i64) l0_0, .v (.int .i64 a0_1)]), .p (.c (.v (.int .i64 a1)))] (.p (.c (.v (.int .i64 t_.1)))) [(0, .c (.ow 3 (.int .i64) t_.2))]) := ⟨fun h => laws_markInstrument.con _ _ _ _ (t_.1) (t_.2) h⟩
/-! ### laws_markNoteS: function 17 -/
def laws_markNoteS.l0 : Nat → List (S51) → Int → Int → Option (Int × (List (S51)))
  | 0, _, _, _ => none
  | k + 1, x0, x1, x5 => if x5 < (x0.length : Int) then (if 0 ≤ x5 then ((some (x0.set (x5 : Int).toNat (⟨x1, (rd_T51 x0 x5).f1, (rd_T51 x0 x5).f2⟩ : S51) : List (S51))).bind fun y246 => ((some (y246.set (x5 : Int).toNat (⟨(rd_T51 y246 x5).f0, wrap64 (x1 + 1), (rd_T51 y246 x5).f2⟩ : S51) : List (S51))).bind fun y247 => (laws_markNoteS.l0 k (y247.set (x5 : Int).toNat (⟨(rd_T51 y247 x5).f0, (rd_T51 y247 x5).f1, wrap64 ((wrap64 (x1 + 1)) + 1)⟩ : S51)) (wrap64 ((wrap64 ((wrap64 (x1 + 1)) + 1)) + 1)) (wrap64 (x5 + 1))))) else (none)) else (some (x1, x0))
def laws_markNoteS.f (k : Nat) (l0 : List (S51)) (a1 : Int) : Option (Int × (List (S51))) := laws_markNoteS.l0 k l0 a1 0
instance laws_markNoteS.lp0 {k : Nat} {r : Int × (List (S51))} {Q : Wr → Prop}  {x0_1 : List (S51)} {x1_1 : Int} {x5_1 : Int} : Lp (laws_markNoteS.l0 k x0_1 x1_1 x5_1 = some r) Q (fun k => ∀ {x0_1 : List (S51)} {x1_1 : Int} {x5_1 : Int}, laws_markNoteS.l0 k x0_1 x1_1 x5_1 = some r → Q [(0, .p (.c (.rp (2 * Try.f17.ntmps + 0)))), (2 * (2 * Try.f17.ntmps + 0) + 1, .row 51 K51 x0_1), (2, .p (.c (.v (.int .i64 x1_1)))), (10, .p (.c (.v (.int .i64 x5_1))))]) k [(0, .p (.c (.rp (2 * Try.f17.ntmps + 0)))), (2 * (2 * Try.f17.ntmps + 0) + 1, .row 51 K51 x0_1), (2, .p (.c (.v (.int .i64 x1_1)))), (10, .p (.c (.v (.int .i64 x5_1))))] := ⟨fun j h => j h⟩
set_option maxRecDepth 8000 in
set_option maxHeartbeats 2000000 in
theorem laws_markNoteS.con (k : Nat) (l0 : List (S51)) (a1 : Int) (r1 : Int) (r2 : List (S51)) (H : laws_markNoteS.f k l0 a1 = some (r1, r2)) : Con Try.prog 17 [.p (.c (.ow 51 K51 l0)), .p (.c (.v (.int .i64 a1)))] (.p (.c (.v (.int .i64 r1)))) [(0, .c (.ow 51 K51 r2))] := by
  refine Con.mk' (fn := Try.f17) Try.func17 rfl (by kernel_rfl) rfl rfl rfl fun X w0 gs hF => ?_
  unfold laws_markNoteS.f at H
  exact auto
instance laws_markNoteS.ctr {k : Nat} {l0 : List (S51)} {a1 : Int} {t_ : (Int) × (List (S51))} : Ctr (laws_markNoteS.f k l0 a1 = some t_) (Con Try.prog 17 [.p (.c (.ow 51 K51 l0)), .p (.c (.v (.int .i64 a1)))] (.p (.c (.v (.int .i64 t_.1)))) [(0, .c (.ow 51 K51 t_.2))]) := ⟨fun h => laws_markNoteS.con _ _ _ (t_.1) (t_.2) h⟩
/-! ### laws_heldNoteS: function 18 -/
def laws_heldNoteS.l0 : Nat → List (S51) → Int → Int → Option (Int)
  | 0, _, _, _ => none
  | k + 1, x0, x1, x5 => if x5 < (x0.length : Int) then (if 0 ≤ x5 then (if ((rd_T51 x0 x5).f0) = x1 then (if ((rd_T51 x0 x5).f1) = (wrap64 (x1 + 1)) then (if ((rd_T51 x0 x5).f2) = (wrap64 ((wrap64 (x1 + 1)) + 1)) then (laws_heldNoteS.l0 k x0 (wrap64 ((wrap64 ((wrap64 (x1 + 1)) + 1)) + 1)) (wrap64 (x5 + 1))) else (some (-1))) else (some (-1))) else (some (-1))) else (none)) else (some x1)
def laws_heldNoteS.f (k : Nat) (l0 : List (S51)) (a1 : Int) : Option (Int) := laws_heldNoteS.l0 k l0 a1 0
instance laws_heldNoteS.lp0 {k : Nat} {r : Int} {Q : Wr → Prop} {p0 : List (S51)} {x1_1 : Int} {x5_1 : Int} : Lp (laws_heldNoteS.l0 k p0 x1_1 x5_1 = some r) Q (fun k => ∀ {x1_1 : Int} {x5_1 : Int}, laws_heldNoteS.l0 k p0 x1_1 x5_1 = some r → Q [(2, .p (.c (.v (.int .i64 x1_1)))), (10, .p (.c (.v (.int .i64 x5_1))))]) k [(2, .p (.c (.v (.int .i64 x1_1)))), (10, .p (.c (.v (.int .i64 x5_1))))] := ⟨fun j h => j h⟩
set_option maxRecDepth 8000 in
set_option maxHeartbeats 2000000 in
theorem laws_heldNoteS.con (k : Nat) (l0 : List (S51)) (a1 : Int) (r : Int) (H : laws_heldNoteS.f k l0 a1 = some r) : Con Try.prog 18 [.p (.c (.sl K51 l0)), .p (.c (.v (.int .i64 a1)))] (.p (.c (.v (.int .i64 r)))) := by
  refine Con.mk' (fn := Try.f18) Try.func18 rfl (by kernel_rfl) rfl rfl rfl fun X w0 gs hF => ?_
  unfold laws_heldNoteS.f at H
  exact auto
instance laws_heldNoteS.ctr {k : Nat} {l0 : List (S51)} {a1 : Int} {r : Int} : Ctr (laws_heldNoteS.f k l0 a1 = some r) (Con Try.prog 18 [.p (.c (.sl K51 l0)), .p (.c (.v (.int .i64 a1)))] (.p (.c (.v (.int .i64 r))))) := ⟨laws_heldNoteS.con _ _ _ _⟩
/-! ### laws_FnExactJoinRepeats: function 3 -/
mutual
def laws_FnExactJoinRepeats.j0 : Nat → List (S54) → List (S51) → Bool → List (S51) → List (S51) → Bool → Bool → List Int → Int → List Int → Int → Option (Bool)
  | 0, _, _, _, _, _, _, _, _, _, _, _ => none
  | k + 1, x1, x6, x7, x9, x10, x11, x53, x253000, x253001, x271000, x271001 => if x53 = true then (some false) else ((laws_toInstrument.f k x253000 x253001).bind fun bt279 => ((laws_eqInstrument.f k x271000 x271001 bt279.1 bt279.2).bind fun t283 => (if t283 = true then ((laws_toNoteS.f k x1).bind fun t284 => ((laws_eqNoteS.f k x9 t284).bind fun t287 => (if t287 = true then ((laws_markInstrument.f k x271000 x271001 1).bind fun bt288 => ((laws_markNoteS.f k x9 bt288.1).bind fun bt290 => (if bt290.1 < 0 then (laws_FnExactJoinRepeats.j1 k x1 x6 x7 x10 true x253000 x253001) else ((laws_eqNoteS.f k x10 x6).bind fun t292 => (if t292 = true then (laws_FnExactJoinRepeats.j1 k x1 x6 x7 x10 (x11 != x7) x253000 x253001) else (laws_FnExactJoinRepeats.j1 k x1 x6 x7 x10 true x253000 x253001)))))) else (some false)))) else (some false))))
def laws_FnExactJoinRepeats.j1 : Nat → List (S54) → List (S51) → Bool → List (S51) → Bool → List Int → Int → Option (Bool)
  | 0, _, _, _, _, _, _, _ => none
  | k + 1, x1, x6, x7, x10, x82, x253000, x253001 => if x82 = true then (some false) else ((laws_markNoteS.f k x10 1).bind fun bt293 => ((laws_heldNoteS.f k bt293.2 1).bind fun t295 => (if t295 < 0 then (some false) else (if t295 = bt293.1 then ((laws_toInstrument.f k x253000 x253001).bind fun bt296 => ((laws_toNoteS.f k x1).bind fun t300 => ((impl_JoinRepeats.f k bt296.1 bt296.2 t300).bind fun bt303 => ((laws_eqNoteS.f k bt303.1 x6).bind fun t307 => (if t307 = true then (laws_FnExactJoinRepeats.j2 k bt293.2 bt293.1 (bt303.2 != x7)) else (laws_FnExactJoinRepeats.j2 k bt293.2 bt293.1 true)))))) else (some false)))))
def laws_FnExactJoinRepeats.j2 : Nat → List (S51) → Int → Bool → Option (Bool)
  | 0, _, _, _ => none
  | k + 1, x10, x13, x110 => if x110 = true then (some false) else ((laws_heldNoteS.f k x10 1).bind fun t308 => (if t308 < 0 then (some false) else (if t308 = x13 then (some true) else (some false))))
end
def laws_FnExactJoinRepeats.f (k : Nat) (l0_0 : List Int) (a0_1 : Int) (l1 : List (S54)) : Option (Bool) := (laws_szInstrument.f l0_0 a0_1 1048576).bind fun t253 => (if t253 < 0 then (some true) else ((laws_szNoteS.f l1 t253).bind fun t254 => (if t254 < 0 then (some true) else ((laws_toInstrument.f k l0_0 a0_1).bind fun bt255 => ((laws_toNoteS.f k l1).bind fun t259 => ((spec_JoinRepeats.f k bt255.1 bt255.2 t259).bind fun bt262 => ((laws_toInstrument.f k l0_0 a0_1).bind fun bt266 => ((laws_toNoteS.f k l1).bind fun t271 => ((impl_JoinRepeats.f k bt266.1 bt266.2 t271).bind fun bt274 => ((laws_eqNoteS.f k bt274.1 bt262.1).bind fun t278 => (if t278 = true then (laws_FnExactJoinRepeats.j0 k l1 bt262.1 bt262.2 t271 bt274.1 bt274.2 (bt274.2 != bt262.2) l0_0 a0_1 bt266.1 bt266.2) else (laws_FnExactJoinRepeats.j0 k l1 bt262.1 bt262.2 t271 bt274.1 bt274.2 true l0_0 a0_1 bt266.1 bt266.2))))))))))))
set_option maxRecDepth 8000 in
set_option maxHeartbeats 2000000 in
theorem laws_FnExactJoinRepeats.con (k : Nat) (l0_0 : List Int) (a0_1 : Int) (l1 : List (S54)) (r : Bool) (H : laws_FnExactJoinRepeats.f k l0_0 a0_1 l1 = some r) : Con Try.prog 3 [.p (.ag [.sl (.int .i64) l0_0, .v (.int .i64 a0_1)]), .p (.c (.sl K54 l1))] (.p (.c (.v (.bool r)))) := by
  refine Con.mk' (fn := Try.f3) Try.func3 rfl (by kernel_rfl) rfl rfl rfl fun X w0 gs hF => ?_
  unfold laws_FnExactJoinRepeats.f at H
  exact auto
instance laws_FnExactJoinRepeats.ctr {k : Nat} {l0_0 : List Int} {a0_1 : Int} {l1 : List (S54)} {r : Bool} : Ctr (laws_FnExactJoinRepeats.f k l0_0 a0_1 l1 = some r) (Con Try.prog 3 [.p (.ag [.sl (.int .i64) l0_0, .v (.int .i64 a0_1)]), .p (.c (.sl K54 l1))] (.p (.c (.v (.bool r))))) := ⟨laws_FnExactJoinRepeats.con _ _ _ _ _⟩
theorem laws_FnExactJoinRepeats.calls (k : Nat) (A0_0 : Option Addr) (c0_0 : Nat) (l0_0 : List Int) (a0_1 : Int) (A1 : Option Addr) (c1 : Nat) (l1 : List (S54)) (r : Bool) (w : World) (hr0_0 : Kd.C (Kd.int .i64) w A0_0 l0_0.length l0_0) (hc0_0 : l0_0.length ≤ c0_0) (hr1 : Kd.C k54 w A1 l1.length l1) (hc1 : l1.length ≤ c1) (h : laws_FnExactJoinRepeats.f k l0_0 a0_1 l1 = some r) :
    Calls Try.prog 3 #[.agg #[.slice A0_0 l0_0.length c0_0, .int .i64 a0_1], .slice A1 l1.length c1] w fun e w' => e = .returned (.bool r) ∧ Below w.heap.size w w' :=
  (laws_FnExactJoinRepeats.con k l0_0 a0_1 l1 r h).val rfl (show Args.relg (fun _ => False) w _ [.agg #[.slice A0_0 l0_0.length c0_0, .int .i64 a0_1], .slice A1 l1.length c1] [.slice A0_0 l0_0.length c0_0, .int .i64 a0_1, .slice A1 l1.length c1] from ⟨_, _, rfl, ⟨rfl, ⟨A0_0, c0_0, rfl, hc0_0, row_of_C rfl (fun _ h => h) hr0_0⟩, rfl, ⟨rfl, rfl, trivial⟩⟩, ⟨_, _, rfl, ⟨rfl, A1, c1, rfl, hc1, row_of_C rfl (fun _ h => h) hr1⟩, rfl⟩⟩)
/-! ### spec_thAsked: function 44 -/
def spec_thAsked.f (k : Nat) (l0_0 : List Int) (a0_1 : Int) (l1 : List (S51)) (a2 : Int) : Option (Bool) := (spec_inGood.f k l0_0 a0_1).bind fun t310 => (if t310 = true then ((spec_thGood.f k l1).bind fun t311 => (if t311 = true then ((spec_l1In.f a2 1 20).bind fun t312 => (some t312)) else (some false))) else (some false))
set_option maxRecDepth 8000 in
set_option maxHeartbeats 2000000 in
theorem spec_thAsked.con (k : Nat) (l0_0 : List Int) (a0_1 : Int) (l1 : List (S51)) (a2 : Int) (r : Bool) (H : spec_thAsked.f k l0_0 a0_1 l1 a2 = some r) : Con Try.prog 44 [.p (.ag [.sl (.int .i64) l0_0, .v (.int .i64 a0_1)]), .p (.c (.sl K51 l1)), .p (.c (.v (.int .i64 a2)))] (.p (.c (.v (.bool r)))) := by
  refine Con.mk' (fn := Try.f44) Try.func44 rfl (by kernel_rfl) rfl rfl rfl fun X w0 gs hF => ?_
  unfold spec_thAsked.f at H
  exact auto
instance spec_thAsked.ctr {k : Nat} {l0_0 : List Int} {a0_1 : Int} {l1 : List (S51)} {a2 : Int} {r : Bool} : Ctr (spec_thAsked.f k l0_0 a0_1 l1 a2 = some r) (Con Try.prog 44 [.p (.ag [.sl (.int .i64) l0_0, .v (.int .i64 a0_1)]), .p (.c (.sl K51 l1)), .p (.c (.v (.int .i64 a2)))] (.p (.c (.v (.bool r))))) := ⟨spec_thAsked.con _ _ _ _ _ _⟩
end Go.Proofs.Ytipcjpgonncinaa.J
