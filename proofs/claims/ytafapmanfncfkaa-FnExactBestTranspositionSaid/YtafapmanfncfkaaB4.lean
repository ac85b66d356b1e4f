/- BY EV: what the Go functions compute (read off the print), and that their calls come to it. No condition. -/
import Derived.Test.YtafapmanfncfkaaBEU
import Derived.Test.YtafapmanfncfkaaB3
set_option linter.unusedVariables false
set_option linter.unusedSimpArgs false
namespace Go.Proofs.Ytafapmanfncfkaa.B
open Go.RowKit Go.Proofs Go.Proofs.YtafapmanfncfkaaW.PrintWords Go.Proofs.YtafapmanfncfkaaW.PrintLast EV
/-! ### laws_eqInstrument: function 12 -/
def laws_eqInstrument.f (k : Nat) (l0_0 : List Int) (a0_1 : Int) (l1_0 : List Int) (a1_1 : Int) : Option (Bool) := (laws_eqIntS.f k l0_0 l1_0).bind fun t208 => (if t208 = true then (if a0_1 = a1_1 then (some true) else (some false)) else (some false))
set_option maxRecDepth 8000 in
set_option maxHeartbeats 2000000 in
theorem laws_eqInstrument.con (k : Nat) (l0_0 : List Int) (a0_1 : Int) (l1_0 : List Int) (a1_1 : Int) (r : Bool) (H : laws_eqInstrument.f k l0_0 a0_1 l1_0 a1_1 = some r) : Con Try.prog 12 [.p (.ag [.sl (.int .i64) l0_0, .v (.int .i64 a0_1)]), .p (.ag [.sl (.int .i64) l1_0, .v (.int .i64 a1_1)])] (.p (.c (.v (.bool r)))) := by
  refine Con.mk' (fn := Try.f12) Try.func12 rfl (by kernel_rfl) rfl rfl rfl fun X w0 gs hF => ?_
  unfold laws_eqInstrument.f at H
  exact auto
instance laws_eqInstrument.ctr {k : Nat} {l0_0 : List Int} {a0_1 : Int} {l1_0 : List Int} {a1_1 : Int} {r : Bool} : Ctr (laws_eqInstrument.f k l0_0 a0_1 l1_0 a1_1 = some r) (Con Try.prog 12 [.p (.ag [.sl (.int .i64) l0_0, .v (.int .i64 a0_1)]), .p (.ag [.sl (.int .i64) l1_0, .v (.int .i64 a1_1)])] (.p (.c (.v (.bool r))))) := ⟨laws_eqInstrument.con _ _ _ _ _ _⟩
/-! ### laws_eqNote: function 37 -/
def laws_eqNote.f (a0_0 : Int) (a0_1 : Int) (a0_2 : Int) (a1_0 : Int) (a1_1 : Int) (a1_2 : Int) : Option (Bool) := if a0_0 = a1_0 then (if a0_1 = a1_1 then (if a0_2 = a1_2 then (some true) else (some false)) else (some false)) else (some false)
set_option maxRecDepth 8000 in
set_option maxHeartbeats 2000000 in
theorem laws_eqNote.con (a0_0 : Int) (a0_1 : Int) (a0_2 : Int) (a1_0 : Int) (a1_1 : Int) (a1_2 : Int) (r : Bool) (H : laws_eqNote.f a0_0 a0_1 a0_2 a1_0 a1_1 a1_2 = some r) : Con Try.prog 37 [.p (.ag [.v (.int .i64 a0_0), .v (.int .i64 a0_1), .v (.int .i64 a0_2)]), .p (.ag [.v (.int .i64 a1_0), .v (.int .i64 a1_1), .v (.int .i64 a1_2)])] (.p (.c (.v (.bool r)))) := by
  refine Con.mk' (fn := Try.f37) Try.func37 rfl (by kernel_rfl) rfl rfl rfl fun X w0 gs hF => ?_
  unfold laws_eqNote.f at H
  exact auto
instance laws_eqNote.ctr {a0_0 : Int} {a0_1 : Int} {a0_2 : Int} {a1_0 : Int} {a1_1 : Int} {a1_2 : Int} {r : Bool} : Ctr (laws_eqNote.f a0_0 a0_1 a0_2 a1_0 a1_1 a1_2 = some r) (Con Try.prog 37 [.p (.ag [.v (.int .i64 a0_0), .v (.int .i64 a0_1), .v (.int .i64 a0_2)]), .p (.ag [.v (.int .i64 a1_0), .v (.int .i64 a1_1), .v (.int .i64 a1_2)])] (.p (.c (.v (.bool r))))) := ⟨laws_eqNote.con _ _ _ _ _ _ _⟩
/-! ### laws_eqNoteS: function 13 -/
def laws_eqNoteS.l0 : Nat → List (S55) → List (S55) → Int → Option (Bool)
  | 0, _, _, _ => none
  | k + 1, x0, x1, x5 => if x5 < (x0.length : Int) then (if 0 ≤ x5 then (if x5 < (x1.length : Int) then ((laws_eqNote.f ((rd_T55 x0 x5).f0) ((rd_T55 x0 x5).f1) ((rd_T55 x0 x5).f2) ((rd_T55 x1 x5).f0) ((rd_T55 x1 x5).f1) ((rd_T55 x1 x5).f2)).bind fun t213 => (if t213 = true then (laws_eqNoteS.l0 k x0 x1 (wrap64 (x5 + 1))) else (some false))) else (none)) else (none)) else (some true)
def laws_eqNoteS.f (k : Nat) (l0 : List (S55)) (l1 : List (S55)) : Option (Bool) := if (l0.length : Int) = (l1.length : Int) then (laws_eqNoteS.l0 k l0 l1 0) else (some false)
instance laws_eqNoteS.lp0 {k : Nat} {r : Bool} {Q : Wr → Prop} {p0 : List (S55)} {p1 : List (S55)} {x5_1 : Int} : Lp (laws_eqNoteS.l0 k p0 p1 x5_1 = some r) Q (fun k => ∀ {x5_1 : Int}, laws_eqNoteS.l0 k p0 p1 x5_1 = some r → Q [(10, .p (.c (.v (.int .i64 x5_1))))]) k [(10, .p (.c (.v (.int .i64 x5_1))))] := ⟨fun j h => j h⟩
set_option maxRecDepth 8000 in
set_option maxHeartbeats 2000000 in
theorem laws_eqNoteS.con (k : Nat) (l0 : List (S55)) (l1 : List (S55)) (r : Bool) (H : laws_eqNoteS.f k l0 l1 = some r) : Con Try.prog 13 [.p (.c (.sl K55 l0)), .p (.c (.sl K55 l1))] (.p (.c (.v (.bool r)))) := by
  refine Con.mk' (fn := Try.f13) Try.func13 rfl (by kernel_rfl) rfl rfl rfl fun X w0 gs hF => ?_
  unfold laws_eqNoteS.f at H
  exact auto
instance laws_eqNoteS.ctr {k : Nat} {l0 : List (S55)} {l1 : List (S55)} {r : Bool} : Ctr (laws_eqNoteS.f k l0 l1 = some r) (Con Try.prog 13 [.p (.c (.sl K55 l0)), .p (.c (.sl K55 l1))] (.p (.c (.v (.bool r))))) := ⟨laws_eqNoteS.con _ _ _ _⟩
end Go.Proofs.Ytafapmanfncfkaa.B
