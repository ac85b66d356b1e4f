/- BY EV: what the Go functions compute (read off the print), and that their calls come to it. No condition. -/
import Derived.Test.YtipcjpgonncinaaVEU
set_option linter.unusedVariables false
set_option linter.unusedSimpArgs false
namespace Go.Proofs.Ytipcjpgonncinaa.V
open Go.RowKit Go.Proofs Go.Proofs.YtipcjpgonncinaaW.PrintWords Go.Proofs.YtipcjpgonncinaaW.PrintLast EV
/-! ### laws_szIntS: function 30 -/
def laws_szIntS.f (l0 : List Int) (a1 : Int) : Option (Int) := if (wrap64 (a1 - (l0.length : Int))) < 0 then (some (-1)) else (some (wrap64 (a1 - (l0.length : Int))))
set_option maxRecDepth 8000 in
set_option maxHeartbeats 2000000 in
theorem laws_szIntS.con (l0 : List Int) (a1 : Int) (r : Int) (H : laws_szIntS.f l0 a1 = some r) : Con Try.prog 30 [.p (.c (.sl (.int .i64) l0)), .p (.c (.v (.int .i64 a1)))] (.p (.c (.v (.int .i64 r)))) := by
  refine Con.mk' (fn := Try.f30) Try.func30 rfl (by kernel_rfl) rfl rfl rfl fun X w0 gs hF => ?_
  unfold laws_szIntS.f at H
  exact auto
instance laws_szIntS.ctr {l0 : List Int} {a1 : Int} {r : Int} : Ctr (laws_szIntS.f l0 a1 = some r) (Con Try.prog 30 [.p (.c (.sl (.int .i64) l0)), .p (.c (.v (.int .i64 a1)))] (.p (.c (.v (.int .i64 r))))) := ⟨laws_szIntS.con _ _ _⟩
/-! ### laws_szInstrument: function 8 -/
def laws_szInstrument.f (l0_0 : List Int) (a0_1 : Int) (a1 : Int) : Option (Int) := (laws_szIntS.f l0_0 a1).bind fun t102 => (if t102 < 0 then (some (-1)) else (some t102))
set_option maxRecDepth 8000 in
set_option maxHeartbeats 2000000 in
theorem laws_szInstrument.con (l0_0 : List Int) (a0_1 : Int) (a1 : Int) (r : Int) (H : laws_szInstrument.f l0_0 a0_1 a1 = some r) : Con Try.prog 8 [.p (.ag [.sl (.int .i64) l0_0, .v (.int .i64 a0_1)]), .p (.c (.v (.int .i64 a1)))] (.p (.c (.v (.int .i64 r)))) := by
  refine Con.mk' (fn := Try.f8) Try.func8 rfl (by kernel_rfl) rfl rfl rfl fun X w0 gs hF => ?_
  unfold laws_szInstrument.f at H
  exact auto
instance laws_szInstrument.ctr {l0_0 : List Int} {a0_1 : Int} {a1 : Int} {r : Int} : Ctr (laws_szInstrument.f l0_0 a0_1 a1 = some r) (Con Try.prog 8 [.p (.ag [.sl (.int .i64) l0_0, .v (.int .i64 a0_1)]), .p (.c (.v (.int .i64 a1)))] (.p (.c (.v (.int .i64 r))))) := ⟨laws_szInstrument.con _ _ _ _⟩
/-! ### laws_szNoteS: function 9 -/
def laws_szNoteS.f (l0 : List (S54)) (a1 : Int) : Option (Int) := if (wrap64 (a1 - (l0.length : Int))) < 0 then (some (-1)) else (some (wrap64 (a1 - (l0.length : Int))))
set_option maxRecDepth 8000 in
set_option maxHeartbeats 2000000 in
theorem laws_szNoteS.con (l0 : List (S54)) (a1 : Int) (r : Int) (H : laws_szNoteS.f l0 a1 = some r) : Con Try.prog 9 [.p (.c (.sl K54 l0)), .p (.c (.v (.int .i64 a1)))] (.p (.c (.v (.int .i64 r)))) := by
  refine Con.mk' (fn := Try.f9) Try.func9 rfl (by kernel_rfl) rfl rfl rfl fun X w0 gs hF => ?_
  unfold laws_szNoteS.f at H
  exact auto
instance laws_szNoteS.ctr {l0 : List (S54)} {a1 : Int} {r : Int} : Ctr (laws_szNoteS.f l0 a1 = some r) (Con Try.prog 9 [.p (.c (.sl K54 l0)), .p (.c (.v (.int .i64 a1)))] (.p (.c (.v (.int .i64 r))))) := ⟨laws_szNoteS.con _ _ _⟩
/-! ### laws_toIntS: function 36 -/
def laws_toIntS.l0 : Nat → List Int → List Int → Int → Option (List Int)
  | 0, _, _, _ => none
  | k + 1, x0, x3, x4 => if x4 < (x0.length : Int) then (if 0 ≤ x4 then (if x4 < (x3.length : Int) then (laws_toIntS.l0 k x0 (x3.set (x4 : Int).toNat (rd x0 x4)) (wrap64 (x4 + 1))) else (none)) else (none)) else (some x3)
def laws_toIntS.f (k : Nat) (l0 : List Int) : Option (List Int) := if 0 ≤ (l0.length : Int) then (if ((l0.length : Int) : Int).toNat ≤ 35184372088832 then (laws_toIntS.l0 k l0 (List.replicate ((l0.length : Int) : Int).toNat 0) 0) else (none)) else (none)
instance laws_toIntS.lp0 {k : Nat} {r : List Int} {Q : Wr → Prop} {p0 : List Int} {x3_1 : List Int} {x4_1 : Int} : Lp (laws_toIntS.l0 k p0 x3_1 x4_1 = some r) Q (fun k => ∀ {x3_1 : List Int} {x4_1 : Int}, laws_toIntS.l0 k p0 x3_1 x4_1 = some r → Q [(6, .p (.c (.rp (Try.f36.ntmps + 3)))), (2 * (Try.f36.ntmps + 3) + 1, .row 3 (.int .i64) x3_1), (8, .p (.c (.v (.int .i64 x4_1))))]) k [(6, .p (.c (.rp (Try.f36.ntmps + 3)))), (2 * (Try.f36.ntmps + 3) + 1, .row 3 (.int .i64) x3_1), (8, .p (.c (.v (.int .i64 x4_1))))] := ⟨fun j h => j h⟩
set_option maxRecDepth 8000 in
set_option maxHeartbeats 2000000 in
theorem laws_toIntS.con (k : Nat) (l0 : List Int) (r : List Int) (H : laws_toIntS.f k l0 = some r) : Con Try.prog 36 [.p (.c (.sl (.int .i64) l0))] (.p (.c (.ow 3 (.int .i64) r))) := by
  refine Con.mk' (fn := Try.f36) Try.func36 rfl (by kernel_rfl) rfl rfl rfl fun X w0 gs hF => ?_
  unfold laws_toIntS.f at H
  exact auto
instance laws_toIntS.ctr {k : Nat} {l0 : List Int} {r : List Int} : Ctr (laws_toIntS.f k l0 = some r) (Con Try.prog 36 [.p (.c (.sl (.int .i64) l0))] (.p (.c (.ow 3 (.int .i64) r)))) := ⟨laws_toIntS.con _ _ _⟩
/-! ### laws_toInstrument: function 11 -/
def laws_toInstrument.f (k : Nat) (l0_0 : List Int) (a0_1 : Int) : Option (List Int × Int) := (laws_toIntS.f k l0_0).bind fun t111 => (some (t111, a0_1))
set_option maxRecDepth 8000 in
set_option maxHeartbeats 2000000 in
theorem laws_toInstrument.con (k : Nat) (l0_0 : List Int) (a0_1 : Int) (r1 : List Int) (r2 : Int) (H : laws_toInstrument.f k l0_0 a0_1 = some (r1, r2)) : Con Try.prog 11 [.p (.ag [.sl (.int .i64) l0_0, .v (.int .i64 a0_1)])] (.p (.ag [.ow 3 (.int .i64) r1, .v (.int .i64 r2)])) := by
  refine Con.mk' (fn := Try.f11) Try.func11 rfl (by kernel_rfl) rfl rfl rfl fun X w0 gs hF => ?_
  unfold laws_toInstrument.f at H
  exact auto
instance laws_toInstrument.ctr {k : Nat} {l0_0 : List Int} {a0_1 : Int} {t_ : (List Int) × (Int)} : Ctr (laws_toInstrument.f k l0_0 a0_1 = some t_) (Con Try.prog 11 [.p (.ag [.sl (.int .i64) l0_0, .v (.int .i64 a0_1)])] (.p (.ag [.ow 3 (.int .i64) t_.1, .v (.int .i64 t_.2)]))) := ⟨fun h => laws_toInstrument.con _ _ _ (t_.1) (t_.2) h⟩
/-! ### laws_toNote: function 37 -/
def laws_toNote.f (a0_0 : Int) (a0_1 : Int) (a0_2 : Int) : Option (Int × Int × Int) := some (a0_0, a0_1, a0_2)
set_option maxRecDepth 8000 in
set_option maxHeartbeats 2000000 in
theorem laws_toNote.con (a0_0 : Int) (a0_1 : Int) (a0_2 : Int) (r1 : Int) (r2 : Int) (r3 : Int) (H : laws_toNote.f a0_0 a0_1 a0_2 = some (r1, r2, r3)) : Con Try.prog 37 [.p (.ag [.v (.int .i64 a0_0), .v (.int .i64 a0_1), .v (.int .i64 a0_2)])] (.p (.ag [.v (.int .i64 r1), .v (.int .i64 r2), .v (.int .i64 r3)])) := by
  refine Con.mk' (fn := Try.f37) Try.func37 rfl (by kernel_rfl) rfl rfl rfl fun X w0 gs hF => ?_
  unfold laws_toNote.f at H
  exact auto
instance laws_toNote.ctr {a0_0 : Int} {a0_1 : Int} {a0_2 : Int} {t_ : (Int) × (Int) × (Int)} : Ctr (laws_toNote.f a0_0 a0_1 a0_2 = some t_) (Con Try.prog 37 [.p (.ag [.v (.int .i64 a0_0), .v (.int .i64 a0_1), .v (.int .i64 a0_2)])] (.p (.ag [.v (.int .i64 t_.1), .v (.int .i64 t_.2.1), .v (.int .i64 t_.2.2)]))) := ⟨fun h => laws_toNote.con _ _ _ (t_.1) (t_.2.1) (t_.2.2) h⟩
/-! ### laws_toNoteS: function 12 -/
def laws_toNoteS.l0 : Nat → List (S54) → List (S51) → Int → Option ((List (S51)))
  | 0, _, _, _ => none
  | k + 1, x0, x3, x4 => if x4 < (x0.length : Int) then (if 0 ≤ x4 then ((laws_toNote.f ((rd_T54 x0 x4).f0) ((rd_T54 x0 x4).f1) ((rd_T54 x0 x4).f2)).bind fun bt121 => (if x4 < (x3.length : Int) then (laws_toNoteS.l0 k x0 (x3.set (x4 : Int).toNat (⟨bt121.1, bt121.2.1, bt121.2.2⟩ : S51)) (wrap64 (x4 + 1))) else (none))) else (none)) else (some x3)
def laws_toNoteS.f (k : Nat) (l0 : List (S54)) : Option ((List (S51))) := if 0 ≤ (l0.length : Int) then (if ((l0.length : Int) : Int).toNat ≤ 11728124029610 then (laws_toNoteS.l0 k l0 (List.replicate ((l0.length : Int) : Int).toNat z51) 0) else (none)) else (none)
instance laws_toNoteS.lp0 {k : Nat} {r : (List (S51))} {Q : Wr → Prop} {p0 : List (S54)} {x3_1 : List (S51)} {x4_1 : Int} : Lp (laws_toNoteS.l0 k p0 x3_1 x4_1 = some r) Q (fun k => ∀ {x3_1 : List (S51)} {x4_1 : Int}, laws_toNoteS.l0 k p0 x3_1 x4_1 = some r → Q [(6, .p (.c (.rp (Try.f12.ntmps + 3)))), (2 * (Try.f12.ntmps + 3) + 1, .row 51 K51 x3_1), (8, .p (.c (.v (.int .i64 x4_1))))]) k [(6, .p (.c (.rp (Try.f12.ntmps + 3)))), (2 * (Try.f12.ntmps + 3) + 1, .row 51 K51 x3_1), (8, .p (.c (.v (.int .i64 x4_1))))] := ⟨fun j h => j h⟩
set_option maxRecDepth 8000 in
set_option maxHeartbeats 2000000 in
theorem laws_toNoteS.con (k : Nat) (l0 : List (S54)) (r : List (S51)) (H : laws_toNoteS.f k l0 = some r) : Con Try.prog 12 [.p (.c (.sl K54 l0))] (.p (.c (.ow 51 K51 r))) := by
  refine Con.mk' (fn := Try.f12) Try.func12 rfl (by kernel_rfl) rfl rfl rfl fun X w0 gs hF => ?_
  unfold laws_toNoteS.f at H
  exact auto
instance laws_toNoteS.ctr {k : Nat} {l0 : List (S54)} {r : List (S51)} : Ctr (laws_toNoteS.f k l0 = some r) (Con Try.prog 12 [.p (.c (.sl K54 l0))] (.p (.c (.ow 51 K51 r)))) := ⟨laws_toNoteS.con _ _ _⟩
/-! ### laws_eqNote: function 43 -/
def laws_eqNote.f (a0_0 : Int) (a0_1 : Int) (a0_2 : Int) (a1_0 : Int) (a1_1 : Int) (a1_2 : Int) : Option (Bool) := if a0_0 = a1_0 then (if a0_1 = a1_1 then (if a0_2 = a1_2 then (some true) else (some false)) else (some false)) else (some false)
set_option maxRecDepth 8000 in
set_option maxHeartbeats 2000000 in
theorem laws_eqNote.con (a0_0 : Int) (a0_1 : Int) (a0_2 : Int) (a1_0 : Int) (a1_1 : Int) (a1_2 : Int) (r : Bool) (H : laws_eqNote.f a0_0 a0_1 a0_2 a1_0 a1_1 a1_2 = some r) : Con Try.prog 43 [.p (.ag [.v (.int .i64 a0_0), .v (.int .i64 a0_1), .v (.int .i64 a0_2)]), .p (.ag [.v (.int .i64 a1_0), .v (.int .i64 a1_1), .v (.int .i64 a1_2)])] (.p (.c (.v (.bool r)))) := by
  refine Con.mk' (fn := Try.f43) Try.func43 rfl (by kernel_rfl) rfl rfl rfl fun X w0 gs hF => ?_
  unfold laws_eqNote.f at H
  exact auto
instance laws_eqNote.ctr {a0_0 : Int} {a0_1 : Int} {a0_2 : Int} {a1_0 : Int} {a1_1 : Int} {a1_2 : Int} {r : Bool} : Ctr (laws_eqNote.f a0_0 a0_1 a0_2 a1_0 a1_1 a1_2 = some r) (Con Try.prog 43 [.p (.ag [.v (.int .i64 a0_0), .v (.int .i64 a0_1), .v (.int .i64 a0_2)]), .p (.ag [.v (.int .i64 a1_0), .v (.int .i64 a1_1), .v (.int .i64 a1_2)])] (.p (.c (.v (.bool r))))) := ⟨laws_eqNote.con _ _ _ _ _ _ _⟩
/-! ### laws_eqNoteS: function 14 -/
def laws_eqNoteS.l0 : Nat → List (S51) → List (S51) → Int → Option (Bool)
  | 0, _, _, _ => none
  | k + 1, x0, x1, x5 => if x5 < (x0.length : Int) then (if 0 ≤ x5 then (if x5 < (x1.length : Int) then ((laws_eqNote.f ((rd_T51 x0 x5).f0) ((rd_T51 x0 x5).f1) ((rd_T51 x0 x5).f2) ((rd_T51 x1 x5).f0) ((rd_T51 x1 x5).f1) ((rd_T51 x1 x5).f2)).bind fun t129 => (if t129 = true then (laws_eqNoteS.l0 k x0 x1 (wrap64 (x5 + 1))) else (some false))) else (none)) else (none)) else (some true)
def laws_eqNoteS.f (k : Nat) (l0 : List (S51)) (l1 : List (S51)) : Option (Bool) := if (l0.length : Int) = (l1.length : Int) then (laws_eqNoteS.l0 k l0 l1 0) else (some false)
instance laws_eqNoteS.lp0 {k : Nat} {r : Bool} {Q : Wr → Prop} {p0 : List (S51)} {p1 : List (S51)} {x5_1 : Int} : Lp (laws_eqNoteS.l0 k p0 p1 x5_1 = some r) Q (fun k => ∀ {x5_1 : Int}, laws_eqNoteS.l0 k p0 p1 x5_1 = some r → Q [(10, .p (.c (.v (.int .i64 x5_1))))]) k [(10, .p (.c (.v (.int .i64 x5_1))))] := ⟨fun j h => j h⟩
set_option maxRecDepth 8000 in
set_option maxHeartbeats 2000000 in
theorem laws_eqNoteS.con (k : Nat) (l0 : List (S51)) (l1 : List (S51)) (r : Bool) (H : laws_eqNoteS.f k l0 l1 = some r) : Con Try.prog 14 [.p (.c (.sl K51 l0)), .p (.c (.sl K51 l1))] (.p (.c (.v (.bool r)))) := by
  refine Con.mk' (fn := Try.f14) Try.func14 rfl (by kernel_rfl) rfl rfl rfl fun X w0 gs hF => ?_
  unfold laws_eqNoteS.f at H
  exact auto
instance laws_eqNoteS.ctr {k : Nat} {l0 : List (S51)} {l1 : List (S51)} {r : Bool} : Ctr (laws_eqNoteS.f k l0 l1 = some r) (Con Try.prog 14 [.p (.c (.sl K51 l0)), .p (.c (.sl K51 l1))] (.p (.c (.v (.bool r))))) := ⟨laws_eqNoteS.con _ _ _ _⟩
/-! ### laws_eqIntS: function 25 -/
def laws_eqIntS.l0 : Nat → List Int → List Int → Int → Option (Bool)
  | 0, _, _, _ => none
  | k + 1, x0, x1, x5 => if x5 < (x0.length : Int) then (if 0 ≤ x5 then (if x5 < (x1.length : Int) then (if (rd x0 x5) = (rd x1 x5) then (laws_eqIntS.l0 k x0 x1 (wrap64 (x5 + 1))) else (some false)) else (none)) else (none)) else (some true)
def laws_eqIntS.f (k : Nat) (l0 : List Int) (l1 : List Int) : Option (Bool) := if (l0.length : Int) = (l1.length : Int) then (laws_eqIntS.l0 k l0 l1 0) else (some false)
instance laws_eqIntS.lp0 {k : Nat} {r : Bool} {Q : Wr → Prop} {p0 : List Int} {p1 : List Int} {x5_1 : Int} : Lp (laws_eqIntS.l0 k p0 p1 x5_1 = some r) Q (fun k => ∀ {x5_1 : Int}, laws_eqIntS.l0 k p0 p1 x5_1 = some r → Q [(10, .p (.c (.v (.int .i64 x5_1))))]) k [(10, .p (.c (.v (.int .i64 x5_1))))] := ⟨fun j h => j h⟩
set_option maxRecDepth 8000 in
set_option maxHeartbeats 2000000 in
theorem laws_eqIntS.con (k : Nat) (l0 : List Int) (l1 : List Int) (r : Bool) (H : laws_eqIntS.f k l0 l1 = some r) : Con Try.prog 25 [.p (.c (.sl (.int .i64) l0)), .p (.c (.sl (.int .i64) l1))] (.p (.c (.v (.bool r)))) := by
  refine Con.mk' (fn := Try.f25) Try.func25 rfl (by kernel_rfl) rfl rfl rfl fun X w0 gs hF => ?_
  unfold laws_eqIntS.f at H
  exact auto
instance laws_eqIntS.ctr {k : Nat} {l0 : List Int} {l1 : List Int} {r : Bool} : Ctr (laws_eqIntS.f k l0 l1 = some r) (Con Try.prog 25 [.p (.c (.sl (.int .i64) l0)), .p (.c (.sl (.int .i64) l1))] (.p (.c (.v (.bool r))))) := ⟨laws_eqIntS.con _ _ _ _⟩
end Go.Proofs.Ytipcjpgonncinaa.V
