/- BY EV: what the Go functions compute (read off the print), and that their calls come to it. No condition. -/
import Derived.Test.YtbfehdhncncgdaaIEU
set_option linter.unusedVariables false
set_option linter.unusedSimpArgs false
namespace Go.Proofs.Ytbfehdhncncgdaa.I
open Go.RowKit Go.Proofs Go.Proofs.YtbfehdhncncgdaaW.PrintWords Go.Proofs.YtbfehdhncncgdaaW.PrintLast EV
/-! ### laws_szIntS: function 28 -/
def laws_szIntS.f (l0 : List Int) (a1 : Int) : Option (Int) := if (wrap64 (a1 - (l0.length : Int))) < 0 then (some (-1)) else (some (wrap64 (a1 - (l0.length : Int))))
set_option maxRecDepth 8000 in
set_option maxHeartbeats 2000000 in
theorem laws_szIntS.con (l0 : List Int) (a1 : Int) (r : Int) (H : laws_szIntS.f l0 a1 = some r) : Con Try.prog 28 [.p (.c (.sl (.int .i64) l0)), .p (.c (.v (.int .i64 a1)))] (.p (.c (.v (.int .i64 r)))) := by
  refine Con.mk' (fn := Try.f28) Try.func28 rfl (by kernel_rfl) rfl rfl rfl fun X w0 gs hF => ?_
  unfold laws_szIntS.f at H
  exact auto
instance laws_szIntS.ctr {l0 : List Int} {a1 : Int} {r : Int} : Ctr (laws_szIntS.f l0 a1 = some r) (Con Try.prog 28 [.p (.c (.sl (.int .i64) l0)), .p (.c (.v (.int .i64 a1)))] (.p (.c (.v (.int .i64 r))))) := ⟨laws_szIntS.con _ _ _⟩
/-! ### laws_szInstrument: function 7 -/
def laws_szInstrument.f (l0_0 : List Int) (a0_1 : Int) (a1 : Int) : Option (Int) := (laws_szIntS.f l0_0 a1).bind fun t102 => (if t102 < 0 then (some (-1)) else (some t102))
set_option maxRecDepth 8000 in
set_option maxHeartbeats 2000000 in
theorem laws_szInstrument.con (l0_0 : List Int) (a0_1 : Int) (a1 : Int) (r : Int) (H : laws_szInstrument.f l0_0 a0_1 a1 = some r) : Con Try.prog 7 [.p (.ag [.sl (.int .i64) l0_0, .v (.int .i64 a0_1)]), .p (.c (.v (.int .i64 a1)))] (.p (.c (.v (.int .i64 r)))) := by
  refine Con.mk' (fn := Try.f7) Try.func7 rfl (by kernel_rfl) rfl rfl rfl fun X w0 gs hF => ?_
  unfold laws_szInstrument.f at H
  exact auto
instance laws_szInstrument.ctr {l0_0 : List Int} {a0_1 : Int} {a1 : Int} {r : Int} : Ctr (laws_szInstrument.f l0_0 a0_1 a1 = some r) (Con Try.prog 7 [.p (.ag [.sl (.int .i64) l0_0, .v (.int .i64 a0_1)]), .p (.c (.v (.int .i64 a1)))] (.p (.c (.v (.int .i64 r))))) := ⟨laws_szInstrument.con _ _ _ _⟩
/-! ### laws_toIntS: function 31 -/
def laws_toIntS.l0 : Nat → List Int → List Int → Int → Option (List Int)
  | 0, _, _, _ => none
  | k + 1, x0, x3, x4 => if x4 < (x0.length : Int) then (if 0 ≤ x4 then (if x4 < (x3.length : Int) then (laws_toIntS.l0 k x0 (x3.set (x4 : Int).toNat (rd x0 x4)) (wrap64 (x4 + 1))) else (none)) else (none)) else (some x3)
def laws_toIntS.f (k : Nat) (l0 : List Int) : Option (List Int) := if 0 ≤ (l0.length : Int) then (if ((l0.length : Int) : Int).toNat ≤ 35184372088832 then (laws_toIntS.l0 k l0 (List.replicate ((l0.length : Int) : Int).toNat 0) 0) else (none)) else (none)
instance laws_toIntS.lp0 {k : Nat} {r : List Int} {Q : Wr → Prop} {p0 : List Int} {x3_1 : List Int} {x4_1 : Int} : Lp (laws_toIntS.l0 k p0 x3_1 x4_1 = some r) Q (fun k => ∀ {x3_1 : List Int} {x4_1 : Int}, laws_toIntS.l0 k p0 x3_1 x4_1 = some r → Q [(6, .p (.c (.rp (Try.f31.ntmps + 3)))), (2 * (Try.f31.ntmps + 3) + 1, .row 3 (.int .i64) x3_1), (8, .p (.c (.v (.int .i64 x4_1))))]) k [(6, .p (.c (.rp (Try.f31.ntmps + 3)))), (2 * (Try.f31.ntmps + 3) + 1, .row 3 (.int .i64) x3_1), (8, .p (.c (.v (.int .i64 x4_1))))] := ⟨fun j h => j h⟩
set_option maxRecDepth 8000 in
set_option maxHeartbeats 2000000 in
theorem laws_toIntS.con (k : Nat) (l0 : List Int) (r : List Int) (H : laws_toIntS.f k l0 = some r) : Con Try.prog 31 [.p (.c (.sl (.int .i64) l0))] (.p (.c (.ow 3 (.int .i64) r))) := by
  refine Con.mk' (fn := Try.f31) Try.func31 rfl (by kernel_rfl) rfl rfl rfl fun X w0 gs hF => ?_
  unfold laws_toIntS.f at H
  exact auto
instance laws_toIntS.ctr {k : Nat} {l0 : List Int} {r : List Int} : Ctr (laws_toIntS.f k l0 = some r) (Con Try.prog 31 [.p (.c (.sl (.int .i64) l0))] (.p (.c (.ow 3 (.int .i64) r)))) := ⟨laws_toIntS.con _ _ _⟩
/-! ### laws_toInstrument: function 10 -/
def laws_toInstrument.f (k : Nat) (l0_0 : List Int) (a0_1 : Int) : Option (List Int × Int) := (laws_toIntS.f k l0_0).bind fun t111 => (some (t111, a0_1))
set_option maxRecDepth 8000 in
set_option maxHeartbeats 2000000 in
theorem laws_toInstrument.con (k : Nat) (l0_0 : List Int) (a0_1 : Int) (r1 : List Int) (r2 : Int) (H : laws_toInstrument.f k l0_0 a0_1 = some (r1, r2)) : Con Try.prog 10 [.p (.ag [.sl (.int .i64) l0_0, .v (.int .i64 a0_1)])] (.p (.ag [.ow 3 (.int .i64) r1, .v (.int .i64 r2)])) := by
  refine Con.mk' (fn := Try.f10) Try.func10 rfl (by kernel_rfl) rfl rfl rfl fun X w0 gs hF => ?_
  unfold laws_toInstrument.f at H
  exact auto
instance laws_toInstrument.ctr {k : Nat} {l0_0 : List Int} {a0_1 : Int} {t_ : (List Int) × (Int)} : Ctr (laws_toInstrument.f k l0_0 a0_1 = some t_) (Con Try.prog 10 [.p (.ag [.sl (.int .i64) l0_0, .v (.int .i64 a0_1)])] (.p (.ag [.ow 3 (.int .i64) t_.1, .v (.int .i64 t_.2)]))) := ⟨fun h => laws_toInstrument.con _ _ _ (t_.1) (t_.2) h⟩
/-! ### laws_eqHole: function 36 -/
def laws_eqHole.f (a0_0 : Int) (a0_1 : Int) (a0_2 : Int) (a1_0 : Int) (a1_1 : Int) (a1_2 : Int) : Option (Bool) := if a0_0 = a1_0 then (if a0_1 = a1_1 then (if a0_2 = a1_2 then (some true) else (some false)) else (some false)) else (some false)
set_option maxRecDepth 8000 in
set_option maxHeartbeats 2000000 in
theorem laws_eqHole.con (a0_0 : Int) (a0_1 : Int) (a0_2 : Int) (a1_0 : Int) (a1_1 : Int) (a1_2 : Int) (r : Bool) (H : laws_eqHole.f a0_0 a0_1 a0_2 a1_0 a1_1 a1_2 = some r) : Con Try.prog 36 [.p (.ag [.v (.int .i64 a0_0), .v (.int .i64 a0_1), .v (.int .i64 a0_2)]), .p (.ag [.v (.int .i64 a1_0), .v (.int .i64 a1_1), .v (.int .i64 a1_2)])] (.p (.c (.v (.bool r)))) := by
  refine Con.mk' (fn := Try.f36) Try.func36 rfl (by kernel_rfl) rfl rfl rfl fun X w0 gs hF => ?_
  unfold laws_eqHole.f at H
  exact auto
instance laws_eqHole.ctr {a0_0 : Int} {a0_1 : Int} {a0_2 : Int} {a1_0 : Int} {a1_1 : Int} {a1_2 : Int} {r : Bool} : Ctr (laws_eqHole.f a0_0 a0_1 a0_2 a1_0 a1_1 a1_2 = some r) (Con Try.prog 36 [.p (.ag [.v (.int .i64 a0_0), .v (.int .i64 a0_1), .v (.int .i64 a0_2)]), .p (.ag [.v (.int .i64 a1_0), .v (.int .i64 a1_1), .v (.int .i64 a1_2)])] (.p (.c (.v (.bool r))))) := ⟨laws_eqHole.con _ _ _ _ _ _ _⟩
/-! ### laws_eqHoleS: function 13 -/
def laws_eqHoleS.l0 : Nat → List (S64) → List (S64) → Int → Option (Bool)
  | 0, _, _, _ => none
  | k + 1, x0, x1, x5 => if x5 < (x0.length : Int) then (if 0 ≤ x5 then (if x5 < (x1.length : Int) then ((laws_eqHole.f ((rd_T64 x0 x5).f0) ((rd_T64 x0 x5).f1) ((rd_T64 x0 x5).f2) ((rd_T64 x1 x5).f0) ((rd_T64 x1 x5).f1) ((rd_T64 x1 x5).f2)).bind fun t118 => (if t118 = true then (laws_eqHoleS.l0 k x0 x1 (wrap64 (x5 + 1))) else (some false))) else (none)) else (none)) else (some true)
def laws_eqHoleS.f (k : Nat) (l0 : List (S64)) (l1 : List (S64)) : Option (Bool) := if (l0.length : Int) = (l1.length : Int) then (laws_eqHoleS.l0 k l0 l1 0) else (some false)
instance laws_eqHoleS.lp0 {k : Nat} {r : Bool} {Q : Wr → Prop} {p0 : List (S64)} {p1 : List (S64)} {x5_1 : Int} : Lp (laws_eqHoleS.l0 k p0 p1 x5_1 = some r) Q (fun k => ∀ {x5_1 : Int}, laws_eqHoleS.l0 k p0 p1 x5_1 = some r → Q [(10, .p (.c (.v (.int .i64 x5_1))))]) k [(10, .p (.c (.v (.int .i64 x5_1))))] := ⟨fun j h => j h⟩
set_option maxRecDepth 8000 in
set_option maxHeartbeats 2000000 in
theorem laws_eqHoleS.con (k : Nat) (l0 : List (S64)) (l1 : List (S64)) (r : Bool) (H : laws_eqHoleS.f k l0 l1 = some r) : Con Try.prog 13 [.p (.c (.sl K64 l0)), .p (.c (.sl K64 l1))] (.p (.c (.v (.bool r)))) := by
  refine Con.mk' (fn := Try.f13) Try.func13 rfl (by kernel_rfl) rfl rfl rfl fun X w0 gs hF => ?_
  unfold laws_eqHoleS.f at H
  exact auto
instance laws_eqHoleS.ctr {k : Nat} {l0 : List (S64)} {l1 : List (S64)} {r : Bool} : Ctr (laws_eqHoleS.f k l0 l1 = some r) (Con Try.prog 13 [.p (.c (.sl K64 l0)), .p (.c (.sl K64 l1))] (.p (.c (.v (.bool r))))) := ⟨laws_eqHoleS.con _ _ _ _⟩
/-! ### laws_eqIntS: function 37 -/
def laws_eqIntS.l0 : Nat → List Int → List Int → Int → Option (Bool)
  | 0, _, _, _ => none
  | k + 1, x0, x1, x5 => if x5 < (x0.length : Int) then (if 0 ≤ x5 then (if x5 < (x1.length : Int) then (if (rd x0 x5) = (rd x1 x5) then (laws_eqIntS.l0 k x0 x1 (wrap64 (x5 + 1))) else (some false)) else (none)) else (none)) else (some true)
def laws_eqIntS.f (k : Nat) (l0 : List Int) (l1 : List Int) : Option (Bool) := if (l0.length : Int) = (l1.length : Int) then (laws_eqIntS.l0 k l0 l1 0) else (some false)
instance laws_eqIntS.lp0 {k : Nat} {r : Bool} {Q : Wr → Prop} {p0 : List Int} {p1 : List Int} {x5_1 : Int} : Lp (laws_eqIntS.l0 k p0 p1 x5_1 = some r) Q (fun k => ∀ {x5_1 : Int}, laws_eqIntS.l0 k p0 p1 x5_1 = some r → Q [(10, .p (.c (.v (.int .i64 x5_1))))]) k [(10, .p (.c (.v (.int .i64 x5_1))))] := ⟨fun j h => j h⟩
set_option maxRecDepth 8000 in
set_option maxHeartbeats 2000000 in
theorem laws_eqIntS.con (k : Nat) (l0 : List Int) (l1 : List Int) (r : Bool) (H : laws_eqIntS.f k l0 l1 = some r) : Con Try.prog 37 [.p (.c (.sl (.int .i64) l0)), .p (.c (.sl (.int .i64) l1))] (.p (.c (.v (.bool r)))) := by
  refine Con.mk' (fn := Try.f37) Try.func37 rfl (by kernel_rfl) rfl rfl rfl fun X w0 gs hF => ?_
  unfold laws_eqIntS.f at H
  exact auto
instance laws_eqIntS.ctr {k : Nat} {l0 : List Int} {l1 : List Int} {r : Bool} : Ctr (laws_eqIntS.f k l0 l1 = some r) (Con Try.prog 37 [.p (.c (.sl (.int .i64) l0)), .p (.c (.sl (.int .i64) l1))] (.p (.c (.v (.bool r))))) := ⟨laws_eqIntS.con _ _ _ _⟩
/-! ### laws_eqInstrument: function 14 -/
def laws_eqInstrument.f (k : Nat) (l0_0 : List Int) (a0_1 : Int) (l1_0 : List Int) (a1_1 : Int) : Option (Bool) := (laws_eqIntS.f k l0_0 l1_0).bind fun t123 => (if t123 = true then (if a0_1 = a1_1 then (some true) else (some false)) else (some false))
set_option maxRecDepth 8000 in
set_option maxHeartbeats 2000000 in
theorem laws_eqInstrument.con (k : Nat) (l0_0 : List Int) (a0_1 : Int) (l1_0 : List Int) (a1_1 : Int) (r : Bool) (H : laws_eqInstrument.f k l0_0 a0_1 l1_0 a1_1 = some r) : Con Try.prog 14 [.p (.ag [.sl (.int .i64) l0_0, .v (.int .i64 a0_1)]), .p (.ag [.sl (.int .i64) l1_0, .v (.int .i64 a1_1)])] (.p (.c (.v (.bool r)))) := by
  refine Con.mk' (fn := Try.f14) Try.func14 rfl (by kernel_rfl) rfl rfl rfl fun X w0 gs hF => ?_
  unfold laws_eqInstrument.f at H
  exact auto
instance laws_eqInstrument.ctr {k : Nat} {l0_0 : List Int} {a0_1 : Int} {l1_0 : List Int} {a1_1 : Int} {r : Bool} : Ctr (laws_eqInstrument.f k l0_0 a0_1 l1_0 a1_1 = some r) (Con Try.prog 14 [.p (.ag [.sl (.int .i64) l0_0, .v (.int .i64 a0_1)]), .p (.ag [.sl (.int .i64) l1_0, .v (.int .i64 a1_1)])] (.p (.c (.v (.bool r))))) := ⟨laws_eqInstrument.con _ _ _ _ _ _⟩
/-! ### laws_szHoleS: function 22 -/
def laws_szHoleS.f (l0 : List (S73)) (a1 : Int) : Option (Int) := if (wrap64 (a1 - (l0.length : Int))) < 0 then (some (-1)) else (some (wrap64 (a1 - (l0.length : Int))))
set_option maxRecDepth 8000 in
set_option maxHeartbeats 2000000 in
theorem laws_szHoleS.con (l0 : List (S73)) (a1 : Int) (r : Int) (H : laws_szHoleS.f l0 a1 = some r) : Con Try.prog 22 [.p (.c (.sl K73 l0)), .p (.c (.v (.int .i64 a1)))] (.p (.c (.v (.int .i64 r)))) := by
  refine Con.mk' (fn := Try.f22) Try.func22 rfl (by kernel_rfl) rfl rfl rfl fun X w0 gs hF => ?_
  unfold laws_szHoleS.f at H
  exact auto
instance laws_szHoleS.ctr {l0 : List (S73)} {a1 : Int} {r : Int} : Ctr (laws_szHoleS.f l0 a1 = some r) (Con Try.prog 22 [.p (.c (.sl K73 l0)), .p (.c (.v (.int .i64 a1)))] (.p (.c (.v (.int .i64 r))))) := ⟨laws_szHoleS.con _ _ _⟩
/-! ### spec_l1In: function 40 -/
def spec_l1In.f (a0 : Int) (a1 : Int) (a2 : Int) : Option (Bool) := if a0 ≥ a1 then (some (decide (a0 ≤ a2))) else (some false)
set_option maxRecDepth 8000 in
set_option maxHeartbeats 2000000 in
theorem spec_l1In.con (a0 : Int) (a1 : Int) (a2 : Int) (r : Bool) (H : spec_l1In.f a0 a1 a2 = some r) : Con Try.prog 40 [.p (.c (.v (.int .i64 a0))), .p (.c (.v (.int .i64 a1))), .p (.c (.v (.int .i64 a2)))] (.p (.c (.v (.bool r)))) := by
  refine Con.mk' (fn := Try.f40) Try.func40 rfl (by kernel_rfl) rfl rfl rfl fun X w0 gs hF => ?_
  unfold spec_l1In.f at H
  exact auto
instance spec_l1In.ctr {a0 : Int} {a1 : Int} {a2 : Int} {r : Bool} : Ctr (spec_l1In.f a0 a1 a2 = some r) (Con Try.prog 40 [.p (.c (.v (.int .i64 a0))), .p (.c (.v (.int .i64 a1))), .p (.c (.v (.int .i64 a2)))] (.p (.c (.v (.bool r))))) := ⟨spec_l1In.con _ _ _ _⟩
end Go.Proofs.Ytbfehdhncncgdaa.I
