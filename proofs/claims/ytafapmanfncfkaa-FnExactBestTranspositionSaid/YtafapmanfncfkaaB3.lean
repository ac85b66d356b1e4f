/- BY EV: what the Go functions compute (read off the print), and that their calls come to it. No condition. -/
import Derived.Test.YtafapmanfncfkaaBEU
set_option linter.unusedVariables false
set_option linter.unusedSimpArgs false
namespace Go.Proofs.Ytafapmanfncfkaa.B
open Go.RowKit Go.Proofs Go.Proofs.YtafapmanfncfkaaW.PrintWords Go.Proofs.YtafapmanfncfkaaW.PrintLast EV
/-! ### impl_isPitch: function 40 -/
def impl_isPitch.f (a0 : Int) : Option (Bool) := if a0 ≥ 24 then (some (decide (a0 ≤ 96))) else (some false)
set_option maxRecDepth 8000 in
set_option maxHeartbeats 2000000 in
theorem impl_isPitch.con (a0 : Int) (r : Bool) (H : impl_isPitch.f a0 = some r) : Con Try.prog 40 [.p (.c (.v (.int .i64 a0)))] (.p (.c (.v (.bool r)))) := by
  refine Con.mk' (fn := Try.f40) Try.func40 rfl (by kernel_rfl) rfl rfl rfl fun X w0 gs hF => ?_
  unfold impl_isPitch.f at H
  exact auto
instance impl_isPitch.ctr {a0 : Int} {r : Bool} : Ctr (impl_isPitch.f a0 = some r) (Con Try.prog 40 [.p (.c (.v (.int .i64 a0)))] (.p (.c (.v (.bool r))))) := ⟨impl_isPitch.con _ _⟩
/-! ### impl_IsInstrument: function 31 -/
mutual
def impl_IsInstrument.j0 : Nat → Bool → List Int → Int → Option (Bool)
  | 0, _, _, _ => none
  | k + 1, x24, x179000, x179001 => if x24 = true then (some false) else (impl_IsInstrument.l0 k x179000 (x179000.length : Int) 0 x179000 x179001)
def impl_IsInstrument.l0 : Nat → List Int → Int → Int → List Int → Int → Option (Bool)
  | 0, _, _, _, _, _ => none
  | k + 1, x26, x27, x28, x179000, x179001 => if x28 < x27 then (if 0 ≤ x28 then (if x28 < (x26.length : Int) then ((impl_isPitch.f (rd x26 x28)).bind fun t180 => (if t180 = true then (if x28 > 0 then (if 0 ≤ (wrap64 (x28 - 1)) then (if (wrap64 (x28 - 1)) < (x179000.length : Int) then (if (rd x26 x28) ≤ (rd x179000 (wrap64 (x28 - 1))) then (some false) else (impl_IsInstrument.l0 k x26 x27 (wrap64 (x28 + 1)) x179000 x179001)) else (none)) else (none)) else (impl_IsInstrument.l0 k x26 x27 (wrap64 (x28 + 1)) x179000 x179001)) else (some false))) else (none)) else (none)) else (some true)
end
def impl_IsInstrument.f (k : Nat) (l0_0 : List Int) (a0_1 : Int) : Option (Bool) := if (l0_0.length : Int) < 1 then (impl_IsInstrument.j0 k true l0_0 a0_1) else (if (l0_0.length : Int) > 20 then (impl_IsInstrument.j0 k true l0_0 a0_1) else (if a0_1 < 1 then (impl_IsInstrument.j0 k true l0_0 a0_1) else (impl_IsInstrument.j0 k (decide (a0_1 > 20)) l0_0 a0_1)))
instance impl_IsInstrument.lp0 {k : Nat} {r : Bool} {Q : Wr → Prop} {p0 : List Int} {p1 : Int} {p3 : List Int} {p4 : Int} {x28_2 : Int} : Lp (impl_IsInstrument.l0 k p0 p1 x28_2 p3 p4 = some r) Q (fun k => ∀ {x28_2 : Int}, impl_IsInstrument.l0 k p0 p1 x28_2 p3 p4 = some r → Q [(56, .p (.c (.v (.int .i64 x28_2))))]) k [(56, .p (.c (.v (.int .i64 x28_2))))] := ⟨fun j h => j h⟩
set_option maxRecDepth 8000 in
set_option maxHeartbeats 2000000 in
theorem impl_IsInstrument.con (k : Nat) (l0_0 : List Int) (a0_1 : Int) (r : Bool) (H : impl_IsInstrument.f k l0_0 a0_1 = some r) : Con Try.prog 31 [.p (.ag [.sl (.int .i64) l0_0, .v (.int .i64 a0_1)])] (.p (.c (.v (.bool r)))) := by
  refine Con.mk' (fn := Try.f31) Try.func31 rfl (by kernel_rfl) rfl rfl rfl fun X w0 gs hF => ?_
  unfold impl_IsInstrument.f at H
  exact auto
instance impl_IsInstrument.ctr {k : Nat} {l0_0 : List Int} {a0_1 : Int} {r : Bool} : Ctr (impl_IsInstrument.f k l0_0 a0_1 = some r) (Con Try.prog 31 [.p (.ag [.sl (.int .i64) l0_0, .v (.int .i64 a0_1)])] (.p (.c (.v (.bool r))))) := ⟨impl_IsInstrument.con _ _ _ _⟩
/-! ### impl_IsNote: function 55 -/
def impl_IsNote.f (a0_0 : Int) (a0_1 : Int) (a0_2 : Int) : Option (Bool) := if a0_0 ≥ 24 then (if a0_0 ≤ 96 then (if a0_1 ≥ 0 then (if a0_1 ≤ 999 then (if a0_2 ≥ 1 then (some (decide (a0_2 ≤ 99))) else (some false)) else (some false)) else (some false)) else (some false)) else (some false)
set_option maxRecDepth 8000 in
set_option maxHeartbeats 2000000 in
theorem impl_IsNote.con (a0_0 : Int) (a0_1 : Int) (a0_2 : Int) (r : Bool) (H : impl_IsNote.f a0_0 a0_1 a0_2 = some r) : Con Try.prog 55 [.p (.ag [.v (.int .i64 a0_0), .v (.int .i64 a0_1), .v (.int .i64 a0_2)])] (.p (.c (.v (.bool r)))) := by
  refine Con.mk' (fn := Try.f55) Try.func55 rfl (by kernel_rfl) rfl rfl rfl fun X w0 gs hF => ?_
  unfold impl_IsNote.f at H
  exact auto
instance impl_IsNote.ctr {a0_0 : Int} {a0_1 : Int} {a0_2 : Int} {r : Bool} : Ctr (impl_IsNote.f a0_0 a0_1 a0_2 = some r) (Con Try.prog 55 [.p (.ag [.v (.int .i64 a0_0), .v (.int .i64 a0_1), .v (.int .i64 a0_2)])] (.p (.c (.v (.bool r))))) := ⟨impl_IsNote.con _ _ _ _⟩
/-! ### impl_noteLess: function 56 -/
def impl_noteLess.f (a0_0 : Int) (a0_1 : Int) (a0_2 : Int) (a1_0 : Int) (a1_1 : Int) (a1_2 : Int) : Option (Bool) := if a0_1 = a1_1 then (some (decide (a0_0 < a1_0))) else (some (decide (a0_1 < a1_1)))
set_option maxRecDepth 8000 in
set_option maxHeartbeats 2000000 in
theorem impl_noteLess.con (a0_0 : Int) (a0_1 : Int) (a0_2 : Int) (a1_0 : Int) (a1_1 : Int) (a1_2 : Int) (r : Bool) (H : impl_noteLess.f a0_0 a0_1 a0_2 a1_0 a1_1 a1_2 = some r) : Con Try.prog 56 [.p (.ag [.v (.int .i64 a0_0), .v (.int .i64 a0_1), .v (.int .i64 a0_2)]), .p (.ag [.v (.int .i64 a1_0), .v (.int .i64 a1_1), .v (.int .i64 a1_2)])] (.p (.c (.v (.bool r)))) := by
  refine Con.mk' (fn := Try.f56) Try.func56 rfl (by kernel_rfl) rfl rfl rfl fun X w0 gs hF => ?_
  unfold impl_noteLess.f at H
  exact auto
instance impl_noteLess.ctr {a0_0 : Int} {a0_1 : Int} {a0_2 : Int} {a1_0 : Int} {a1_1 : Int} {a1_2 : Int} {r : Bool} : Ctr (impl_noteLess.f a0_0 a0_1 a0_2 a1_0 a1_1 a1_2 = some r) (Con Try.prog 56 [.p (.ag [.v (.int .i64 a0_0), .v (.int .i64 a0_1), .v (.int .i64 a0_2)]), .p (.ag [.v (.int .i64 a1_0), .v (.int .i64 a1_1), .v (.int .i64 a1_2)])] (.p (.c (.v (.bool r))))) := ⟨impl_noteLess.con _ _ _ _ _ _ _⟩
/-! ### impl_noteEnd: function 57 -/
def impl_noteEnd.f (a0_0 : Int) (a0_1 : Int) (a0_2 : Int) : Option (Int) := some (wrap64 (a0_1 + a0_2))
set_option maxRecDepth 8000 in
set_option maxHeartbeats 2000000 in
theorem impl_noteEnd.con (a0_0 : Int) (a0_1 : Int) (a0_2 : Int) (r : Int) (H : impl_noteEnd.f a0_0 a0_1 a0_2 = some r) : Con Try.prog 57 [.p (.ag [.v (.int .i64 a0_0), .v (.int .i64 a0_1), .v (.int .i64 a0_2)])] (.p (.c (.v (.int .i64 r)))) := by
  refine Con.mk' (fn := Try.f57) Try.func57 rfl (by kernel_rfl) rfl rfl rfl fun X w0 gs hF => ?_
  unfold impl_noteEnd.f at H
  exact auto
instance impl_noteEnd.ctr {a0_0 : Int} {a0_1 : Int} {a0_2 : Int} {r : Int} : Ctr (impl_noteEnd.f a0_0 a0_1 a0_2 = some r) (Con Try.prog 57 [.p (.ag [.v (.int .i64 a0_0), .v (.int .i64 a0_1), .v (.int .i64 a0_2)])] (.p (.c (.v (.int .i64 r))))) := ⟨impl_noteEnd.con _ _ _ _⟩
/-! ### impl_IsScore: function 32 -/
mutual
def impl_IsScore.l0 : Nat → List (S55) → List (S55) → Int → Int → Option (Bool)
  | 0, _, _, _, _ => none
  | k + 1, x0, x10, x11, x12 => if x12 < x11 then (if 0 ≤ x12 then (if x12 < (x10.length : Int) then ((impl_IsNote.f ((rd_T55 x10 x12).f0) ((rd_T55 x10 x12).f1) ((rd_T55 x10 x12).f2)).bind fun t188 => (if t188 = true then (if x12 > 0 then (if 0 ≤ (wrap64 (x12 - 1)) then (if (wrap64 (x12 - 1)) < (x0.length : Int) then ((impl_noteLess.f ((rd_T55 x0 (wrap64 (x12 - 1))).f0) ((rd_T55 x0 (wrap64 (x12 - 1))).f1) ((rd_T55 x0 (wrap64 (x12 - 1))).f2) ((rd_T55 x10 x12).f0) ((rd_T55 x10 x12).f1) ((rd_T55 x10 x12).f2)).bind fun t190 => (impl_IsScore.j1 k x0 x12 x10 x11 x12 (!t190) ((rd_T55 x10 x12).f0) ((rd_T55 x10 x12).f1) ((rd_T55 x10 x12).f2))) else (none)) else (none)) else (impl_IsScore.j1 k x0 x12 x10 x11 x12 false ((rd_T55 x10 x12).f0) ((rd_T55 x10 x12).f1) ((rd_T55 x10 x12).f2))) else (impl_IsScore.j1 k x0 x12 x10 x11 x12 true ((rd_T55 x10 x12).f0) ((rd_T55 x10 x12).f1) ((rd_T55 x10 x12).f2)))) else (none)) else (none)) else (some true)
def impl_IsScore.j1 : Nat → List (S55) → Int → List (S55) → Int → Int → Bool → Int → Int → Int → Option (Bool)
  | 0, _, _, _, _, _, _, _, _, _ => none
  | k + 1, x0, x3, x10, x11, x12, x33, x188000, x188001, x188002 => if x33 = true then (some false) else (if 0 ≤ x3 then (if x3 ≤ (x0.length : Int) then ((some (x0.take (x3 : Int).toNat : List (S55))).bind fun y191 => (impl_IsScore.l1 k x0 x10 x11 x12 y191 (y191.length : Int) 0 x188000 x188001 x188002)) else (none)) else (none))
def impl_IsScore.l1 : Nat → List (S55) → List (S55) → Int → Int → List (S55) → Int → Int → Int → Int → Int → Option (Bool)
  | 0, _, _, _, _, _, _, _, _, _, _ => none
  | k + 1, x0, x10, x11, x12, x36, x37, x38, x188000, x188001, x188002 => if x38 < x37 then (if 0 ≤ x38 then (if x38 < (x36.length : Int) then (if ((rd_T55 x36 x38).f0) = x188000 then ((impl_noteEnd.f ((rd_T55 x36 x38).f0) ((rd_T55 x36 x38).f1) ((rd_T55 x36 x38).f2)).bind fun t197 => (if t197 > x188001 then (some false) else (impl_IsScore.l1 k x0 x10 x11 x12 x36 x37 (wrap64 (x38 + 1)) x188000 x188001 x188002))) else (impl_IsScore.l1 k x0 x10 x11 x12 x36 x37 (wrap64 (x38 + 1)) x188000 x188001 x188002)) else (none)) else (none)) else (impl_IsScore.l0 k x0 x10 x11 (wrap64 (x12 + 1)))
end
def impl_IsScore.f (k : Nat) (l0 : List (S55)) : Option (Bool) := if (l0.length : Int) > 30 then (some false) else (impl_IsScore.l0 k l0 l0 (l0.length : Int) 0)
instance impl_IsScore.lp0 {k : Nat} {r : Bool} {Q : Wr → Prop} {p0 : List (S55)} {p1 : List (S55)} {p2 : Int} {x12_1 : Int} : Lp (impl_IsScore.l0 k p0 p1 p2 x12_1 = some r) Q (fun k => ∀ {x12_1 : Int}, impl_IsScore.l0 k p0 p1 p2 x12_1 = some r → Q [(24, .p (.c (.v (.int .i64 x12_1))))]) k [(24, .p (.c (.v (.int .i64 x12_1))))] := ⟨fun j h => j h⟩
instance impl_IsScore.lp1 {k : Nat} {r : Bool} {Q : Wr → Prop} {p0 : List (S55)} {p1 : List (S55)} {p2 : Int} {p3 : Int} {p4 : List (S55)} {p5 : Int} {p7 : Int} {p8 : Int} {p9 : Int} {x38_3 : Int} : Lp (impl_IsScore.l1 k p0 p1 p2 p3 p4 p5 x38_3 p7 p8 p9 = some r) Q (fun k => ∀ {x38_3 : Int}, impl_IsScore.l1 k p0 p1 p2 p3 p4 p5 x38_3 p7 p8 p9 = some r → Q [(76, .p (.c (.v (.int .i64 x38_3))))]) k [(76, .p (.c (.v (.int .i64 x38_3))))] := ⟨fun j h => j h⟩
set_option maxRecDepth 8000 in
set_option maxHeartbeats 2000000 in
theorem impl_IsScore.con (k : Nat) (l0 : List (S55)) (r : Bool) (H : impl_IsScore.f k l0 = some r) : Con Try.prog 32 [.p (.c (.sl K55 l0))] (.p (.c (.v (.bool r)))) := by
  refine Con.mk' (fn := Try.f32) Try.func32 rfl (by kernel_rfl) rfl rfl rfl fun X w0 gs hF => ?_
  unfold impl_IsScore.f at H
  exact auto
instance impl_IsScore.ctr {k : Nat} {l0 : List (S55)} {r : Bool} : Ctr (impl_IsScore.f k l0 = some r) (Con Try.prog 32 [.p (.c (.sl K55 l0))] (.p (.c (.v (.bool r))))) := ⟨impl_IsScore.con _ _ _⟩
/-! ### slices_Index_int_int: function 76 -/
def slices_Index_int_int.l0 : Nat → List Int → Int → Int → Int → Option (Int)
  | 0, _, _, _, _ => none
  | k + 1, x0, x1, x7, x8 => if x8 < x7 then (if 0 ≤ x8 then (if x8 < (x0.length : Int) then (if x1 = (rd x0 x8) then (some x8) else (slices_Index_int_int.l0 k x0 x1 x7 (wrap64 (x8 + 1)))) else (none)) else (none)) else (some (-1))
def slices_Index_int_int.f (k : Nat) (l0 : List Int) (a1 : Int) : Option (Int) := slices_Index_int_int.l0 k l0 a1 (l0.length : Int) 0
instance slices_Index_int_int.lp0 {k : Nat} {r : Int} {Q : Wr → Prop} {p0 : List Int} {p1 : Int} {p2 : Int} {x8_1 : Int} : Lp (slices_Index_int_int.l0 k p0 p1 p2 x8_1 = some r) Q (fun k => ∀ {x8_1 : Int}, slices_Index_int_int.l0 k p0 p1 p2 x8_1 = some r → Q [(16, .p (.c (.v (.int .i64 x8_1))))]) k [(16, .p (.c (.v (.int .i64 x8_1))))] := ⟨fun j h => j h⟩
set_option maxRecDepth 8000 in
set_option maxHeartbeats 2000000 in
theorem slices_Index_int_int.con (k : Nat) (l0 : List Int) (a1 : Int) (r : Int) (H : slices_Index_int_int.f k l0 a1 = some r) : Con Try.prog 76 [.p (.c (.sl (.int .i64) l0)), .p (.c (.v (.int .i64 a1)))] (.p (.c (.v (.int .i64 r)))) := by
  refine Con.mk' (fn := Try.f76) Try.func76 rfl (by kernel_rfl) rfl rfl rfl fun X w0 gs hF => ?_
  unfold slices_Index_int_int.f at H
  exact auto
instance slices_Index_int_int.ctr {k : Nat} {l0 : List Int} {a1 : Int} {r : Int} : Ctr (slices_Index_int_int.f k l0 a1 = some r) (Con Try.prog 76 [.p (.c (.sl (.int .i64) l0)), .p (.c (.v (.int .i64 a1)))] (.p (.c (.v (.int .i64 r))))) := ⟨slices_Index_int_int.con _ _ _ _⟩
/-! ### slices_Contains_int_int: function 58 -/
def slices_Contains_int_int.f (k : Nat) (l0 : List Int) (a1 : Int) : Option (Bool) := (slices_Index_int_int.f k l0 a1).bind fun t199 => (some (decide (t199 ≥ 0)))
set_option maxRecDepth 8000 in
set_option maxHeartbeats 2000000 in
theorem slices_Contains_int_int.con (k : Nat) (l0 : List Int) (a1 : Int) (r : Bool) (H : slices_Contains_int_int.f k l0 a1 = some r) : Con Try.prog 58 [.p (.c (.sl (.int .i64) l0)), .p (.c (.v (.int .i64 a1)))] (.p (.c (.v (.bool r)))) := by
  refine Con.mk' (fn := Try.f58) Try.func58 rfl (by kernel_rfl) rfl rfl rfl fun X w0 gs hF => ?_
  unfold slices_Contains_int_int.f at H
  exact auto
instance slices_Contains_int_int.ctr {k : Nat} {l0 : List Int} {a1 : Int} {r : Bool} : Ctr (slices_Contains_int_int.f k l0 a1 = some r) (Con Try.prog 58 [.p (.c (.sl (.int .i64) l0)), .p (.c (.v (.int .i64 a1)))] (.p (.c (.v (.bool r))))) := ⟨slices_Contains_int_int.con _ _ _ _⟩
/-! ### impl_transposeLoss: function 35 -/
def impl_transposeLoss.l0 : Nat → Int → Int → List (S55) → Int → Int → List Int → Int → Option (Int)
  | 0, _, _, _, _, _, _, _ => none
  | k + 1, x2, x7, x10, x11, x12, x201000, x201001 => if x12 < x11 then (if 0 ≤ x12 then (if x12 < (x10.length : Int) then ((slices_Contains_int_int.f k x201000 (wrap64 (((rd_T55 x10 x12).f0) + x2))).bind fun t203 => (if t203 = true then (impl_transposeLoss.l0 k x2 x7 x10 x11 (wrap64 (x12 + 1)) x201000 x201001) else (impl_transposeLoss.l0 k x2 (wrap64 (x7 + 1)) x10 x11 (wrap64 (x12 + 1)) x201000 x201001))) else (none)) else (none)) else (some x7)
def impl_transposeLoss.f (k : Nat) (l0_0 : List Int) (a0_1 : Int) (l1 : List (S55)) (a2 : Int) : Option (Int) := impl_transposeLoss.l0 k a2 0 l1 (l1.length : Int) 0 l0_0 a0_1
instance impl_transposeLoss.lp0 {k : Nat} {r : Int} {Q : Wr → Prop} {p0 : Int} {p2 : List (S55)} {p3 : Int} {p5 : List Int} {p6 : Int} {x7_1 : Int} {x12_1 : Int} : Lp (impl_transposeLoss.l0 k p0 x7_1 p2 p3 x12_1 p5 p6 = some r) Q (fun k => ∀ {x7_1 : Int} {x12_1 : Int}, impl_transposeLoss.l0 k p0 x7_1 p2 p3 x12_1 p5 p6 = some r → Q [(14, .p (.c (.v (.int .i64 x7_1)))), (24, .p (.c (.v (.int .i64 x12_1))))]) k [(14, .p (.c (.v (.int .i64 x7_1)))), (24, .p (.c (.v (.int .i64 x12_1))))] := ⟨fun j h => j h⟩
set_option maxRecDepth 8000 in
set_option maxHeartbeats 2000000 in
theorem impl_transposeLoss.con (k : Nat) (l0_0 : List Int) (a0_1 : Int) (l1 : List (S55)) (a2 : Int) (r : Int) (H : impl_transposeLoss.f k l0_0 a0_1 l1 a2 = some r) : Con Try.prog 35 [.p (.ag [.sl (.int .i64) l0_0, .v (.int .i64 a0_1)]), .p (.c (.sl K55 l1)), .p (.c (.v (.int .i64 a2)))] (.p (.c (.v (.int .i64 r)))) := by
  refine Con.mk' (fn := Try.f35) Try.func35 rfl (by kernel_rfl) rfl rfl rfl fun X w0 gs hF => ?_
  unfold impl_transposeLoss.f at H
  exact auto
instance impl_transposeLoss.ctr {k : Nat} {l0_0 : List Int} {a0_1 : Int} {l1 : List (S55)} {a2 : Int} {r : Int} : Ctr (impl_transposeLoss.f k l0_0 a0_1 l1 a2 = some r) (Con Try.prog 35 [.p (.ag [.sl (.int .i64) l0_0, .v (.int .i64 a0_1)]), .p (.c (.sl K55 l1)), .p (.c (.v (.int .i64 a2)))] (.p (.c (.v (.int .i64 r))))) := ⟨impl_transposeLoss.con _ _ _ _ _ _⟩
/-! ### laws_eqIntS: function 36 -/
def laws_eqIntS.l0 : Nat → List Int → List Int → Int → Option (Bool)
  | 0, _, _, _ => none
  | k + 1, x0, x1, x5 => if x5 < (x0.length : Int) then (if 0 ≤ x5 then (if x5 < (x1.length : Int) then (if (rd x0 x5) = (rd x1 x5) then (laws_eqIntS.l0 k x0 x1 (wrap64 (x5 + 1))) else (some false)) else (none)) else (none)) else (some true)
def laws_eqIntS.f (k : Nat) (l0 : List Int) (l1 : List Int) : Option (Bool) := if (l0.length : Int) = (l1.length : Int) then (laws_eqIntS.l0 k l0 l1 0) else (some false)
instance laws_eqIntS.lp0 {k : Nat} {r : Bool} {Q : Wr → Prop} {p0 : List Int} {p1 : List Int} {x5_1 : Int} : Lp (laws_eqIntS.l0 k p0 p1 x5_1 = some r) Q (fun k => ∀ {x5_1 : Int}, laws_eqIntS.l0 k p0 p1 x5_1 = some r → Q [(10, .p (.c (.v (.int .i64 x5_1))))]) k [(10, .p (.c (.v (.int .i64 x5_1))))] := ⟨fun j h => j h⟩
set_option maxRecDepth 8000 in
set_option maxHeartbeats 2000000 in
theorem laws_eqIntS.con (k : Nat) (l0 : List Int) (l1 : List Int) (r : Bool) (H : laws_eqIntS.f k l0 l1 = some r) : Con Try.prog 36 [.p (.c (.sl (.int .i64) l0)), .p (.c (.sl (.int .i64) l1))] (.p (.c (.v (.bool r)))) := by
  refine Con.mk' (fn := Try.f36) Try.func36 rfl (by kernel_rfl) rfl rfl rfl fun X w0 gs hF => ?_
  unfold laws_eqIntS.f at H
  exact auto
instance laws_eqIntS.ctr {k : Nat} {l0 : List Int} {l1 : List Int} {r : Bool} : Ctr (laws_eqIntS.f k l0 l1 = some r) (Con Try.prog 36 [.p (.c (.sl (.int .i64) l0)), .p (.c (.sl (.int .i64) l1))] (.p (.c (.v (.bool r))))) := ⟨laws_eqIntS.con _ _ _ _⟩
end Go.Proofs.Ytafapmanfncfkaa.B
