/- BY EV: what the Go functions compute (read off the print), and that their calls come to it. No condition. -/
import Derived.Test.YtipcjpgonncinaaJEU
import Derived.Test.YtipcjpgonncinaaJ2
set_option linter.unusedVariables false
set_option linter.unusedSimpArgs false
namespace Go.Proofs.Ytipcjpgonncinaa.J
open Go.RowKit Go.Proofs Go.Proofs.YtipcjpgonncinaaW.PrintWords Go.Proofs.YtipcjpgonncinaaW.PrintLast EV
/-! ### impl_IsInstrument: function 38 -/
mutual
def impl_IsInstrument.j0 : Nat → Bool → List Int → Int → Option (Bool)
  | 0, _, _, _ => none
  | k + 1, x24, x188000, x188001 => if x24 = true then (some false) else (impl_IsInstrument.l0 k x188000 (x188000.length : Int) 0 x188000 x188001)
def impl_IsInstrument.l0 : Nat → List Int → Int → Int → List Int → Int → Option (Bool)
  | 0, _, _, _, _, _ => none
  | k + 1, x26, x27, x28, x188000, x188001 => if x28 < x27 then (if 0 ≤ x28 then (if x28 < (x26.length : Int) then ((impl_isPitch.f (rd x26 x28)).bind fun t189 => (if t189 = true then (if x28 > 0 then (if 0 ≤ (wrap64 (x28 - 1)) then (if (wrap64 (x28 - 1)) < (x188000.length : Int) then (if (rd x26 x28) ≤ (rd x188000 (wrap64 (x28 - 1))) then (some false) else (impl_IsInstrument.l0 k x26 x27 (wrap64 (x28 + 1)) x188000 x188001)) else (none)) else (none)) else (impl_IsInstrument.l0 k x26 x27 (wrap64 (x28 + 1)) x188000 x188001)) else (some false))) else (none)) else (none)) else (some true)
end
def impl_IsInstrument.f (k : Nat) (l0_0 : List Int) (a0_1 : Int) : Option (Bool) := if (l0_0.length : Int) < 1 then (impl_IsInstrument.j0 k true l0_0 a0_1) else (if (l0_0.length : Int) > 20 then (impl_IsInstrument.j0 k true l0_0 a0_1) else (if a0_1 < 1 then (impl_IsInstrument.j0 k true l0_0 a0_1) else (impl_IsInstrument.j0 k (decide (a0_1 > 20)) l0_0 a0_1)))
instance impl_IsInstrument.lp0 {k : Nat} {r : Bool} {Q : Wr → Prop} {p0 : List Int} {p1 : Int} {p3 : List Int} {p4 : Int} {x28_2 : Int} : Lp (impl_IsInstrument.l0 k p0 p1 x28_2 p3 p4 = some r) Q (fun k => ∀ {x28_2 : Int}, impl_IsInstrument.l0 k p0 p1 x28_2 p3 p4 = some r → Q [(56, .p (.c (.v (.int .i64 x28_2))))]) k [(56, .p (.c (.v (.int .i64 x28_2))))] := ⟨fun j h => j h⟩
set_option maxRecDepth 8000 in
set_option maxHeartbeats 2000000 in
theorem impl_IsInstrument.con (k : Nat) (l0_0 : List Int) (a0_1 : Int) (r : Bool) (H : impl_IsInstrument.f k l0_0 a0_1 = some r) : Con Try.prog 38 [.p (.ag [.sl (.int .i64) l0_0, .v (.int .i64 a0_1)])] (.p (.c (.v (.bool r)))) := by
  refine Con.mk' (fn := Try.f38) Try.func38 rfl (by kernel_rfl) rfl rfl rfl fun X w0 gs hF => ?_
  unfold impl_IsInstrument.f at H
  exact auto
instance impl_IsInstrument.ctr {k : Nat} {l0_0 : List Int} {a0_1 : Int} {r : Bool} : Ctr (impl_IsInstrument.f k l0_0 a0_1 = some r) (Con Try.prog 38 [.p (.ag [.sl (.int .i64) l0_0, .v (.int .i64 a0_1)])] (.p (.c (.v (.bool r))))) := ⟨impl_IsInstrument.con _ _ _ _⟩
/-! ### impl_noteEnd: function 41 -/
def impl_noteEnd.f (a0_0 : Int) (a0_1 : Int) (a0_2 : Int) : Option (Int) := some (wrap64 (a0_1 + a0_2))
set_option maxRecDepth 8000 in
set_option maxHeartbeats 2000000 in
theorem impl_noteEnd.con (a0_0 : Int) (a0_1 : Int) (a0_2 : Int) (r : Int) (H : impl_noteEnd.f a0_0 a0_1 a0_2 = some r) : Con Try.prog 41 [.p (.ag [.v (.int .i64 a0_0), .v (.int .i64 a0_1), .v (.int .i64 a0_2)])] (.p (.c (.v (.int .i64 r)))) := by
  refine Con.mk' (fn := Try.f41) Try.func41 rfl (by kernel_rfl) rfl rfl rfl fun X w0 gs hF => ?_
  unfold impl_noteEnd.f at H
  exact auto
instance impl_noteEnd.ctr {a0_0 : Int} {a0_1 : Int} {a0_2 : Int} {r : Int} : Ctr (impl_noteEnd.f a0_0 a0_1 a0_2 = some r) (Con Try.prog 41 [.p (.ag [.v (.int .i64 a0_0), .v (.int .i64 a0_1), .v (.int .i64 a0_2)])] (.p (.c (.v (.int .i64 r))))) := ⟨impl_noteEnd.con _ _ _ _⟩
/-! ### impl_IsNote: function 68 -/
def impl_IsNote.f (a0_0 : Int) (a0_1 : Int) (a0_2 : Int) : Option (Bool) := if a0_0 ≥ 24 then (if a0_0 ≤ 96 then (if a0_1 ≥ 0 then (if a0_1 ≤ 999 then (if a0_2 ≥ 1 then (some (decide (a0_2 ≤ 99))) else (some false)) else (some false)) else (some false)) else (some false)) else (some false)
set_option maxRecDepth 8000 in
set_option maxHeartbeats 2000000 in
theorem impl_IsNote.con (a0_0 : Int) (a0_1 : Int) (a0_2 : Int) (r : Bool) (H : impl_IsNote.f a0_0 a0_1 a0_2 = some r) : Con Try.prog 68 [.p (.ag [.v (.int .i64 a0_0), .v (.int .i64 a0_1), .v (.int .i64 a0_2)])] (.p (.c (.v (.bool r)))) := by
  refine Con.mk' (fn := Try.f68) Try.func68 rfl (by kernel_rfl) rfl rfl rfl fun X w0 gs hF => ?_
  unfold impl_IsNote.f at H
  exact auto
instance impl_IsNote.ctr {a0_0 : Int} {a0_1 : Int} {a0_2 : Int} {r : Bool} : Ctr (impl_IsNote.f a0_0 a0_1 a0_2 = some r) (Con Try.prog 68 [.p (.ag [.v (.int .i64 a0_0), .v (.int .i64 a0_1), .v (.int .i64 a0_2)])] (.p (.c (.v (.bool r))))) := ⟨impl_IsNote.con _ _ _ _⟩
/-! ### impl_noteLess: function 69 -/
def impl_noteLess.f (a0_0 : Int) (a0_1 : Int) (a0_2 : Int) (a1_0 : Int) (a1_1 : Int) (a1_2 : Int) : Option (Bool) := if a0_1 = a1_1 then (some (decide (a0_0 < a1_0))) else (some (decide (a0_1 < a1_1)))
set_option maxRecDepth 8000 in
set_option maxHeartbeats 2000000 in
theorem impl_noteLess.con (a0_0 : Int) (a0_1 : Int) (a0_2 : Int) (a1_0 : Int) (a1_1 : Int) (a1_2 : Int) (r : Bool) (H : impl_noteLess.f a0_0 a0_1 a0_2 a1_0 a1_1 a1_2 = some r) : Con Try.prog 69 [.p (.ag [.v (.int .i64 a0_0), .v (.int .i64 a0_1), .v (.int .i64 a0_2)]), .p (.ag [.v (.int .i64 a1_0), .v (.int .i64 a1_1), .v (.int .i64 a1_2)])] (.p (.c (.v (.bool r)))) := by
  refine Con.mk' (fn := Try.f69) Try.func69 rfl (by kernel_rfl) rfl rfl rfl fun X w0 gs hF => ?_
  unfold impl_noteLess.f at H
  exact auto
instance impl_noteLess.ctr {a0_0 : Int} {a0_1 : Int} {a0_2 : Int} {a1_0 : Int} {a1_1 : Int} {a1_2 : Int} {r : Bool} : Ctr (impl_noteLess.f a0_0 a0_1 a0_2 a1_0 a1_1 a1_2 = some r) (Con Try.prog 69 [.p (.ag [.v (.int .i64 a0_0), .v (.int .i64 a0_1), .v (.int .i64 a0_2)]), .p (.ag [.v (.int .i64 a1_0), .v (.int .i64 a1_1), .v (.int .i64 a1_2)])] (.p (.c (.v (.bool r))))) := ⟨impl_noteLess.con _ _ _ _ _ _ _⟩
/-! ### impl_IsScore: function 60 -/
mutual
def impl_IsScore.l0 : Nat → List (S51) → List (S51) → Int → Int → Option (Bool)
  | 0, _, _, _, _ => none
  | k + 1, x0, x10, x11, x12 => if x12 < x11 then (if 0 ≤ x12 then (if x12 < (x10.length : Int) then ((impl_IsNote.f ((rd_T51 x10 x12).f0) ((rd_T51 x10 x12).f1) ((rd_T51 x10 x12).f2)).bind fun t197 => (if t197 = true then (if x12 > 0 then (if 0 ≤ (wrap64 (x12 - 1)) then (if (wrap64 (x12 - 1)) < (x0.length : Int) then ((impl_noteLess.f ((rd_T51 x0 (wrap64 (x12 - 1))).f0) ((rd_T51 x0 (wrap64 (x12 - 1))).f1) ((rd_T51 x0 (wrap64 (x12 - 1))).f2) ((rd_T51 x10 x12).f0) ((rd_T51 x10 x12).f1) ((rd_T51 x10 x12).f2)).bind fun t199 => (impl_IsScore.j1 k x0 x12 x10 x11 x12 (!t199) ((rd_T51 x10 x12).f0) ((rd_T51 x10 x12).f1) ((rd_T51 x10 x12).f2))) else (none)) else (none)) else (impl_IsScore.j1 k x0 x12 x10 x11 x12 false ((rd_T51 x10 x12).f0) ((rd_T51 x10 x12).f1) ((rd_T51 x10 x12).f2))) else (impl_IsScore.j1 k x0 x12 x10 x11 x12 true ((rd_T51 x10 x12).f0) ((rd_T51 x10 x12).f1) ((rd_T51 x10 x12).f2)))) else (none)) else (none)) else (some true)
def impl_IsScore.j1 : Nat → List (S51) → Int → List (S51) → Int → Int → Bool → Int → Int → Int → Option (Bool)
  | 0, _, _, _, _, _, _, _, _, _ => none
  | k + 1, x0, x3, x10, x11, x12, x33, x197000, x197001, x197002 => if x33 = true then (some false) else (if 0 ≤ x3 then (if x3 ≤ (x0.length : Int) then ((some (x0.take (x3 : Int).toNat : List (S51))).bind fun y200 => (impl_IsScore.l1 k x0 x10 x11 x12 y200 (y200.length : Int) 0 x197000 x197001 x197002)) else (none)) else (none))
def impl_IsScore.l1 : Nat → List (S51) → List (S51) → Int → Int → List (S51) → Int → Int → Int → Int → Int → Option (Bool)
  | 0, _, _, _, _, _, _, _, _, _, _ => none
  | k + 1, x0, x10, x11, x12, x36, x37, x38, x197000, x197001, x197002 => if x38 < x37 then (if 0 ≤ x38 then (if x38 < (x36.length : Int) then (if ((rd_T51 x36 x38).f0) = x197000 then ((impl_noteEnd.f ((rd_T51 x36 x38).f0) ((rd_T51 x36 x38).f1) ((rd_T51 x36 x38).f2)).bind fun t206 => (if t206 > x197001 then (some false) else (impl_IsScore.l1 k x0 x10 x11 x12 x36 x37 (wrap64 (x38 + 1)) x197000 x197001 x197002))) else (impl_IsScore.l1 k x0 x10 x11 x12 x36 x37 (wrap64 (x38 + 1)) x197000 x197001 x197002)) else (none)) else (none)) else (impl_IsScore.l0 k x0 x10 x11 (wrap64 (x12 + 1)))
end
def impl_IsScore.f (k : Nat) (l0 : List (S51)) : Option (Bool) := if (l0.length : Int) > 30 then (some false) else (impl_IsScore.l0 k l0 l0 (l0.length : Int) 0)
instance impl_IsScore.lp0 {k : Nat} {r : Bool} {Q : Wr → Prop} {p0 : List (S51)} {p1 : List (S51)} {p2 : Int} {x12_1 : Int} : Lp (impl_IsScore.l0 k p0 p1 p2 x12_1 = some r) Q (fun k => ∀ {x12_1 : Int}, impl_IsScore.l0 k p0 p1 p2 x12_1 = some r → Q [(24, .p (.c (.v (.int .i64 x12_1))))]) k [(24, .p (.c (.v (.int .i64 x12_1))))] := ⟨fun j h => j h⟩
instance impl_IsScore.lp1 {k : Nat} {r : Bool} {Q : Wr → Prop} {p0 : List (S51)} {p1 : List (S51)} {p2 : Int} {p3 : Int} {p4 : List (S51)} {p5 : Int} {p7 : Int} {p8 : Int} {p9 : Int} {x38_3 : Int} : Lp (impl_IsScore.l1 k p0 p1 p2 p3 p4 p5 x38_3 p7 p8 p9 = some r) Q (fun k => ∀ {x38_3 : Int}, impl_IsScore.l1 k p0 p1 p2 p3 p4 p5 x38_3 p7 p8 p9 = some r → Q [(76, .p (.c (.v (.int .i64 x38_3))))]) k [(76, .p (.c (.v (.int .i64 x38_3))))] := ⟨fun j h => j h⟩
set_option maxRecDepth 8000 in
set_option maxHeartbeats 2000000 in
theorem impl_IsScore.con (k : Nat) (l0 : List (S51)) (r : Bool) (H : impl_IsScore.f k l0 = some r) : Con Try.prog 60 [.p (.c (.sl K51 l0))] (.p (.c (.v (.bool r)))) := by
  refine Con.mk' (fn := Try.f60) Try.func60 rfl (by kernel_rfl) rfl rfl rfl fun X w0 gs hF => ?_
  unfold impl_IsScore.f at H
  exact auto
instance impl_IsScore.ctr {k : Nat} {l0 : List (S51)} {r : Bool} : Ctr (impl_IsScore.f k l0 = some r) (Con Try.prog 60 [.p (.c (.sl K51 l0))] (.p (.c (.v (.bool r))))) := ⟨impl_IsScore.con _ _ _⟩
/-! ### impl_isThin: function 39 -/
def impl_isThin.f (k : Nat) (l0 : List (S51)) : Option (Bool) := if (l0.length : Int) ≤ 12 then ((impl_IsScore.f k l0).bind fun t207 => (some t207)) else (some false)
set_option maxRecDepth 8000 in
set_option maxHeartbeats 2000000 in
theorem impl_isThin.con (k : Nat) (l0 : List (S51)) (r : Bool) (H : impl_isThin.f k l0 = some r) : Con Try.prog 39 [.p (.c (.sl K51 l0))] (.p (.c (.v (.bool r)))) := by
  refine Con.mk' (fn := Try.f39) Try.func39 rfl (by kernel_rfl) rfl rfl rfl fun X w0 gs hF => ?_
  unfold impl_isThin.f at H
  exact auto
instance impl_isThin.ctr {k : Nat} {l0 : List (S51)} {r : Bool} : Ctr (impl_isThin.f k l0 = some r) (Con Try.prog 39 [.p (.c (.sl K51 l0))] (.p (.c (.v (.bool r))))) := ⟨impl_isThin.con _ _ _⟩
/-! ### slices_Index_int_int: function 61 -/
def slices_Index_int_int.l0 : Nat → List Int → Int → Int → Int → Option (Int)
  | 0, _, _, _, _ => none
  | k + 1, x0, x1, x7, x8 => if x8 < x7 then (if 0 ≤ x8 then (if x8 < (x0.length : Int) then (if x1 = (rd x0 x8) then (some x8) else (slices_Index_int_int.l0 k x0 x1 x7 (wrap64 (x8 + 1)))) else (none)) else (none)) else (some (-1))
def slices_Index_int_int.f (k : Nat) (l0 : List Int) (a1 : Int) : Option (Int) := slices_Index_int_int.l0 k l0 a1 (l0.length : Int) 0
instance slices_Index_int_int.lp0 {k : Nat} {r : Int} {Q : Wr → Prop} {p0 : List Int} {p1 : Int} {p2 : Int} {x8_1 : Int} : Lp (slices_Index_int_int.l0 k p0 p1 p2 x8_1 = some r) Q (fun k => ∀ {x8_1 : Int}, slices_Index_int_int.l0 k p0 p1 p2 x8_1 = some r → Q [(16, .p (.c (.v (.int .i64 x8_1))))]) k [(16, .p (.c (.v (.int .i64 x8_1))))] := ⟨fun j h => j h⟩
set_option maxRecDepth 8000 in
set_option maxHeartbeats 2000000 in
theorem slices_Index_int_int.con (k : Nat) (l0 : List Int) (a1 : Int) (r : Int) (H : slices_Index_int_int.f k l0 a1 = some r) : Con Try.prog 61 [.p (.c (.sl (.int .i64) l0)), .p (.c (.v (.int .i64 a1)))] (.p (.c (.v (.int .i64 r)))) := by
  refine Con.mk' (fn := Try.f61) Try.func61 rfl (by kernel_rfl) rfl rfl rfl fun X w0 gs hF => ?_
  unfold slices_Index_int_int.f at H
  exact auto
instance slices_Index_int_int.ctr {k : Nat} {l0 : List Int} {a1 : Int} {r : Int} : Ctr (slices_Index_int_int.f k l0 a1 = some r) (Con Try.prog 61 [.p (.c (.sl (.int .i64) l0)), .p (.c (.v (.int .i64 a1)))] (.p (.c (.v (.int .i64 r))))) := ⟨slices_Index_int_int.con _ _ _ _⟩
/-! ### slices_Contains_int_int: function 40 -/
def slices_Contains_int_int.f (k : Nat) (l0 : List Int) (a1 : Int) : Option (Bool) := (slices_Index_int_int.f k l0 a1).bind fun t209 => (some (decide (t209 ≥ 0)))
set_option maxRecDepth 8000 in
set_option maxHeartbeats 2000000 in
theorem slices_Contains_int_int.con (k : Nat) (l0 : List Int) (a1 : Int) (r : Bool) (H : slices_Contains_int_int.f k l0 a1 = some r) : Con Try.prog 40 [.p (.c (.sl (.int .i64) l0)), .p (.c (.v (.int .i64 a1)))] (.p (.c (.v (.bool r)))) := by
  refine Con.mk' (fn := Try.f40) Try.func40 rfl (by kernel_rfl) rfl rfl rfl fun X w0 gs hF => ?_
  unfold slices_Contains_int_int.f at H
  exact auto
instance slices_Contains_int_int.ctr {k : Nat} {l0 : List Int} {a1 : Int} {r : Bool} : Ctr (slices_Contains_int_int.f k l0 a1 = some r) (Con Try.prog 40 [.p (.c (.sl (.int .i64) l0)), .p (.c (.v (.int .i64 a1)))] (.p (.c (.v (.bool r))))) := ⟨slices_Contains_int_int.con _ _ _ _⟩
/-! ### impl_scoreOf: function 42 -/
def impl_scoreOf.f (k : Nat) (l0 : List (S51)) : Option ((List (S51)) × Bool) := (impl_IsScore.f k l0).bind fun t210 => (if t210 = true then (some (l0, true)) else (some (([] : List (S51)), false)))
set_option maxRecDepth 8000 in
set_option maxHeartbeats 2000000 in
theorem impl_scoreOf.con (k : Nat) (l0 : List (S51)) (r1 : List (S51)) (r2 : Bool) (H : impl_scoreOf.f k l0 = some (r1, r2)) : Con Try.prog 42 [.p (.c (.ow 51 K51 l0))] (.tp [.c (.ow 51 K51 r1), .c (.v (.bool r2))]) := by
  refine Con.mk' (fn := Try.f42) Try.func42 rfl (by kernel_rfl) rfl rfl rfl fun X w0 gs hF => ?_
  unfold impl_scoreOf.f at H
  exact auto
instance impl_scoreOf.ctr {k : Nat} {l0 : List (S51)} {t_ : (List (S51)) × (Bool)} : Ctr (impl_scoreOf.f k l0 = some t_) (Con Try.prog 42 [.p (.c (.ow 51 K51 l0))] (.tp [.c (.ow 51 K51 t_.1), .c (.v (.bool t_.2))])) := ⟨fun h => impl_scoreOf.con _ _ (t_.1) (t_.2) h⟩
/-! ### impl_JoinRepeats: function 13 -/
mutual
def impl_JoinRepeats.j0 : Nat → List (S51) → Bool → List Int → Int → Option ((List (S51)) × Bool)
  | 0, _, _, _, _ => none
  | k + 1, x1, x17, x212000, x212001 => if x17 = true then (some (([] : List (S51)), false)) else (impl_JoinRepeats.l0 k (([] : List (S51))) x1 (x1.length : Int) 0 x212000 x212001)
def impl_JoinRepeats.l0 : Nat → List (S51) → List (S51) → Int → Int → List Int → Int → Option ((List (S51)) × Bool)
  | 0, _, _, _, _, _, _ => none
  | k + 1, x6, x19, x20, x21, x212000, x212001 => if x21 < x20 then (if 0 ≤ x21 then (if x21 < (x19.length : Int) then (impl_JoinRepeats.l1 k x6 (wrap64 ((x6.length : Int) - 1)) x19 x20 x21 x212000 x212001 ((rd_T51 x19 x21).f0) ((rd_T51 x19 x21).f1) ((rd_T51 x19 x21).f2)) else (none)) else (none)) else ((impl_scoreOf.f k x6).bind fun bt217 => (some (bt217.1, bt217.2)))
def impl_JoinRepeats.j3 : Nat → List (S51) → Int → List (S51) → Int → Int → List Int → Int → Int → Int → Int → Option ((List (S51)) × Bool)
  | 0, _, _, _, _, _, _, _, _, _, _ => none
  | k + 1, x6, x9, x19, x20, x21, x212000, x212001, x223000, x223001, x223002 => if x9 < 0 then (impl_JoinRepeats.j4 k x6 x9 x19 x20 x21 true x212000 x212001 x223000 x223001 x223002) else ((slices_Contains_int_int.f k x212000 x223000).bind fun t224 => (if t224 = true then (if 0 ≤ x9 then (if x9 < (x6.length : Int) then (impl_JoinRepeats.j4 k x6 x9 x19 x20 x21 (decide ((wrap64 (x223001 - ((rd_T51 x6 x9).f1))) ≥ x212001)) x212000 x212001 x223000 x223001 x223002) else (none)) else (none)) else (impl_JoinRepeats.j4 k x6 x9 x19 x20 x21 true x212000 x212001 x223000 x223001 x223002)))
def impl_JoinRepeats.j4 : Nat → List (S51) → Int → List (S51) → Int → Int → Bool → List Int → Int → Int → Int → Int → Option ((List (S51)) × Bool)
  | 0, _, _, _, _, _, _, _, _, _, _, _ => none
  | k + 1, x6, x9, x19, x20, x21, x64, x212000, x212001, x223000, x223001, x223002 => if x64 = true then (if x6.length < 5864062014805 then (impl_JoinRepeats.l0 k (x6 ++ [(⟨x223000, x223001, x223002⟩ : S51)]) x19 x20 (wrap64 (x21 + 1)) x212000 x212001) else (none)) else ((impl_noteEnd.f x223000 x223001 x223002).bind fun t229 => (if 0 ≤ x9 then (if x9 < (x6.length : Int) then (impl_JoinRepeats.l0 k (x6.set (x9 : Int).toNat (⟨(rd_T51 x6 x9).f0, (rd_T51 x6 x9).f1, wrap64 (t229 - ((rd_T51 x6 x9).f1))⟩ : S51)) x19 x20 (wrap64 (x21 + 1)) x212000 x212001) else (none)) else (none)))
def impl_JoinRepeats.l1 : Nat → List (S51) → Int → List (S51) → Int → Int → List Int → Int → Int → Int → Int → Option ((List (S51)) × Bool)
  | 0, _, _, _, _, _, _, _, _, _, _ => none
  | k + 1, x6, x9, x19, x20, x21, x212000, x212001, x223000, x223001, x223002 => if x9 ≥ 0 then (if 0 ≤ x9 then (if x9 < (x6.length : Int) then (if ((rd_T51 x6 x9).f0) = x223000 then (impl_JoinRepeats.j3 k x6 x9 x19 x20 x21 x212000 x212001 x223000 x223001 x223002) else (impl_JoinRepeats.l1 k x6 (wrap64 (x9 - 1)) x19 x20 x21 x212000 x212001 x223000 x223001 x223002)) else (none)) else (none)) else (impl_JoinRepeats.j3 k x6 x9 x19 x20 x21 x212000 x212001 x223000 x223001 x223002)
end
def impl_JoinRepeats.f (k : Nat) (l0_0 : List Int) (a0_1 : Int) (l1 : List (S51)) : Option ((List (S51)) × Bool) := (impl_IsInstrument.f k l0_0 a0_1).bind fun t212 => (if t212 = true then ((impl_isThin.f k l1).bind fun t213 => (impl_JoinRepeats.j0 k l1 (!t213) l0_0 a0_1)) else (impl_JoinRepeats.j0 k l1 true l0_0 a0_1))
instance impl_JoinRepeats.lp0 {k : Nat} {r : (List (S51)) × Bool} {Q : Wr → Prop} {p1 : List (S51)} {p2 : Int} {p4 : List Int} {p5 : Int} {x6_2 : List (S51)} {x21_2 : Int} : Lp (impl_JoinRepeats.l0 k x6_2 p1 p2 x21_2 p4 p5 = some r) Q (fun k => ∀ {x6_2 : List (S51)} {x21_2 : Int}, impl_JoinRepeats.l0 k x6_2 p1 p2 x21_2 p4 p5 = some r → Q [(12, .p (.c (.rp (Try.f13.ntmps + 6)))), (2 * (Try.f13.ntmps + 6) + 1, .row 51 K51 x6_2), (42, .p (.c (.v (.int .i64 x21_2))))]) k [(12, .p (.c (.rp (Try.f13.ntmps + 6)))), (2 * (Try.f13.ntmps + 6) + 1, .row 51 K51 x6_2), (42, .p (.c (.v (.int .i64 x21_2))))] := ⟨fun j h => j h⟩
instance impl_JoinRepeats.lp1 {k : Nat} {r : (List (S51)) × Bool} {Q : Wr → Prop} {p0 : List (S51)} {p2 : List (S51)} {p3 : Int} {p4 : Int} {p5 : List Int} {p6 : Int} {p7 : Int} {p8 : Int} {p9 : Int} {x9_3 : Int} : Lp (impl_JoinRepeats.l1 k p0 x9_3 p2 p3 p4 p5 p6 p7 p8 p9 = some r) Q (fun k => ∀ {x9_3 : Int}, impl_JoinRepeats.l1 k p0 x9_3 p2 p3 p4 p5 p6 p7 p8 p9 = some r → Q [(18, .p (.c (.v (.int .i64 x9_3))))]) k [(18, .p (.c (.v (.int .i64 x9_3))))] := ⟨fun j h => j h⟩
set_option maxRecDepth 8000 in
set_option maxHeartbeats 2000000 in
theorem impl_JoinRepeats.con (k : Nat) (l0_0 : List Int) (a0_1 : Int) (l1 : List (S51)) (r1 : List (S51)) (r2 : Bool) (H : impl_JoinRepeats.f k l0_0 a0_1 l1 = some (r1, r2)) : Con Try.prog 13 [.p (.ag [.sl (.int .i64) l0_0, .v (.int .i64 a0_1)]), .p (.c (.sl K51 l1))] (.tp [.c (.ow 51 K51 r1), .c (.v (.bool r2))]) := by
  refine Con.mk' (fn := Try.f13) Try.func13 rfl (by kernel_rfl) rfl rfl rfl fun X w0 gs hF => ?_
  unfold impl_JoinRepeats.f at H
  exact auto
instance impl_JoinRepeats.ctr {k : Nat} {l0_0 : List Int} {a0_1 : Int} {l1 : List (S51)} {t_ : (List (S51)) × (Bool)} : Ctr (impl_JoinRepeats.f k l0_0 a0_1 l1 = some t_) (Con Try.prog 13 [.p (.ag [.sl (.int .i64) l0_0, .v (.int .i64 a0_1)]), .p (.c (.sl K51 l1))] (.tp [.c (.ow 51 K51 t_.1), .c (.v (.bool t_.2))])) := ⟨fun h => impl_JoinRepeats.con _ _ _ _ (t_.1) (t_.2) h⟩
end Go.Proofs.Ytipcjpgonncinaa.J
