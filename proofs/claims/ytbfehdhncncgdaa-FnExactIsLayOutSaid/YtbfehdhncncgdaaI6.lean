/- BY EV: what the Go functions compute (read off the print), and that their calls come to it. No condition. -/
import Derived.Test.YtbfehdhncncgdaaIEU
import Derived.Test.YtbfehdhncncgdaaI3
import Derived.Test.YtbfehdhncncgdaaI4
import Derived.Test.YtbfehdhncncgdaaI5
set_option linter.unusedVariables false
set_option linter.unusedSimpArgs false
namespace Go.Proofs.Ytbfehdhncncgdaa.I
open Go.RowKit Go.Proofs Go.Proofs.YtbfehdhncncgdaaW.PrintWords Go.Proofs.YtbfehdhncncgdaaW.PrintLast EV
/-! ### impl_isTrack: function 85 -/
def impl_isTrack.f (a0 : Int) : Option (Bool) := if a0 ≥ 0 then (some (decide (a0 < 20))) else (some false)
set_option maxRecDepth 8000 in
set_option maxHeartbeats 2000000 in
theorem impl_isTrack.con (a0 : Int) (r : Bool) (H : impl_isTrack.f a0 = some r) : Con Try.prog 85 [.p (.c (.v (.int .i64 a0)))] (.p (.c (.v (.bool r)))) := by
  refine Con.mk' (fn := Try.f85) Try.func85 rfl (by kernel_rfl) rfl rfl rfl fun X w0 gs hF => ?_
  unfold impl_isTrack.f at H
  exact auto
instance impl_isTrack.ctr {a0 : Int} {r : Bool} : Ctr (impl_isTrack.f a0 = some r) (Con Try.prog 85 [.p (.c (.v (.int .i64 a0)))] (.p (.c (.v (.bool r))))) := ⟨impl_isTrack.con _ _⟩
/-! ### impl_IsHole: function 66 -/
def impl_IsHole.f (a0_0 : Int) (a0_1 : Int) (a0_2 : Int) : Option (Bool) := (impl_isTrack.f a0_0).bind fun t324 => (if t324 = true then (if a0_1 ≥ 0 then (if a0_1 < a0_2 then (some (decide (a0_2 ≤ 2000))) else (some false)) else (some false)) else (some false))
set_option maxRecDepth 8000 in
set_option maxHeartbeats 2000000 in
theorem impl_IsHole.con (a0_0 : Int) (a0_1 : Int) (a0_2 : Int) (r : Bool) (H : impl_IsHole.f a0_0 a0_1 a0_2 = some r) : Con Try.prog 66 [.p (.ag [.v (.int .i64 a0_0), .v (.int .i64 a0_1), .v (.int .i64 a0_2)])] (.p (.c (.v (.bool r)))) := by
  refine Con.mk' (fn := Try.f66) Try.func66 rfl (by kernel_rfl) rfl rfl rfl fun X w0 gs hF => ?_
  unfold impl_IsHole.f at H
  exact auto
instance impl_IsHole.ctr {a0_0 : Int} {a0_1 : Int} {a0_2 : Int} {r : Bool} : Ctr (impl_IsHole.f a0_0 a0_1 a0_2 = some r) (Con Try.prog 66 [.p (.ag [.v (.int .i64 a0_0), .v (.int .i64 a0_1), .v (.int .i64 a0_2)])] (.p (.c (.v (.bool r))))) := ⟨impl_IsHole.con _ _ _ _⟩
/-! ### impl_holeFor: function 59 -/
def impl_holeFor.f (k : Nat) (l0_0 : List Int) (a0_1 : Int) (a1_0 : Int) (a1_1 : Int) (a1_2 : Int) : Option (Int × Int × Int × Bool) := (slices_Index_int_int.f k l0_0 a1_0).bind fun t328 => ((impl_noteEnd.f a1_0 a1_1 a1_2).bind fun t329 => (if t328 < 0 then (some (0, 0, 0, false)) else ((impl_IsHole.f t328 (wrap64 (2 * a1_1)) (wrap64 ((wrap64 (2 * t329)) - 1))).bind fun t331 => (if t331 = true then (some (t328, wrap64 (2 * a1_1), wrap64 ((wrap64 (2 * t329)) - 1), true)) else (some (0, 0, 0, false))))))
set_option maxRecDepth 8000 in
set_option maxHeartbeats 2000000 in
theorem impl_holeFor.con (k : Nat) (l0_0 : List Int) (a0_1 : Int) (a1_0 : Int) (a1_1 : Int) (a1_2 : Int) (r1 : Int) (r2 : Int) (r3 : Int) (r4 : Bool) (H : impl_holeFor.f k l0_0 a0_1 a1_0 a1_1 a1_2 = some (r1, r2, r3, r4)) : Con Try.prog 59 [.p (.ag [.sl (.int .i64) l0_0, .v (.int .i64 a0_1)]), .p (.ag [.v (.int .i64 a1_0), .v (.int .i64 a1_1), .v (.int .i64 a1_2)])] (.tp [.ag [.v (.int .i64 r1), .v (.int .i64 r2), .v (.int .i64 r3)], .c (.v (.bool r4))]) := by
  refine Con.mk' (fn := Try.f59) Try.func59 rfl (by kernel_rfl) rfl rfl rfl fun X w0 gs hF => ?_
  unfold impl_holeFor.f at H
  exact auto
instance impl_holeFor.ctr {k : Nat} {l0_0 : List Int} {a0_1 : Int} {a1_0 : Int} {a1_1 : Int} {a1_2 : Int} {t_ : (Int) × (Int) × (Int) × (Bool)} : Ctr (impl_holeFor.f k l0_0 a0_1 a1_0 a1_1 a1_2 = some t_) (Con Try.prog 59 [.p (.ag [.sl (.int .i64) l0_0, .v (.int .i64 a0_1)]), .p (.ag [.v (.int .i64 a1_0), .v (.int .i64 a1_1), .v (.int .i64 a1_2)])] (.tp [.ag [.v (.int .i64 t_.1), .v (.int .i64 t_.2.1), .v (.int .i64 t_.2.2.1)], .c (.v (.bool t_.2.2.2))])) := ⟨fun h => impl_holeFor.con _ _ _ _ _ _ (t_.1) (t_.2.1) (t_.2.2.1) (t_.2.2.2) h⟩
/-! ### impl_holeLess: function 67 -/
def impl_holeLess.f (a0_0 : Int) (a0_1 : Int) (a0_2 : Int) (a1_0 : Int) (a1_1 : Int) (a1_2 : Int) : Option (Bool) := if a0_1 = a1_1 then (some (decide (a0_0 < a1_0))) else (some (decide (a0_1 < a1_1)))
set_option maxRecDepth 8000 in
set_option maxHeartbeats 2000000 in
theorem impl_holeLess.con (a0_0 : Int) (a0_1 : Int) (a0_2 : Int) (a1_0 : Int) (a1_1 : Int) (a1_2 : Int) (r : Bool) (H : impl_holeLess.f a0_0 a0_1 a0_2 a1_0 a1_1 a1_2 = some r) : Con Try.prog 67 [.p (.ag [.v (.int .i64 a0_0), .v (.int .i64 a0_1), .v (.int .i64 a0_2)]), .p (.ag [.v (.int .i64 a1_0), .v (.int .i64 a1_1), .v (.int .i64 a1_2)])] (.p (.c (.v (.bool r)))) := by
  refine Con.mk' (fn := Try.f67) Try.func67 rfl (by kernel_rfl) rfl rfl rfl fun X w0 gs hF => ?_
  unfold impl_holeLess.f at H
  exact auto
instance impl_holeLess.ctr {a0_0 : Int} {a0_1 : Int} {a0_2 : Int} {a1_0 : Int} {a1_1 : Int} {a1_2 : Int} {r : Bool} : Ctr (impl_holeLess.f a0_0 a0_1 a0_2 a1_0 a1_1 a1_2 = some r) (Con Try.prog 67 [.p (.ag [.v (.int .i64 a0_0), .v (.int .i64 a0_1), .v (.int .i64 a0_2)]), .p (.ag [.v (.int .i64 a1_0), .v (.int .i64 a1_1), .v (.int .i64 a1_2)])] (.p (.c (.v (.bool r))))) := ⟨impl_holeLess.con _ _ _ _ _ _ _⟩
theorem impl_holeLess.calls (a0_0 : Int) (a0_1 : Int) (a0_2 : Int) (a1_0 : Int) (a1_1 : Int) (a1_2 : Int) (r : Bool) (w : World) (h : impl_holeLess.f a0_0 a0_1 a0_2 a1_0 a1_1 a1_2 = some r) :
    Calls Try.prog 67 #[.agg #[.int .i64 a0_0, .int .i64 a0_1, .int .i64 a0_2], .agg #[.int .i64 a1_0, .int .i64 a1_1, .int .i64 a1_2]] w fun e w' => e = .returned (.bool r) ∧ Below w.heap.size w w' :=
  (impl_holeLess.con a0_0 a0_1 a0_2 a1_0 a1_1 a1_2 r h).val rfl (show Args.relg (fun _ => False) w _ [.agg #[.int .i64 a0_0, .int .i64 a0_1, .int .i64 a0_2], .agg #[.int .i64 a1_0, .int .i64 a1_1, .int .i64 a1_2]] [.int .i64 a0_0, .int .i64 a0_1, .int .i64 a0_2, .int .i64 a1_0, .int .i64 a1_1, .int .i64 a1_2] from ⟨_, _, rfl, ⟨rfl, rfl, rfl, ⟨rfl, rfl, ⟨rfl, rfl, trivial⟩⟩⟩, ⟨_, _, rfl, ⟨rfl, rfl, rfl, ⟨rfl, rfl, ⟨rfl, rfl, trivial⟩⟩⟩, rfl⟩⟩)
/-! ### impl_IsSheet: function 46 -/
mutual
def impl_IsSheet.l0 : Nat → List (S64) → List (S64) → Int → Int → Option (Bool)
  | 0, _, _, _, _ => none
  | k + 1, x0, x10, x11, x12 => if x12 < x11 then (if 0 ≤ x12 then (if x12 < (x10.length : Int) then ((impl_IsHole.f ((rd_T64 x10 x12).f0) ((rd_T64 x10 x12).f1) ((rd_T64 x10 x12).f2)).bind fun t336 => (if t336 = true then (if x12 > 0 then (if 0 ≤ (wrap64 (x12 - 1)) then (if (wrap64 (x12 - 1)) < (x0.length : Int) then ((impl_holeLess.f ((rd_T64 x0 (wrap64 (x12 - 1))).f0) ((rd_T64 x0 (wrap64 (x12 - 1))).f1) ((rd_T64 x0 (wrap64 (x12 - 1))).f2) ((rd_T64 x10 x12).f0) ((rd_T64 x10 x12).f1) ((rd_T64 x10 x12).f2)).bind fun t338 => (impl_IsSheet.j1 k x0 x12 x10 x11 x12 (!t338) ((rd_T64 x10 x12).f0) ((rd_T64 x10 x12).f1) ((rd_T64 x10 x12).f2))) else (none)) else (none)) else (impl_IsSheet.j1 k x0 x12 x10 x11 x12 false ((rd_T64 x10 x12).f0) ((rd_T64 x10 x12).f1) ((rd_T64 x10 x12).f2))) else (impl_IsSheet.j1 k x0 x12 x10 x11 x12 true ((rd_T64 x10 x12).f0) ((rd_T64 x10 x12).f1) ((rd_T64 x10 x12).f2)))) else (none)) else (none)) else (some true)
def impl_IsSheet.j1 : Nat → List (S64) → Int → List (S64) → Int → Int → Bool → Int → Int → Int → Option (Bool)
  | 0, _, _, _, _, _, _, _, _, _ => none
  | k + 1, x0, x3, x10, x11, x12, x33, x336000, x336001, x336002 => if x33 = true then (some false) else (if 0 ≤ x3 then (if x3 ≤ (x0.length : Int) then ((some (x0.take (x3 : Int).toNat : List (S64))).bind fun y339 => (impl_IsSheet.l1 k x0 x10 x11 x12 y339 (y339.length : Int) 0 x336000 x336001 x336002)) else (none)) else (none))
def impl_IsSheet.l1 : Nat → List (S64) → List (S64) → Int → Int → List (S64) → Int → Int → Int → Int → Int → Option (Bool)
  | 0, _, _, _, _, _, _, _, _, _, _ => none
  | k + 1, x0, x10, x11, x12, x36, x37, x38, x336000, x336001, x336002 => if x38 < x37 then (if 0 ≤ x38 then (if x38 < (x36.length : Int) then (if ((rd_T64 x36 x38).f0) = x336000 then (if ((rd_T64 x36 x38).f2) ≥ x336001 then (some false) else (impl_IsSheet.l1 k x0 x10 x11 x12 x36 x37 (wrap64 (x38 + 1)) x336000 x336001 x336002)) else (impl_IsSheet.l1 k x0 x10 x11 x12 x36 x37 (wrap64 (x38 + 1)) x336000 x336001 x336002)) else (none)) else (none)) else (impl_IsSheet.l0 k x0 x10 x11 (wrap64 (x12 + 1)))
end
def impl_IsSheet.f (k : Nat) (l0 : List (S64)) : Option (Bool) := if (l0.length : Int) > 60 then (some false) else (impl_IsSheet.l0 k l0 l0 (l0.length : Int) 0)
instance impl_IsSheet.lp0 {k : Nat} {r : Bool} {Q : Wr → Prop} {p0 : List (S64)} {p1 : List (S64)} {p2 : Int} {x12_1 : Int} : Lp (impl_IsSheet.l0 k p0 p1 p2 x12_1 = some r) Q (fun k => ∀ {x12_1 : Int}, impl_IsSheet.l0 k p0 p1 p2 x12_1 = some r → Q [(24, .p (.c (.v (.int .i64 x12_1))))]) k [(24, .p (.c (.v (.int .i64 x12_1))))] := ⟨fun j h => j h⟩
instance impl_IsSheet.lp1 {k : Nat} {r : Bool} {Q : Wr → Prop} {p0 : List (S64)} {p1 : List (S64)} {p2 : Int} {p3 : Int} {p4 : List (S64)} {p5 : Int} {p7 : Int} {p8 : Int} {p9 : Int} {x38_3 : Int} : Lp (impl_IsSheet.l1 k p0 p1 p2 p3 p4 p5 x38_3 p7 p8 p9 = some r) Q (fun k => ∀ {x38_3 : Int}, impl_IsSheet.l1 k p0 p1 p2 p3 p4 p5 x38_3 p7 p8 p9 = some r → Q [(76, .p (.c (.v (.int .i64 x38_3))))]) k [(76, .p (.c (.v (.int .i64 x38_3))))] := ⟨fun j h => j h⟩
set_option maxRecDepth 8000 in
set_option maxHeartbeats 2000000 in
theorem impl_IsSheet.con (k : Nat) (l0 : List (S64)) (r : Bool) (H : impl_IsSheet.f k l0 = some r) : Con Try.prog 46 [.p (.c (.sl K64 l0))] (.p (.c (.v (.bool r)))) := by
  refine Con.mk' (fn := Try.f46) Try.func46 rfl (by kernel_rfl) rfl rfl rfl fun X w0 gs hF => ?_
  unfold impl_IsSheet.f at H
  exact auto
instance impl_IsSheet.ctr {k : Nat} {l0 : List (S64)} {r : Bool} : Ctr (impl_IsSheet.f k l0 = some r) (Con Try.prog 46 [.p (.c (.sl K64 l0))] (.p (.c (.v (.bool r))))) := ⟨impl_IsSheet.con _ _ _⟩
theorem impl_IsSheet.calls (k : Nat) (A0 : Option Addr) (c0 : Nat) (l0 : List (S64)) (r : Bool) (w : World) (hr0 : Kd.C k64 w A0 l0.length l0) (hc0 : l0.length ≤ c0) (h : impl_IsSheet.f k l0 = some r) :
    Calls Try.prog 46 #[.slice A0 l0.length c0] w fun e w' => e = .returned (.bool r) ∧ Below w.heap.size w w' :=
  (impl_IsSheet.con k l0 r h).val rfl (show Args.relg (fun _ => False) w _ [.slice A0 l0.length c0] [.slice A0 l0.length c0] from ⟨_, _, rfl, ⟨rfl, A0, c0, rfl, hc0, row_of_C rfl (fun _ h => h) hr0⟩, rfl⟩)
/-! ### impl_noteFor: function 68 -/
def impl_noteFor.j0 : Nat → Bool → List Int → Int → Int → Int → Int → Option (Int × Int × Int × Bool)
  | 0, _, _, _, _, _, _ => none
  | k + 1, x24, x365000, x365001, x366000, x366001, x366002 => if x24 = true then (some (0, 0, 0, false)) else (if 0 ≤ x366000 then (if x366000 < (x365000.length : Int) then ((impl_IsNote.f (rd x365000 x366000) (wrap64 (Int.tdiv x366001 2)) (wrap64 ((wrap64 (Int.tdiv (wrap64 (x366002 + 1)) 2)) - (wrap64 (Int.tdiv x366001 2))))).bind fun t369 => (if t369 = true then (some (rd x365000 x366000, wrap64 (Int.tdiv x366001 2), wrap64 ((wrap64 (Int.tdiv (wrap64 (x366002 + 1)) 2)) - (wrap64 (Int.tdiv x366001 2))), true)) else (some (0, 0, 0, false)))) else (none)) else (none))
def impl_noteFor.f (k : Nat) (l0_0 : List Int) (a0_1 : Int) (a1_0 : Int) (a1_1 : Int) (a1_2 : Int) : Option (Int × Int × Int × Bool) := if a1_0 ≥ (l0_0.length : Int) then (impl_noteFor.j0 k true l0_0 a0_1 a1_0 a1_1 a1_2) else (if (Int.tmod a1_1 2) = 0 then (impl_noteFor.j0 k ((Int.tmod a1_2 2) != 1) l0_0 a0_1 a1_0 a1_1 a1_2) else (impl_noteFor.j0 k true l0_0 a0_1 a1_0 a1_1 a1_2))
set_option maxRecDepth 8000 in
set_option maxHeartbeats 2000000 in
theorem impl_noteFor.con (k : Nat) (l0_0 : List Int) (a0_1 : Int) (a1_0 : Int) (a1_1 : Int) (a1_2 : Int) (r1 : Int) (r2 : Int) (r3 : Int) (r4 : Bool) (H : impl_noteFor.f k l0_0 a0_1 a1_0 a1_1 a1_2 = some (r1, r2, r3, r4)) : Con Try.prog 68 [.p (.ag [.sl (.int .i64) l0_0, .v (.int .i64 a0_1)]), .p (.ag [.v (.int .i64 a1_0), .v (.int .i64 a1_1), .v (.int .i64 a1_2)])] (.tp [.ag [.v (.int .i64 r1), .v (.int .i64 r2), .v (.int .i64 r3)], .c (.v (.bool r4))]) := by
  refine Con.mk' (fn := Try.f68) Try.func68 rfl (by kernel_rfl) rfl rfl rfl fun X w0 gs hF => ?_
  unfold impl_noteFor.f at H
  exact auto
instance impl_noteFor.ctr {k : Nat} {l0_0 : List Int} {a0_1 : Int} {a1_0 : Int} {a1_1 : Int} {a1_2 : Int} {t_ : (Int) × (Int) × (Int) × (Bool)} : Ctr (impl_noteFor.f k l0_0 a0_1 a1_0 a1_1 a1_2 = some t_) (Con Try.prog 68 [.p (.ag [.sl (.int .i64) l0_0, .v (.int .i64 a0_1)]), .p (.ag [.v (.int .i64 a1_0), .v (.int .i64 a1_1), .v (.int .i64 a1_2)])] (.tp [.ag [.v (.int .i64 t_.1), .v (.int .i64 t_.2.1), .v (.int .i64 t_.2.2.1)], .c (.v (.bool t_.2.2.2))])) := ⟨fun h => impl_noteFor.con _ _ _ _ _ _ (t_.1) (t_.2.1) (t_.2.2.1) (t_.2.2.2) h⟩
/-! ### impl_scoreOf: function 69 -/
def impl_scoreOf.f (k : Nat) (l0 : List (S57)) : Option ((List (S57)) × Bool) := (impl_IsScore.f k l0).bind fun t370 => (if t370 = true then (some (l0, true)) else (some (([] : List (S57)), false)))
set_option maxRecDepth 8000 in
set_option maxHeartbeats 2000000 in
theorem impl_scoreOf.con (k : Nat) (l0 : List (S57)) (r1 : List (S57)) (r2 : Bool) (H : impl_scoreOf.f k l0 = some (r1, r2)) : Con Try.prog 69 [.p (.c (.ow 57 K57 l0))] (.tp [.c (.ow 57 K57 r1), .c (.v (.bool r2))]) := by
  refine Con.mk' (fn := Try.f69) Try.func69 rfl (by kernel_rfl) rfl rfl rfl fun X w0 gs hF => ?_
  unfold impl_scoreOf.f at H
  exact auto
instance impl_scoreOf.ctr {k : Nat} {l0 : List (S57)} {t_ : (List (S57)) × (Bool)} : Ctr (impl_scoreOf.f k l0 = some t_) (Con Try.prog 69 [.p (.c (.ow 57 K57 l0))] (.tp [.c (.ow 57 K57 t_.1), .c (.v (.bool t_.2))])) := ⟨fun h => impl_scoreOf.con _ _ (t_.1) (t_.2) h⟩
end Go.Proofs.Ytbfehdhncncgdaa.I
