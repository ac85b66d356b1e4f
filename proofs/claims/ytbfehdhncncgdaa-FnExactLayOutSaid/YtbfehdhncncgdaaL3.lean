/- BY EV: what the Go functions compute (read off the print), and that their calls come to it. No condition. -/
import Derived.Test.YtbfehdhncncgdaaLEU
import Derived.Test.YtbfehdhncncgdaaL2
set_option linter.unusedVariables false
set_option linter.unusedSimpArgs false
namespace Go.Proofs.Ytbfehdhncncgdaa.L
open Go.RowKit Go.Proofs Go.Proofs.YtbfehdhncncgdaaW.PrintWords Go.Proofs.YtbfehdhncncgdaaW.PrintLast EV
/-! ### impl_isTrack: function 85 -/
def impl_isTrack.f (a0 : Int) : Option (Bool) := if a0 ≥ 0 then (some (decide (a0 < 20))) else (some false)
set_option maxRecDepth 8000 in
set_option maxHeartbeats 2000000 in
theorem impl_isTrack.con (a0 : Int) (r : Bool) (H : impl_isTrack.f a0 = some r) : Con Try.prog 85 [.p (.c (.v (.int .i64 a0)))] (.p (.c (.v (.bool r)))) := by
  refine Con.mk' (fn := Try.f85) Try.func85 rfl (by kernel_rfl) rfl rfl rfl fun X w0 gs hF => ?_
  unfold impl_isTrack.f at H
  exact auto
instance impl_isTrack.ctr {a0 : Int} {r : Bool} : Ctr (impl_isTrack.f a0 = some r) (Con Try.prog 85 [.p (.c (.v (.int .i64 a0)))] (.p (.c (.v (.bool r))))) := ⟨impl_isTrack.con _ _⟩
/-! ### impl_IsHole: function 66 -/
def impl_IsHole.f (a0_0 : Int) (a0_1 : Int) (a0_2 : Int) : Option (Bool) := (impl_isTrack.f a0_0).bind fun t215 => (if t215 = true then (if a0_1 ≥ 0 then (if a0_1 < a0_2 then (some (decide (a0_2 ≤ 2000))) else (some false)) else (some false)) else (some false))
set_option maxRecDepth 8000 in
set_option maxHeartbeats 2000000 in
theorem impl_IsHole.con (a0_0 : Int) (a0_1 : Int) (a0_2 : Int) (r : Bool) (H : impl_IsHole.f a0_0 a0_1 a0_2 = some r) : Con Try.prog 66 [.p (.ag [.v (.int .i64 a0_0), .v (.int .i64 a0_1), .v (.int .i64 a0_2)])] (.p (.c (.v (.bool r)))) := by
  refine Con.mk' (fn := Try.f66) Try.func66 rfl (by kernel_rfl) rfl rfl rfl fun X w0 gs hF => ?_
  unfold impl_IsHole.f at H
  exact auto
instance impl_IsHole.ctr {a0_0 : Int} {a0_1 : Int} {a0_2 : Int} {r : Bool} : Ctr (impl_IsHole.f a0_0 a0_1 a0_2 = some r) (Con Try.prog 66 [.p (.ag [.v (.int .i64 a0_0), .v (.int .i64 a0_1), .v (.int .i64 a0_2)])] (.p (.c (.v (.bool r))))) := ⟨impl_IsHole.con _ _ _ _⟩
/-! ### impl_holeLess: function 67 -/
def impl_holeLess.f (a0_0 : Int) (a0_1 : Int) (a0_2 : Int) (a1_0 : Int) (a1_1 : Int) (a1_2 : Int) : Option (Bool) := if a0_1 = a1_1 then (some (decide (a0_0 < a1_0))) else (some (decide (a0_1 < a1_1)))
set_option maxRecDepth 8000 in
set_option maxHeartbeats 2000000 in
theorem impl_holeLess.con (a0_0 : Int) (a0_1 : Int) (a0_2 : Int) (a1_0 : Int) (a1_1 : Int) (a1_2 : Int) (r : Bool) (H : impl_holeLess.f a0_0 a0_1 a0_2 a1_0 a1_1 a1_2 = some r) : Con Try.prog 67 [.p (.ag [.v (.int .i64 a0_0), .v (.int .i64 a0_1), .v (.int .i64 a0_2)]), .p (.ag [.v (.int .i64 a1_0), .v (.int .i64 a1_1), .v (.int .i64 a1_2)])] (.p (.c (.v (.bool r)))) := by
  refine Con.mk' (fn := Try.f67) Try.func67 rfl (by kernel_rfl) rfl rfl rfl fun X w0 gs hF => ?_
  unfold impl_holeLess.f at H
  exact auto
instance impl_holeLess.ctr {a0_0 : Int} {a0_1 : Int} {a0_2 : Int} {a1_0 : Int} {a1_1 : Int} {a1_2 : Int} {r : Bool} : Ctr (impl_holeLess.f a0_0 a0_1 a0_2 a1_0 a1_1 a1_2 = some r) (Con Try.prog 67 [.p (.ag [.v (.int .i64 a0_0), .v (.int .i64 a0_1), .v (.int .i64 a0_2)]), .p (.ag [.v (.int .i64 a1_0), .v (.int .i64 a1_1), .v (.int .i64 a1_2)])] (.p (.c (.v (.bool r))))) := ⟨impl_holeLess.con _ _ _ _ _ _ _⟩
theorem impl_holeLess.calls (a0_0 : Int) (a0_1 : Int) (a0_2 : Int) (a1_0 : Int) (a1_1 : Int) (a1_2 : Int) (r : Bool) (w : World) (h : impl_holeLess.f a0_0 a0_1 a0_2 a1_0 a1_1 a1_2 = some r) :
    Calls Try.prog 67 #[.agg #[.int .i64 a0_0, .int .i64 a0_1, .int .i64 a0_2], .agg #[.int .i64 a1_0, .int .i64 a1_1, .int .i64 a1_2]] w fun e w' => e = .returned (.bool r) ∧ Below w.heap.size w w' :=
  (impl_holeLess.con a0_0 a0_1 a0_2 a1_0 a1_1 a1_2 r h).val rfl (show Args.relg (fun _ => False) w _ [.agg #[.int .i64 a0_0, .int .i64 a0_1, .int .i64 a0_2], .agg #[.int .i64 a1_0, .int .i64 a1_1, .int .i64 a1_2]] [.int .i64 a0_0, .int .i64 a0_1, .int .i64 a0_2, .int .i64 a1_0, .int .i64 a1_1, .int .i64 a1_2] from ⟨_, _, rfl, ⟨rfl, rfl, rfl, ⟨rfl, rfl, ⟨rfl, rfl, trivial⟩⟩⟩, ⟨_, _, rfl, ⟨rfl, rfl, rfl, ⟨rfl, rfl, ⟨rfl, rfl, trivial⟩⟩⟩, rfl⟩⟩)
/-! ### impl_IsSheet: function 46 -/
mutual
def impl_IsSheet.l0 : Nat → List (S64) → List (S64) → Int → Int → Option (Bool)
  | 0, _, _, _, _ => none
  | k + 1, x0, x10, x11, x12 => if x12 < x11 then (if 0 ≤ x12 then (if x12 < (x10.length : Int) then ((impl_IsHole.f ((rd_T64 x10 x12).f0) ((rd_T64 x10 x12).f1) ((rd_T64 x10 x12).f2)).bind fun t220 => (if t220 = true then (if x12 > 0 then (if 0 ≤ (wrap64 (x12 - 1)) then (if (wrap64 (x12 - 1)) < (x0.length : Int) then ((impl_holeLess.f ((rd_T64 x0 (wrap64 (x12 - 1))).f0) ((rd_T64 x0 (wrap64 (x12 - 1))).f1) ((rd_T64 x0 (wrap64 (x12 - 1))).f2) ((rd_T64 x10 x12).f0) ((rd_T64 x10 x12).f1) ((rd_T64 x10 x12).f2)).bind fun t222 => (impl_IsSheet.j1 k x0 x12 x10 x11 x12 (!t222) ((rd_T64 x10 x12).f0) ((rd_T64 x10 x12).f1) ((rd_T64 x10 x12).f2))) else (none)) else (none)) else (impl_IsSheet.j1 k x0 x12 x10 x11 x12 false ((rd_T64 x10 x12).f0) ((rd_T64 x10 x12).f1) ((rd_T64 x10 x12).f2))) else (impl_IsSheet.j1 k x0 x12 x10 x11 x12 true ((rd_T64 x10 x12).f0) ((rd_T64 x10 x12).f1) ((rd_T64 x10 x12).f2)))) else (none)) else (none)) else (some true)
def impl_IsSheet.j1 : Nat → List (S64) → Int → List (S64) → Int → Int → Bool → Int → Int → Int → Option (Bool)
  | 0, _, _, _, _, _, _, _, _, _ => none
  | k + 1, x0, x3, x10, x11, x12, x33, x220000, x220001, x220002 => if x33 = true then (some false) else (if 0 ≤ x3 then (if x3 ≤ (x0.length : Int) then ((some (x0.take (x3 : Int).toNat : List (S64))).bind fun y223 => (impl_IsSheet.l1 k x0 x10 x11 x12 y223 (y223.length : Int) 0 x220000 x220001 x220002)) else (none)) else (none))
def impl_IsSheet.l1 : Nat → List (S64) → List (S64) → Int → Int → List (S64) → Int → Int → Int → Int → Int → Option (Bool)
  | 0, _, _, _, _, _, _, _, _, _, _ => none
  | k + 1, x0, x10, x11, x12, x36, x37, x38, x220000, x220001, x220002 => if x38 < x37 then (if 0 ≤ x38 then (if x38 < (x36.length : Int) then (if ((rd_T64 x36 x38).f0) = x220000 then (if ((rd_T64 x36 x38).f2) ≥ x220001 then (some false) else (impl_IsSheet.l1 k x0 x10 x11 x12 x36 x37 (wrap64 (x38 + 1)) x220000 x220001 x220002)) else (impl_IsSheet.l1 k x0 x10 x11 x12 x36 x37 (wrap64 (x38 + 1)) x220000 x220001 x220002)) else (none)) else (none)) else (impl_IsSheet.l0 k x0 x10 x11 (wrap64 (x12 + 1)))
end
def impl_IsSheet.f (k : Nat) (l0 : List (S64)) : Option (Bool) := if (l0.length : Int) > 60 then (some false) else (impl_IsSheet.l0 k l0 l0 (l0.length : Int) 0)
instance impl_IsSheet.lp0 {k : Nat} {r : Bool} {Q : Wr → Prop} {p0 : List (S64)} {p1 : List (S64)} {p2 : Int} {x12_1 : Int} : Lp (impl_IsSheet.l0 k p0 p1 p2 x12_1 = some r) Q (fun k => ∀ {x12_1 : Int}, impl_IsSheet.l0 k p0 p1 p2 x12_1 = some r → Q [(24, .p (.c (.v (.int .i64 x12_1))))]) k [(24, .p (.c (.v (.int .i64 x12_1))))] := ⟨fun j h => j h⟩
instance impl_IsSheet.lp1 {k : Nat} {r : Bool} {Q : Wr → Prop} {p0 : List (S64)} {p1 : List (S64)} {p2 : Int} {p3 : Int} {p4 : List (S64)} {p5 : Int} {p7 : Int} {p8 : Int} {p9 : Int} {x38_3 : Int} : Lp (impl_IsSheet.l1 k p0 p1 p2 p3 p4 p5 x38_3 p7 p8 p9 = some r) Q (fun k => ∀ {x38_3 : Int}, impl_IsSheet.l1 k p0 p1 p2 p3 p4 p5 x38_3 p7 p8 p9 = some r → Q [(76, .p (.c (.v (.int .i64 x38_3))))]) k [(76, .p (.c (.v (.int .i64 x38_3))))] := ⟨fun j h => j h⟩
set_option maxRecDepth 8000 in
set_option maxHeartbeats 2000000 in
theorem impl_IsSheet.con (k : Nat) (l0 : List (S64)) (r : Bool) (H : impl_IsSheet.f k l0 = some r) : Con Try.prog 46 [.p (.c (.sl K64 l0))] (.p (.c (.v (.bool r)))) := by
  refine Con.mk' (fn := Try.f46) Try.func46 rfl (by kernel_rfl) rfl rfl rfl fun X w0 gs hF => ?_
  unfold impl_IsSheet.f at H
  exact auto
instance impl_IsSheet.ctr {k : Nat} {l0 : List (S64)} {r : Bool} : Ctr (impl_IsSheet.f k l0 = some r) (Con Try.prog 46 [.p (.c (.sl K64 l0))] (.p (.c (.v (.bool r))))) := ⟨impl_IsSheet.con _ _ _⟩
theorem impl_IsSheet.calls (k : Nat) (A0 : Option Addr) (c0 : Nat) (l0 : List (S64)) (r : Bool) (w : World) (hr0 : Kd.C k64 w A0 l0.length l0) (hc0 : l0.length ≤ c0) (h : impl_IsSheet.f k l0 = some r) :
    Calls Try.prog 46 #[.slice A0 l0.length c0] w fun e w' => e = .returned (.bool r) ∧ Below w.heap.size w w' :=
  (impl_IsSheet.con k l0 r h).val rfl (show Args.relg (fun _ => False) w _ [.slice A0 l0.length c0] [.slice A0 l0.length c0] from ⟨_, _, rfl, ⟨rfl, A0, c0, rfl, hc0, row_of_C rfl (fun _ h => h) hr0⟩, rfl⟩)
/-! ### spec_shBefore: function 72 -/
def spec_shBefore.f (a0_0 : Int) (a0_1 : Int) (a0_2 : Int) (a1_0 : Int) (a1_1 : Int) (a1_2 : Int) : Option (Bool) := if a0_1 < a1_1 then (some true) else (if a0_1 = a1_1 then (some (decide (a0_0 < a1_0))) else (some false))
set_option maxRecDepth 8000 in
set_option maxHeartbeats 2000000 in
theorem spec_shBefore.con (a0_0 : Int) (a0_1 : Int) (a0_2 : Int) (a1_0 : Int) (a1_1 : Int) (a1_2 : Int) (r : Bool) (H : spec_shBefore.f a0_0 a0_1 a0_2 a1_0 a1_1 a1_2 = some r) : Con Try.prog 72 [.p (.ag [.v (.int .i64 a0_0), .v (.int .i64 a0_1), .v (.int .i64 a0_2)]), .p (.ag [.v (.int .i64 a1_0), .v (.int .i64 a1_1), .v (.int .i64 a1_2)])] (.p (.c (.v (.bool r)))) := by
  refine Con.mk' (fn := Try.f72) Try.func72 rfl (by kernel_rfl) rfl rfl rfl fun X w0 gs hF => ?_
  unfold spec_shBefore.f at H
  exact auto
instance spec_shBefore.ctr {a0_0 : Int} {a0_1 : Int} {a0_2 : Int} {a1_0 : Int} {a1_1 : Int} {a1_2 : Int} {r : Bool} : Ctr (spec_shBefore.f a0_0 a0_1 a0_2 a1_0 a1_1 a1_2 = some r) (Con Try.prog 72 [.p (.ag [.v (.int .i64 a0_0), .v (.int .i64 a0_1), .v (.int .i64 a0_2)]), .p (.ag [.v (.int .i64 a1_0), .v (.int .i64 a1_1), .v (.int .i64 a1_2)])] (.p (.c (.v (.bool r))))) := ⟨spec_shBefore.con _ _ _ _ _ _ _⟩
theorem spec_shBefore.calls (a0_0 : Int) (a0_1 : Int) (a0_2 : Int) (a1_0 : Int) (a1_1 : Int) (a1_2 : Int) (r : Bool) (w : World) (h : spec_shBefore.f a0_0 a0_1 a0_2 a1_0 a1_1 a1_2 = some r) :
    Calls Try.prog 72 #[.agg #[.int .i64 a0_0, .int .i64 a0_1, .int .i64 a0_2], .agg #[.int .i64 a1_0, .int .i64 a1_1, .int .i64 a1_2]] w fun e w' => e = .returned (.bool r) ∧ Below w.heap.size w w' :=
  (spec_shBefore.con a0_0 a0_1 a0_2 a1_0 a1_1 a1_2 r h).val rfl (show Args.relg (fun _ => False) w _ [.agg #[.int .i64 a0_0, .int .i64 a0_1, .int .i64 a0_2], .agg #[.int .i64 a1_0, .int .i64 a1_1, .int .i64 a1_2]] [.int .i64 a0_0, .int .i64 a0_1, .int .i64 a0_2, .int .i64 a1_0, .int .i64 a1_1, .int .i64 a1_2] from ⟨_, _, rfl, ⟨rfl, rfl, rfl, ⟨rfl, rfl, ⟨rfl, rfl, trivial⟩⟩⟩, ⟨_, _, rfl, ⟨rfl, rfl, rfl, ⟨rfl, rfl, ⟨rfl, rfl, trivial⟩⟩⟩, rfl⟩⟩)
/-! ### spec_shGood: function 49 -/
mutual
def spec_shGood.l0 : Nat → List (S64) → List (S64) → Int → Int → Option (Bool)
  | 0, _, _, _, _ => none
  | k + 1, x0, x7, x8, x9 => if x9 < x8 then (if 0 ≤ x9 then (if x9 < (x7.length : Int) then ((spec_shHole.f ((rd_T64 x7 x9).f0) ((rd_T64 x7 x9).f1) ((rd_T64 x7 x9).f2)).bind fun t233 => (if t233 = true then (if x9 > 0 then (if 0 ≤ (wrap64 (x9 - 1)) then (if (wrap64 (x9 - 1)) < (x0.length : Int) then ((spec_shBefore.f ((rd_T64 x0 (wrap64 (x9 - 1))).f0) ((rd_T64 x0 (wrap64 (x9 - 1))).f1) ((rd_T64 x0 (wrap64 (x9 - 1))).f2) ((rd_T64 x7 x9).f0) ((rd_T64 x7 x9).f1) ((rd_T64 x7 x9).f2)).bind fun t235 => (spec_shGood.j1 k x0 x9 x7 x8 x9 (!t235) ((rd_T64 x7 x9).f0) ((rd_T64 x7 x9).f1) ((rd_T64 x7 x9).f2))) else (none)) else (none)) else (spec_shGood.j1 k x0 x9 x7 x8 x9 false ((rd_T64 x7 x9).f0) ((rd_T64 x7 x9).f1) ((rd_T64 x7 x9).f2))) else (spec_shGood.j1 k x0 x9 x7 x8 x9 true ((rd_T64 x7 x9).f0) ((rd_T64 x7 x9).f1) ((rd_T64 x7 x9).f2)))) else (none)) else (none)) else (some (decide ((x0.length : Int) ≤ 60)))
def spec_shGood.j1 : Nat → List (S64) → Int → List (S64) → Int → Int → Bool → Int → Int → Int → Option (Bool)
  | 0, _, _, _, _, _, _, _, _, _ => none
  | k + 1, x0, x3, x7, x8, x9, x30, x233000, x233001, x233002 => if x30 = true then (some false) else (if 0 ≤ x3 then (if x3 ≤ (x0.length : Int) then ((some (x0.take (x3 : Int).toNat : List (S64))).bind fun y236 => (spec_shGood.l1 k x0 x7 x8 x9 y236 (y236.length : Int) 0 x233000 x233001 x233002)) else (none)) else (none))
def spec_shGood.l1 : Nat → List (S64) → List (S64) → Int → Int → List (S64) → Int → Int → Int → Int → Int → Option (Bool)
  | 0, _, _, _, _, _, _, _, _, _, _ => none
  | k + 1, x0, x7, x8, x9, x33, x34, x35, x233000, x233001, x233002 => if x35 < x34 then (if 0 ≤ x35 then (if x35 < (x33.length : Int) then (if x233000 = ((rd_T64 x33 x35).f0) then (if ((rd_T64 x33 x35).f2) ≥ x233001 then (some false) else (spec_shGood.l1 k x0 x7 x8 x9 x33 x34 (wrap64 (x35 + 1)) x233000 x233001 x233002)) else (spec_shGood.l1 k x0 x7 x8 x9 x33 x34 (wrap64 (x35 + 1)) x233000 x233001 x233002)) else (none)) else (none)) else (spec_shGood.l0 k x0 x7 x8 (wrap64 (x9 + 1)))
end
def spec_shGood.f (k : Nat) (l0 : List (S64)) : Option (Bool) := spec_shGood.l0 k l0 l0 (l0.length : Int) 0
instance spec_shGood.lp0 {k : Nat} {r : Bool} {Q : Wr → Prop} {p0 : List (S64)} {p1 : List (S64)} {p2 : Int} {x9_1 : Int} : Lp (spec_shGood.l0 k p0 p1 p2 x9_1 = some r) Q (fun k => ∀ {x9_1 : Int}, spec_shGood.l0 k p0 p1 p2 x9_1 = some r → Q [(18, .p (.c (.v (.int .i64 x9_1))))]) k [(18, .p (.c (.v (.int .i64 x9_1))))] := ⟨fun j h => j h⟩
instance spec_shGood.lp1 {k : Nat} {r : Bool} {Q : Wr → Prop} {p0 : List (S64)} {p1 : List (S64)} {p2 : Int} {p3 : Int} {p4 : List (S64)} {p5 : Int} {p7 : Int} {p8 : Int} {p9 : Int} {x35_3 : Int} : Lp (spec_shGood.l1 k p0 p1 p2 p3 p4 p5 x35_3 p7 p8 p9 = some r) Q (fun k => ∀ {x35_3 : Int}, spec_shGood.l1 k p0 p1 p2 p3 p4 p5 x35_3 p7 p8 p9 = some r → Q [(70, .p (.c (.v (.int .i64 x35_3))))]) k [(70, .p (.c (.v (.int .i64 x35_3))))] := ⟨fun j h => j h⟩
set_option maxRecDepth 8000 in
set_option maxHeartbeats 2000000 in
theorem spec_shGood.con (k : Nat) (l0 : List (S64)) (r : Bool) (H : spec_shGood.f k l0 = some r) : Con Try.prog 49 [.p (.c (.sl K64 l0))] (.p (.c (.v (.bool r)))) := by
  refine Con.mk' (fn := Try.f49) Try.func49 rfl (by kernel_rfl) rfl rfl rfl fun X w0 gs hF => ?_
  unfold spec_shGood.f at H
  exact auto
instance spec_shGood.ctr {k : Nat} {l0 : List (S64)} {r : Bool} : Ctr (spec_shGood.f k l0 = some r) (Con Try.prog 49 [.p (.c (.sl K64 l0))] (.p (.c (.v (.bool r))))) := ⟨spec_shGood.con _ _ _⟩
theorem spec_shGood.calls (k : Nat) (A0 : Option Addr) (c0 : Nat) (l0 : List (S64)) (r : Bool) (w : World) (hr0 : Kd.C k64 w A0 l0.length l0) (hc0 : l0.length ≤ c0) (h : spec_shGood.f k l0 = some r) :
    Calls Try.prog 49 #[.slice A0 l0.length c0] w fun e w' => e = .returned (.bool r) ∧ Below w.heap.size w w' :=
  (spec_shGood.con k l0 r h).val rfl (show Args.relg (fun _ => False) w _ [.slice A0 l0.length c0] [.slice A0 l0.length c0] from ⟨_, _, rfl, ⟨rfl, A0, c0, rfl, hc0, row_of_C rfl (fun _ h => h) hr0⟩, rfl⟩)
/-! ### laws_toIntS: function 31 -/
def laws_toIntS.l0 : Nat → List Int → List Int → Int → Option (List Int)
  | 0, _, _, _ => none
  | k + 1, x0, x3, x4 => if x4 < (x0.length : Int) then (if 0 ≤ x4 then (if x4 < (x3.length : Int) then (laws_toIntS.l0 k x0 (x3.set (x4 : Int).toNat (rd x0 x4)) (wrap64 (x4 + 1))) else (none)) else (none)) else (some x3)
def laws_toIntS.f (k : Nat) (l0 : List Int) : Option (List Int) := if 0 ≤ (l0.length : Int) then (if ((l0.length : Int) : Int).toNat ≤ 35184372088832 then (laws_toIntS.l0 k l0 (List.replicate ((l0.length : Int) : Int).toNat 0) 0) else (none)) else (none)
instance laws_toIntS.lp0 {k : Nat} {r : List Int} {Q : Wr → Prop} {p0 : List Int} {x3_1 : List Int} {x4_1 : Int} : Lp (laws_toIntS.l0 k p0 x3_1 x4_1 = some r) Q (fun k => ∀ {x3_1 : List Int} {x4_1 : Int}, laws_toIntS.l0 k p0 x3_1 x4_1 = some r → Q [(6, .p (.c (.rp (Try.f31.ntmps + 3)))), (2 * (Try.f31.ntmps + 3) + 1, .row 3 (.int .i64) x3_1), (8, .p (.c (.v (.int .i64 x4_1))))]) k [(6, .p (.c (.rp (Try.f31.ntmps + 3)))), (2 * (Try.f31.ntmps + 3) + 1, .row 3 (.int .i64) x3_1), (8, .p (.c (.v (.int .i64 x4_1))))] := ⟨fun j h => j h⟩
set_option maxRecDepth 8000 in
set_option maxHeartbeats 2000000 in
theorem laws_toIntS.con (k : Nat) (l0 : List Int) (r : List Int) (H : laws_toIntS.f k l0 = some r) : Con Try.prog 31 [.p (.c (.sl (.int .i64) l0))] (.p (.c (.ow 3 (.int .i64) r))) := by
  refine Con.mk' (fn := Try.f31) Try.func31 rfl (by kernel_rfl) rfl rfl rfl fun X w0 gs hF => ?_
  unfold laws_toIntS.f at H
  exact auto
instance laws_toIntS.ctr {k : Nat} {l0 : List Int} {r : List Int} : Ctr (laws_toIntS.f k l0 = some r) (Con Try.prog 31 [.p (.c (.sl (.int .i64) l0))] (.p (.c (.ow 3 (.int .i64) r)))) := ⟨laws_toIntS.con _ _ _⟩
/-! ### laws_toInstrument: function 10 -/
def laws_toInstrument.f (k : Nat) (l0_0 : List Int) (a0_1 : Int) : Option (List Int × Int) := (laws_toIntS.f k l0_0).bind fun t272 => (some (t272, a0_1))
set_option maxRecDepth 8000 in
set_option maxHeartbeats 2000000 in
theorem laws_toInstrument.con (k : Nat) (l0_0 : List Int) (a0_1 : Int) (r1 : List Int) (r2 : Int) (H : laws_toInstrument.f k l0_0 a0_1 = some (r1, r2)) : Con Try.prog 10 [.p (.ag [.sl (.int .i64) l0_0, .v (.int .i64 a0_1)])] (.p (.ag [.ow 3 (.int .i64) r1, .v (.int .i64 r2)])) := by
  refine Con.mk' (fn := Try.f10) Try.func10 rfl (by kernel_rfl) rfl rfl rfl fun X w0 gs hF => ?_
  unfold laws_toInstrument.f at H
  exact auto
instance laws_toInstrument.ctr {k : Nat} {l0_0 : List Int} {a0_1 : Int} {t_ : (List Int) × (Int)} : Ctr (laws_toInstrument.f k l0_0 a0_1 = some t_) (Con Try.prog 10 [.p (.ag [.sl (.int .i64) l0_0, .v (.int .i64 a0_1)])] (.p (.ag [.ow 3 (.int .i64) t_.1, .v (.int .i64 t_.2)]))) := ⟨fun h => laws_toInstrument.con _ _ _ (t_.1) (t_.2) h⟩
/-! ### laws_toNote: function 32 -/
def laws_toNote.f (a0_0 : Int) (a0_1 : Int) (a0_2 : Int) : Option (Int × Int × Int) := some (a0_0, a0_1, a0_2)
set_option maxRecDepth 8000 in
set_option maxHeartbeats 2000000 in
theorem laws_toNote.con (a0_0 : Int) (a0_1 : Int) (a0_2 : Int) (r1 : Int) (r2 : Int) (r3 : Int) (H : laws_toNote.f a0_0 a0_1 a0_2 = some (r1, r2, r3)) : Con Try.prog 32 [.p (.ag [.v (.int .i64 a0_0), .v (.int .i64 a0_1), .v (.int .i64 a0_2)])] (.p (.ag [.v (.int .i64 r1), .v (.int .i64 r2), .v (.int .i64 r3)])) := by
  refine Con.mk' (fn := Try.f32) Try.func32 rfl (by kernel_rfl) rfl rfl rfl fun X w0 gs hF => ?_
  unfold laws_toNote.f at H
  exact auto
instance laws_toNote.ctr {a0_0 : Int} {a0_1 : Int} {a0_2 : Int} {t_ : (Int) × (Int) × (Int)} : Ctr (laws_toNote.f a0_0 a0_1 a0_2 = some t_) (Con Try.prog 32 [.p (.ag [.v (.int .i64 a0_0), .v (.int .i64 a0_1), .v (.int .i64 a0_2)])] (.p (.ag [.v (.int .i64 t_.1), .v (.int .i64 t_.2.1), .v (.int .i64 t_.2.2)]))) := ⟨fun h => laws_toNote.con _ _ _ (t_.1) (t_.2.1) (t_.2.2) h⟩
/-! ### laws_toNoteS: function 11 -/
def laws_toNoteS.l0 : Nat → List (S59) → List (S57) → Int → Option ((List (S57)))
  | 0, _, _, _ => none
  | k + 1, x0, x3, x4 => if x4 < (x0.length : Int) then (if 0 ≤ x4 then ((laws_toNote.f ((rd_T59 x0 x4).f0) ((rd_T59 x0 x4).f1) ((rd_T59 x0 x4).f2)).bind fun bt282 => (if x4 < (x3.length : Int) then (laws_toNoteS.l0 k x0 (x3.set (x4 : Int).toNat (⟨bt282.1, bt282.2.1, bt282.2.2⟩ : S57)) (wrap64 (x4 + 1))) else (none))) else (none)) else (some x3)
def laws_toNoteS.f (k : Nat) (l0 : List (S59)) : Option ((List (S57))) := if 0 ≤ (l0.length : Int) then (if ((l0.length : Int) : Int).toNat ≤ 11728124029610 then (laws_toNoteS.l0 k l0 (List.replicate ((l0.length : Int) : Int).toNat z57) 0) else (none)) else (none)
instance laws_toNoteS.lp0 {k : Nat} {r : (List (S57))} {Q : Wr → Prop} {p0 : List (S59)} {x3_1 : List (S57)} {x4_1 : Int} : Lp (laws_toNoteS.l0 k p0 x3_1 x4_1 = some r) Q (fun k => ∀ {x3_1 : List (S57)} {x4_1 : Int}, laws_toNoteS.l0 k p0 x3_1 x4_1 = some r → Q [(6, .p (.c (.rp (Try.f11.ntmps + 3)))), (2 * (Try.f11.ntmps + 3) + 1, .row 57 K57 x3_1), (8, .p (.c (.v (.int .i64 x4_1))))]) k [(6, .p (.c (.rp (Try.f11.ntmps + 3)))), (2 * (Try.f11.ntmps + 3) + 1, .row 57 K57 x3_1), (8, .p (.c (.v (.int .i64 x4_1))))] := ⟨fun j h => j h⟩
set_option maxRecDepth 8000 in
set_option maxHeartbeats 2000000 in
theorem laws_toNoteS.con (k : Nat) (l0 : List (S59)) (r : List (S57)) (H : laws_toNoteS.f k l0 = some r) : Con Try.prog 11 [.p (.c (.sl K59 l0))] (.p (.c (.ow 57 K57 r))) := by
  refine Con.mk' (fn := Try.f11) Try.func11 rfl (by kernel_rfl) rfl rfl rfl fun X w0 gs hF => ?_
  unfold laws_toNoteS.f at H
  exact auto
instance laws_toNoteS.ctr {k : Nat} {l0 : List (S59)} {r : List (S57)} : Ctr (laws_toNoteS.f k l0 = some r) (Con Try.prog 11 [.p (.c (.sl K59 l0))] (.p (.c (.ow 57 K57 r)))) := ⟨laws_toNoteS.con _ _ _⟩
end Go.Proofs.Ytbfehdhncncgdaa.L
