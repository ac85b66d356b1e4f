/- BY EV: what the Go functions compute (read off the print), and that their calls come to it. No condition. -/
import Derived.Test.YtbfehdhncncgdaaFEU
import Derived.Test.YtbfehdhncncgdaaF2
import Derived.Test.YtbfehdhncncgdaaF3
set_option linter.unusedVariables false
set_option linter.unusedSimpArgs false
namespace Go.Proofs.Ytbfehdhncncgdaa.F
open Go.RowKit Go.Proofs Go.Proofs.YtbfehdhncncgdaaW.PrintWords Go.Proofs.YtbfehdhncncgdaaW.PrintLast EV
/-! ### spec_inLast: function 84 -/
def spec_inLast.l0 : Nat → List (S57) → Int → Int → Option (Int)
  | 0, _, _, _ => none
  | k + 1, x0, x1, x5 => if x5 ≥ 0 then (if 0 ≤ x5 then (if x5 < (x0.length : Int) then (if 0 ≤ x1 then (if x1 < (x0.length : Int) then (if ((rd_T57 x0 x5).f0) = ((rd_T57 x0 x1).f0) then (some x5) else (spec_inLast.l0 k x0 x1 (wrap64 (x5 - 1)))) else (none)) else (none)) else (none)) else (none)) else (some (-1))
def spec_inLast.f (k : Nat) (l0 : List (S57)) (a1 : Int) : Option (Int) := spec_inLast.l0 k l0 a1 (wrap64 (a1 - 1))
instance spec_inLast.lp0 {k : Nat} {r : Int} {Q : Wr → Prop} {p0 : List (S57)} {p1 : Int} {x5_1 : Int} : Lp (spec_inLast.l0 k p0 p1 x5_1 = some r) Q (fun k => ∀ {x5_1 : Int}, spec_inLast.l0 k p0 p1 x5_1 = some r → Q [(10, .p (.c (.v (.int .i64 x5_1))))]) k [(10, .p (.c (.v (.int .i64 x5_1))))] := ⟨fun j h => j h⟩
set_option maxRecDepth 8000 in
set_option maxHeartbeats 2000000 in
theorem spec_inLast.con (k : Nat) (l0 : List (S57)) (a1 : Int) (r : Int) (H : spec_inLast.f k l0 a1 = some r) : Con Try.prog 84 [.p (.c (.sl K57 l0)), .p (.c (.v (.int .i64 a1)))] (.p (.c (.v (.int .i64 r)))) := by
  refine Con.mk' (fn := Try.f84) Try.func84 rfl (by kernel_rfl) rfl rfl rfl fun X w0 gs hF => ?_
  unfold spec_inLast.f at H
  exact auto
instance spec_inLast.ctr {k : Nat} {l0 : List (S57)} {a1 : Int} {r : Int} : Ctr (spec_inLast.f k l0 a1 = some r) (Con Try.prog 84 [.p (.c (.sl K57 l0)), .p (.c (.v (.int .i64 a1)))] (.p (.c (.v (.int .i64 r))))) := ⟨spec_inLast.con _ _ _ _⟩
/-! ### spec_inFast: function 65 -/
def spec_inFast.l0 : Nat → List (S57) → Int → List (List Int) → List (S57) → Int → Int → Option ((List (List Int)))
  | 0, _, _, _, _, _, _ => none
  | k + 1, x0, x1, x5, x9, x10, x11 => if x11 < x10 then (if 0 ≤ x11 then (if x11 < (x9.length : Int) then ((spec_inLast.f k x0 x11).bind fun t239 => (if t239 ≥ 0 then (if 0 ≤ t239 then (if t239 < (x0.length : Int) then (if (wrap64 (((rd_T57 x9 x11).f1) - ((rd_T57 x0 t239).f1))) < x1 then (if x5.length < 5864062014805 then (spec_inFast.l0 k x0 x1 (x5 ++ [(([t239, x11] : List Int))]) x9 x10 (wrap64 (x11 + 1))) else (none)) else (spec_inFast.l0 k x0 x1 x5 x9 x10 (wrap64 (x11 + 1)))) else (none)) else (none)) else (spec_inFast.l0 k x0 x1 x5 x9 x10 (wrap64 (x11 + 1))))) else (none)) else (none)) else (some x5)
def spec_inFast.f (k : Nat) (l0 : List (S57)) (a1 : Int) : Option ((List (List Int))) := spec_inFast.l0 k l0 a1 ([] : List (List Int)) l0 (l0.length : Int) 0
instance spec_inFast.lp0 {k : Nat} {r : (List (List Int))} {Q : Wr → Prop} {p0 : List (S57)} {p1 : Int} {p3 : List (S57)} {p4 : Int} {x5_1 : List (List Int)} {x11_1 : Int} : Lp (spec_inFast.l0 k p0 p1 x5_1 p3 p4 x11_1 = some r) Q (fun k => ∀ {x5_1 : List (List Int)} {x11_1 : Int}, spec_inFast.l0 k p0 p1 x5_1 p3 p4 x11_1 = some r → Q [(10, .p (.c (.rp (Try.f65.ntmps + 5)))), (2 * (Try.f65.ntmps + 5) + 1, .row 22 KL3 x5_1), (22, .p (.c (.v (.int .i64 x11_1))))]) k [(10, .p (.c (.rp (Try.f65.ntmps + 5)))), (2 * (Try.f65.ntmps + 5) + 1, .row 22 KL3 x5_1), (22, .p (.c (.v (.int .i64 x11_1))))] := ⟨fun j h => j h⟩
set_option maxRecDepth 8000 in
set_option maxHeartbeats 2000000 in
theorem spec_inFast.con (k : Nat) (l0 : List (S57)) (a1 : Int) (r : List (List Int)) (H : spec_inFast.f k l0 a1 = some r) : Con Try.prog 65 [.p (.c (.sl K57 l0)), .p (.c (.v (.int .i64 a1)))] (.p (.c (.ow 22 KL3 r))) := by
  refine Con.mk' (fn := Try.f65) Try.func65 rfl (by kernel_rfl) rfl rfl rfl fun X w0 gs hF => ?_
  unfold spec_inFast.f at H
  exact auto
instance spec_inFast.ctr {k : Nat} {l0 : List (S57)} {a1 : Int} {r : List (List Int)} : Ctr (spec_inFast.f k l0 a1 = some r) (Con Try.prog 65 [.p (.c (.sl K57 l0)), .p (.c (.v (.int .i64 a1)))] (.p (.c (.ow 22 KL3 r)))) := ⟨spec_inFast.con _ _ _ _⟩
/-! ### spec_inPlays: function 44 -/
def spec_inPlays.f (k : Nat) (l0_0 : List Int) (a0_1 : Int) (l1 : List (S57)) : Option (Bool) := (spec_inMissing.f k l0_0 a0_1 l1).bind fun t248 => (if (t248.length : Int) = 0 then ((spec_inFast.f k l1 a0_1).bind fun t251 => (some ((t251.length : Int) == 0))) else (some false))
set_option maxRecDepth 8000 in
set_option maxHeartbeats 2000000 in
theorem spec_inPlays.con (k : Nat) (l0_0 : List Int) (a0_1 : Int) (l1 : List (S57)) (r : Bool) (H : spec_inPlays.f k l0_0 a0_1 l1 = some r) : Con Try.prog 44 [.p (.ag [.sl (.int .i64) l0_0, .v (.int .i64 a0_1)]), .p (.c (.sl K57 l1))] (.p (.c (.v (.bool r)))) := by
  refine Con.mk' (fn := Try.f44) Try.func44 rfl (by kernel_rfl) rfl rfl rfl fun X w0 gs hF => ?_
  unfold spec_inPlays.f at H
  exact auto
instance spec_inPlays.ctr {k : Nat} {l0_0 : List Int} {a0_1 : Int} {l1 : List (S57)} {r : Bool} : Ctr (spec_inPlays.f k l0_0 a0_1 l1 = some r) (Con Try.prog 44 [.p (.ag [.sl (.int .i64) l0_0, .v (.int .i64 a0_1)]), .p (.c (.sl K57 l1))] (.p (.c (.v (.bool r))))) := ⟨spec_inPlays.con _ _ _ _ _⟩
/-! ### spec_shHole: function 71 -/
def spec_shHole.f (a0_0 : Int) (a0_1 : Int) (a0_2 : Int) : Option (Bool) := (spec_l1In.f a0_0 0 19).bind fun t255 => (if t255 = true then ((spec_l1In.f a0_1 0 1999).bind fun t256 => (if t256 = true then ((spec_l1In.f a0_2 (wrap64 (a0_1 + 1)) 2000).bind fun t257 => (some t257)) else (some false))) else (some false))
set_option maxRecDepth 8000 in
set_option maxHeartbeats 2000000 in
theorem spec_shHole.con (a0_0 : Int) (a0_1 : Int) (a0_2 : Int) (r : Bool) (H : spec_shHole.f a0_0 a0_1 a0_2 = some r) : Con Try.prog 71 [.p (.ag [.v (.int .i64 a0_0), .v (.int .i64 a0_1), .v (.int .i64 a0_2)])] (.p (.c (.v (.bool r)))) := by
  refine Con.mk' (fn := Try.f71) Try.func71 rfl (by kernel_rfl) rfl rfl rfl fun X w0 gs hF => ?_
  unfold spec_shHole.f at H
  exact auto
instance spec_shHole.ctr {a0_0 : Int} {a0_1 : Int} {a0_2 : Int} {r : Bool} : Ctr (spec_shHole.f a0_0 a0_1 a0_2 = some r) (Con Try.prog 71 [.p (.ag [.v (.int .i64 a0_0), .v (.int .i64 a0_1), .v (.int .i64 a0_2)])] (.p (.c (.v (.bool r))))) := ⟨spec_shHole.con _ _ _ _⟩
/-! ### spec_laHole: function 52 -/
def spec_laHole.f (k : Nat) (l0_0 : List Int) (a0_1 : Int) (a1_0 : Int) (a1_1 : Int) (a1_2 : Int) : Option (Int × Int × Int × Bool) := (spec_inTrack.f k l0_0 a0_1 a1_0).bind fun t261 => ((spec_shHole.f t261 (wrap64 (2 * a1_1)) (wrap64 ((wrap64 (2 * (wrap64 (a1_1 + a1_2)))) - 1))).bind fun t263 => (if t263 = true then (some (t261, wrap64 (2 * a1_1), wrap64 ((wrap64 (2 * (wrap64 (a1_1 + a1_2)))) - 1), true)) else (some (0, 0, 0, false))))
set_option maxRecDepth 8000 in
set_option maxHeartbeats 2000000 in
theorem spec_laHole.con (k : Nat) (l0_0 : List Int) (a0_1 : Int) (a1_0 : Int) (a1_1 : Int) (a1_2 : Int) (r1 : Int) (r2 : Int) (r3 : Int) (r4 : Bool) (H : spec_laHole.f k l0_0 a0_1 a1_0 a1_1 a1_2 = some (r1, r2, r3, r4)) : Con Try.prog 52 [.p (.ag [.sl (.int .i64) l0_0, .v (.int .i64 a0_1)]), .p (.ag [.v (.int .i64 a1_0), .v (.int .i64 a1_1), .v (.int .i64 a1_2)])] (.tp [.ag [.v (.int .i64 r1), .v (.int .i64 r2), .v (.int .i64 r3)], .c (.v (.bool r4))]) := by
  refine Con.mk' (fn := Try.f52) Try.func52 rfl (by kernel_rfl) rfl rfl rfl fun X w0 gs hF => ?_
  unfold spec_laHole.f at H
  exact auto
instance spec_laHole.ctr {k : Nat} {l0_0 : List Int} {a0_1 : Int} {a1_0 : Int} {a1_1 : Int} {a1_2 : Int} {t_ : (Int) × (Int) × (Int) × (Bool)} : Ctr (spec_laHole.f k l0_0 a0_1 a1_0 a1_1 a1_2 = some t_) (Con Try.prog 52 [.p (.ag [.sl (.int .i64) l0_0, .v (.int .i64 a0_1)]), .p (.ag [.v (.int .i64 a1_0), .v (.int .i64 a1_1), .v (.int .i64 a1_2)])] (.tp [.ag [.v (.int .i64 t_.1), .v (.int .i64 t_.2.1), .v (.int .i64 t_.2.2.1)], .c (.v (.bool t_.2.2.2))])) := ⟨fun h => spec_laHole.con _ _ _ _ _ _ (t_.1) (t_.2.1) (t_.2.2.1) (t_.2.2.2) h⟩
/-! ### impl_isTrack: function 85 -/
def impl_isTrack.f (a0 : Int) : Option (Bool) := if a0 ≥ 0 then (some (decide (a0 < 20))) else (some false)
set_option maxRecDepth 8000 in
set_option maxHeartbeats 2000000 in
theorem impl_isTrack.con (a0 : Int) (r : Bool) (H : impl_isTrack.f a0 = some r) : Con Try.prog 85 [.p (.c (.v (.int .i64 a0)))] (.p (.c (.v (.bool r)))) := by
  refine Con.mk' (fn := Try.f85) Try.func85 rfl (by kernel_rfl) rfl rfl rfl fun X w0 gs hF => ?_
  unfold impl_isTrack.f at H
  exact auto
instance impl_isTrack.ctr {a0 : Int} {r : Bool} : Ctr (impl_isTrack.f a0 = some r) (Con Try.prog 85 [.p (.c (.v (.int .i64 a0)))] (.p (.c (.v (.bool r))))) := ⟨impl_isTrack.con _ _⟩
/-! ### impl_IsHole: function 66 -/
def impl_IsHole.f (a0_0 : Int) (a0_1 : Int) (a0_2 : Int) : Option (Bool) := (impl_isTrack.f a0_0).bind fun t265 => (if t265 = true then (if a0_1 ≥ 0 then (if a0_1 < a0_2 then (some (decide (a0_2 ≤ 2000))) else (some false)) else (some false)) else (some false))
set_option maxRecDepth 8000 in
set_option maxHeartbeats 2000000 in
theorem impl_IsHole.con (a0_0 : Int) (a0_1 : Int) (a0_2 : Int) (r : Bool) (H : impl_IsHole.f a0_0 a0_1 a0_2 = some r) : Con Try.prog 66 [.p (.ag [.v (.int .i64 a0_0), .v (.int .i64 a0_1), .v (.int .i64 a0_2)])] (.p (.c (.v (.bool r)))) := by
  refine Con.mk' (fn := Try.f66) Try.func66 rfl (by kernel_rfl) rfl rfl rfl fun X w0 gs hF => ?_
  unfold impl_IsHole.f at H
  exact auto
instance impl_IsHole.ctr {a0_0 : Int} {a0_1 : Int} {a0_2 : Int} {r : Bool} : Ctr (impl_IsHole.f a0_0 a0_1 a0_2 = some r) (Con Try.prog 66 [.p (.ag [.v (.int .i64 a0_0), .v (.int .i64 a0_1), .v (.int .i64 a0_2)])] (.p (.c (.v (.bool r))))) := ⟨impl_IsHole.con _ _ _ _⟩
/-! ### impl_holeLess: function 67 -/
def impl_holeLess.f (a0_0 : Int) (a0_1 : Int) (a0_2 : Int) (a1_0 : Int) (a1_1 : Int) (a1_2 : Int) : Option (Bool) := if a0_1 = a1_1 then (some (decide (a0_0 < a1_0))) else (some (decide (a0_1 < a1_1)))
set_option maxRecDepth 8000 in
set_option maxHeartbeats 2000000 in
theorem impl_holeLess.con (a0_0 : Int) (a0_1 : Int) (a0_2 : Int) (a1_0 : Int) (a1_1 : Int) (a1_2 : Int) (r : Bool) (H : impl_holeLess.f a0_0 a0_1 a0_2 a1_0 a1_1 a1_2 = some r) : Con Try.prog 67 [.p (.ag [.v (.int .i64 a0_0), .v (.int .i64 a0_1), .v (.int .i64 a0_2)]), .p (.ag [.v (.int .i64 a1_0), .v (.int .i64 a1_1), .v (.int .i64 a1_2)])] (.p (.c (.v (.bool r)))) := by
  refine Con.mk' (fn := Try.f67) Try.func67 rfl (by kernel_rfl) rfl rfl rfl fun X w0 gs hF => ?_
  unfold impl_holeLess.f at H
  exact auto
instance impl_holeLess.ctr {a0_0 : Int} {a0_1 : Int} {a0_2 : Int} {a1_0 : Int} {a1_1 : Int} {a1_2 : Int} {r : Bool} : Ctr (impl_holeLess.f a0_0 a0_1 a0_2 a1_0 a1_1 a1_2 = some r) (Con Try.prog 67 [.p (.ag [.v (.int .i64 a0_0), .v (.int .i64 a0_1), .v (.int .i64 a0_2)]), .p (.ag [.v (.int .i64 a1_0), .v (.int .i64 a1_1), .v (.int .i64 a1_2)])] (.p (.c (.v (.bool r))))) := ⟨impl_holeLess.con _ _ _ _ _ _ _⟩
theorem impl_holeLess.calls (a0_0 : Int) (a0_1 : Int) (a0_2 : Int) (a1_0 : Int) (a1_1 : Int) (a1_2 : Int) (r : Bool) (w : World) (h : impl_holeLess.f a0_0 a0_1 a0_2 a1_0 a1_1 a1_2 = some r) :
    Calls Try.prog 67 #[.agg #[.int .i64 a0_0, .int .i64 a0_1, .int .i64 a0_2], .agg #[.int .i64 a1_0, .int .i64 a1_1, .int .i64 a1_2]] w fun e w' => e = .returned (.bool r) ∧ Below w.heap.size w w' :=
  (impl_holeLess.con a0_0 a0_1 a0_2 a1_0 a1_1 a1_2 r h).val rfl (show Args.relg (fun _ => False) w _ [.agg #[.int .i64 a0_0, .int .i64 a0_1, .int .i64 a0_2], .agg #[.int .i64 a1_0, .int .i64 a1_1, .int .i64 a1_2]] [.int .i64 a0_0, .int .i64 a0_1, .int .i64 a0_2, .int .i64 a1_0, .int .i64 a1_1, .int .i64 a1_2] from ⟨_, _, rfl, ⟨rfl, rfl, rfl, ⟨rfl, rfl, ⟨rfl, rfl, trivial⟩⟩⟩, ⟨_, _, rfl, ⟨rfl, rfl, rfl, ⟨rfl, rfl, ⟨rfl, rfl, trivial⟩⟩⟩, rfl⟩⟩)
/-! ### impl_IsSheet: function 46 -/
mutual
def impl_IsSheet.l0 : Nat → List (S64) → List (S64) → Int → Int → Option (Bool)
  | 0, _, _, _, _ => none
  | k + 1, x0, x10, x11, x12 => if x12 < x11 then (if 0 ≤ x12 then (if x12 < (x10.length : Int) then ((impl_IsHole.f ((rd_T64 x10 x12).f0) ((rd_T64 x10 x12).f1) ((rd_T64 x10 x12).f2)).bind fun t270 => (if t270 = true then (if x12 > 0 then (if 0 ≤ (wrap64 (x12 - 1)) then (if (wrap64 (x12 - 1)) < (x0.length : Int) then ((impl_holeLess.f ((rd_T64 x0 (wrap64 (x12 - 1))).f0) ((rd_T64 x0 (wrap64 (x12 - 1))).f1) ((rd_T64 x0 (wrap64 (x12 - 1))).f2) ((rd_T64 x10 x12).f0) ((rd_T64 x10 x12).f1) ((rd_T64 x10 x12).f2)).bind fun t272 => (impl_IsSheet.j1 k x0 x12 x10 x11 x12 (!t272) ((rd_T64 x10 x12).f0) ((rd_T64 x10 x12).f1) ((rd_T64 x10 x12).f2))) else (none)) else (none)) else (impl_IsSheet.j1 k x0 x12 x10 x11 x12 false ((rd_T64 x10 x12).f0) ((rd_T64 x10 x12).f1) ((rd_T64 x10 x12).f2))) else (impl_IsSheet.j1 k x0 x12 x10 x11 x12 true ((rd_T64 x10 x12).f0) ((rd_T64 x10 x12).f1) ((rd_T64 x10 x12).f2)))) else (none)) else (none)) else (some true)
def impl_IsSheet.j1 : Nat → List (S64) → Int → List (S64) → Int → Int → Bool → Int → Int → Int → Option (Bool)
  | 0, _, _, _, _, _, _, _, _, _ => none
  | k + 1, x0, x3, x10, x11, x12, x33, x270000, x270001, x270002 => if x33 = true then (some false) else (if 0 ≤ x3 then (if x3 ≤ (x0.length : Int) then ((some (x0.take (x3 : Int).toNat : List (S64))).bind fun y273 => (impl_IsSheet.l1 k x0 x10 x11 x12 y273 (y273.length : Int) 0 x270000 x270001 x270002)) else (none)) else (none))
def impl_IsSheet.l1 : Nat → List (S64) → List (S64) → Int → Int → List (S64) → Int → Int → Int → Int → Int → Option (Bool)
  | 0, _, _, _, _, _, _, _, _, _, _ => none
  | k + 1, x0, x10, x11, x12, x36, x37, x38, x270000, x270001, x270002 => if x38 < x37 then (if 0 ≤ x38 then (if x38 < (x36.length : Int) then (if ((rd_T64 x36 x38).f0) = x270000 then (if ((rd_T64 x36 x38).f2) ≥ x270001 then (some false) else (impl_IsSheet.l1 k x0 x10 x11 x12 x36 x37 (wrap64 (x38 + 1)) x270000 x270001 x270002)) else (impl_IsSheet.l1 k x0 x10 x11 x12 x36 x37 (wrap64 (x38 + 1)) x270000 x270001 x270002)) else (none)) else (none)) else (impl_IsSheet.l0 k x0 x10 x11 (wrap64 (x12 + 1)))
end
def impl_IsSheet.f (k : Nat) (l0 : List (S64)) : Option (Bool) := if (l0.length : Int) > 60 then (some false) else (impl_IsSheet.l0 k l0 l0 (l0.length : Int) 0)
instance impl_IsSheet.lp0 {k : Nat} {r : Bool} {Q : Wr → Prop} {p0 : List (S64)} {p1 : List (S64)} {p2 : Int} {x12_1 : Int} : Lp (impl_IsSheet.l0 k p0 p1 p2 x12_1 = some r) Q (fun k => ∀ {x12_1 : Int}, impl_IsSheet.l0 k p0 p1 p2 x12_1 = some r → Q [(24, .p (.c (.v (.int .i64 x12_1))))]) k [(24, .p (.c (.v (.int .i64 x12_1))))] := ⟨fun j h => j h⟩
instance impl_IsSheet.lp1 {k : Nat} {r : Bool} {Q : Wr → Prop} {p0 : List (S64)} {p1 : List (S64)} {p2 : Int} {p3 : Int} {p4 : List (S64)} {p5 : Int} {p7 : Int} {p8 : Int} {p9 : Int} {x38_3 : Int} : Lp (impl_IsSheet.l1 k p0 p1 p2 p3 p4 p5 x38_3 p7 p8 p9 = some r) Q (fun k => ∀ {x38_3 : Int}, impl_IsSheet.l1 k p0 p1 p2 p3 p4 p5 x38_3 p7 p8 p9 = some r → Q [(76, .p (.c (.v (.int .i64 x38_3))))]) k [(76, .p (.c (.v (.int .i64 x38_3))))] := ⟨fun j h => j h⟩
set_option maxRecDepth 8000 in
set_option maxHeartbeats 2000000 in
theorem impl_IsSheet.con (k : Nat) (l0 : List (S64)) (r : Bool) (H : impl_IsSheet.f k l0 = some r) : Con Try.prog 46 [.p (.c (.sl K64 l0))] (.p (.c (.v (.bool r)))) := by
  refine Con.mk' (fn := Try.f46) Try.func46 rfl (by kernel_rfl) rfl rfl rfl fun X w0 gs hF => ?_
  unfold impl_IsSheet.f at H
  exact auto
instance impl_IsSheet.ctr {k : Nat} {l0 : List (S64)} {r : Bool} : Ctr (impl_IsSheet.f k l0 = some r) (Con Try.prog 46 [.p (.c (.sl K64 l0))] (.p (.c (.v (.bool r))))) := ⟨impl_IsSheet.con _ _ _⟩
theorem impl_IsSheet.calls (k : Nat) (A0 : Option Addr) (c0 : Nat) (l0 : List (S64)) (r : Bool) (w : World) (hr0 : Kd.C k64 w A0 l0.length l0) (hc0 : l0.length ≤ c0) (h : impl_IsSheet.f k l0 = some r) :
    Calls Try.prog 46 #[.slice A0 l0.length c0] w fun e w' => e = .returned (.bool r) ∧ Below w.heap.size w w' :=
  (impl_IsSheet.con k l0 r h).val rfl (show Args.relg (fun _ => False) w _ [.slice A0 l0.length c0] [.slice A0 l0.length c0] from ⟨_, _, rfl, ⟨rfl, A0, c0, rfl, hc0, row_of_C rfl (fun _ h => h) hr0⟩, rfl⟩)
/-! ### spec_shBefore: function 72 -/
def spec_shBefore.f (a0_0 : Int) (a0_1 : Int) (a0_2 : Int) (a1_0 : Int) (a1_1 : Int) (a1_2 : Int) : Option (Bool) := if a0_1 < a1_1 then (some true) else (if a0_1 = a1_1 then (some (decide (a0_0 < a1_0))) else (some false))
set_option maxRecDepth 8000 in
set_option maxHeartbeats 2000000 in
theorem spec_shBefore.con (a0_0 : Int) (a0_1 : Int) (a0_2 : Int) (a1_0 : Int) (a1_1 : Int) (a1_2 : Int) (r : Bool) (H : spec_shBefore.f a0_0 a0_1 a0_2 a1_0 a1_1 a1_2 = some r) : Con Try.prog 72 [.p (.ag [.v (.int .i64 a0_0), .v (.int .i64 a0_1), .v (.int .i64 a0_2)]), .p (.ag [.v (.int .i64 a1_0), .v (.int .i64 a1_1), .v (.int .i64 a1_2)])] (.p (.c (.v (.bool r)))) := by
  refine Con.mk' (fn := Try.f72) Try.func72 rfl (by kernel_rfl) rfl rfl rfl fun X w0 gs hF => ?_
  unfold spec_shBefore.f at H
  exact auto
instance spec_shBefore.ctr {a0_0 : Int} {a0_1 : Int} {a0_2 : Int} {a1_0 : Int} {a1_1 : Int} {a1_2 : Int} {r : Bool} : Ctr (spec_shBefore.f a0_0 a0_1 a0_2 a1_0 a1_1 a1_2 = some r) (Con Try.prog 72 [.p (.ag [.v (.int .i64 a0_0), .v (.int .i64 a0_1), .v (.int .i64 a0_2)]), .p (.ag [.v (.int .i64 a1_0), .v (.int .i64 a1_1), .v (.int .i64 a1_2)])] (.p (.c (.v (.bool r))))) := ⟨spec_shBefore.con _ _ _ _ _ _ _⟩
theorem spec_shBefore.calls (a0_0 : Int) (a0_1 : Int) (a0_2 : Int) (a1_0 : Int) (a1_1 : Int) (a1_2 : Int) (r : Bool) (w : World) (h : spec_shBefore.f a0_0 a0_1 a0_2 a1_0 a1_1 a1_2 = some r) :
    Calls Try.prog 72 #[.agg #[.int .i64 a0_0, .int .i64 a0_1, .int .i64 a0_2], .agg #[.int .i64 a1_0, .int .i64 a1_1, .int .i64 a1_2]] w fun e w' => e = .returned (.bool r) ∧ Below w.heap.size w w' :=
  (spec_shBefore.con a0_0 a0_1 a0_2 a1_0 a1_1 a1_2 r h).val rfl (show Args.relg (fun _ => False) w _ [.agg #[.int .i64 a0_0, .int .i64 a0_1, .int .i64 a0_2], .agg #[.int .i64 a1_0, .int .i64 a1_1, .int .i64 a1_2]] [.int .i64 a0_0, .int .i64 a0_1, .int .i64 a0_2, .int .i64 a1_0, .int .i64 a1_1, .int .i64 a1_2] from ⟨_, _, rfl, ⟨rfl, rfl, rfl, ⟨rfl, rfl, ⟨rfl, rfl, trivial⟩⟩⟩, ⟨_, _, rfl, ⟨rfl, rfl, rfl, ⟨rfl, rfl, ⟨rfl, rfl, trivial⟩⟩⟩, rfl⟩⟩)
end Go.Proofs.Ytbfehdhncncgdaa.F
