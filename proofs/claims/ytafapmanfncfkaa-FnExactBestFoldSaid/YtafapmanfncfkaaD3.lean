/- BY EV: what the Go functions compute (read off the print), and that their calls come to it. No condition. -/
import Derived.Test.YtafapmanfncfkaaDEU
set_option linter.unusedVariables false
set_option linter.unusedSimpArgs false
namespace Go.Proofs.Ytafapmanfncfkaa.D
open Go.RowKit Go.Proofs Go.Proofs.YtafapmanfncfkaaW.PrintWords Go.Proofs.YtafapmanfncfkaaW.PrintLast EV
/-! ### spec_trOrder: function 27 -/
def spec_trOrder.l0 : Nat → Int → List Int → Int → Option (List Int)
  | 0, _, _, _ => none
  | k + 1, x0, x3, x4 => if x4 ≤ x0 then ((some (([wrap64 (-x4), x4] : List Int) : List Int)).bind fun y169 => (if x3.length + y169.length < 17592186044416 then (spec_trOrder.l0 k x0 (x3 ++ y169) (wrap64 (x4 + 1))) else (none))) else (some x3)
def spec_trOrder.f (k : Nat) (a0 : Int) : Option (List Int) := spec_trOrder.l0 k a0 (([0] : List Int)) 1
instance spec_trOrder.lp0 {k : Nat} {r : List Int} {Q : Wr → Prop} {p0 : Int} {x3_1 : List Int} {x4_1 : Int} : Lp (spec_trOrder.l0 k p0 x3_1 x4_1 = some r) Q (fun k => ∀ {x3_1 : List Int} {x4_1 : Int}, spec_trOrder.l0 k p0 x3_1 x4_1 = some r → Q [(6, .p (.c (.rp (Try.f27.ntmps + 3)))), (2 * (Try.f27.ntmps + 3) + 1, .row 3 (.int .i64) x3_1), (8, .p (.c (.v (.int .i64 x4_1))))]) k [(6, .p (.c (.rp (Try.f27.ntmps + 3)))), (2 * (Try.f27.ntmps + 3) + 1, .row 3 (.int .i64) x3_1), (8, .p (.c (.v (.int .i64 x4_1))))] := ⟨fun j h => j h⟩
set_option maxRecDepth 8000 in
set_option maxHeartbeats 2000000 in
theorem spec_trOrder.con (k : Nat) (a0 : Int) (r : List Int) (H : spec_trOrder.f k a0 = some r) : Con Try.prog 27 [.p (.c (.v (.int .i64 a0)))] (.p (.c (.ow 3 (.int .i64) r))) := by
  refine Con.mk' (fn := Try.f27) Try.func27 rfl (by kernel_rfl) rfl rfl rfl fun X w0 gs hF => ?_
  unfold spec_trOrder.f at H
  exact auto
instance spec_trOrder.ctr {k : Nat} {a0 : Int} {r : List Int} : Ctr (spec_trOrder.f k a0 = some r) (Con Try.prog 27 [.p (.c (.v (.int .i64 a0)))] (.p (.c (.ow 3 (.int .i64) r)))) := ⟨spec_trOrder.con _ _ _⟩
/-! ### spec_l1Most: function 86 -/
def spec_l1Most.f (a0 : Int) (a1 : Int) : Option (Int) := if a0 > a1 then (some a0) else (some a1)
set_option maxRecDepth 8000 in
set_option maxHeartbeats 2000000 in
theorem spec_l1Most.con (a0 : Int) (a1 : Int) (r : Int) (H : spec_l1Most.f a0 a1 = some r) : Con Try.prog 86 [.p (.c (.v (.int .i64 a0))), .p (.c (.v (.int .i64 a1)))] (.p (.c (.v (.int .i64 r)))) := by
  refine Con.mk' (fn := Try.f86) Try.func86 rfl (by kernel_rfl) rfl rfl rfl fun X w0 gs hF => ?_
  unfold spec_l1Most.f at H
  exact auto
instance spec_l1Most.ctr {a0 : Int} {a1 : Int} {r : Int} : Ctr (spec_l1Most.f a0 a1 = some r) (Con Try.prog 86 [.p (.c (.v (.int .i64 a0))), .p (.c (.v (.int .i64 a1)))] (.p (.c (.v (.int .i64 r))))) := ⟨spec_l1Most.con _ _ _⟩
/-! ### spec_l1Abs: function 77 -/
def spec_l1Abs.f (a0 : Int) : Option (Int) := (spec_l1Most.f a0 (wrap64 (-a0))).bind fun t175 => (some t175)
set_option maxRecDepth 8000 in
set_option maxHeartbeats 2000000 in
theorem spec_l1Abs.con (a0 : Int) (r : Int) (H : spec_l1Abs.f a0 = some r) : Con Try.prog 77 [.p (.c (.v (.int .i64 a0)))] (.p (.c (.v (.int .i64 r)))) := by
  refine Con.mk' (fn := Try.f77) Try.func77 rfl (by kernel_rfl) rfl rfl rfl fun X w0 gs hF => ?_
  unfold spec_l1Abs.f at H
  exact auto
instance spec_l1Abs.ctr {a0 : Int} {r : Int} : Ctr (spec_l1Abs.f a0 = some r) (Con Try.prog 77 [.p (.c (.v (.int .i64 a0)))] (.p (.c (.v (.int .i64 r))))) := ⟨spec_l1Abs.con _ _⟩
/-! ### spec_trNearest: function 60 -/
def spec_trNearest.l0 : Nat → Int → Int → Int → List Int → Int → Int → Option (Int)
  | 0, _, _, _, _, _, _ => none
  | k + 1, x1, x2, x7, x11, x12, x13 => if x13 < x12 then (if 0 ≤ x13 then (if x13 < (x11.length : Int) then (if x2 = 0 then (none) else (if (Int.tmod (wrap64 ((rd x11 x13) - x1)) x2) = 0 then (if x7 < 0 then (spec_trNearest.l0 k x1 x2 (rd x11 x13) x11 x12 (wrap64 (x13 + 1))) else ((spec_l1Abs.f (wrap64 ((rd x11 x13) - x1))).bind fun t178 => ((spec_l1Abs.f (wrap64 (x7 - x1))).bind fun t179 => (if t178 < t179 then (spec_trNearest.l0 k x1 x2 (rd x11 x13) x11 x12 (wrap64 (x13 + 1))) else (spec_trNearest.l0 k x1 x2 x7 x11 x12 (wrap64 (x13 + 1))))))) else (spec_trNearest.l0 k x1 x2 x7 x11 x12 (wrap64 (x13 + 1))))) else (none)) else (none)) else (some x7)
def spec_trNearest.f (k : Nat) (l0_0 : List Int) (a0_1 : Int) (a1 : Int) (a2 : Int) : Option (Int) := spec_trNearest.l0 k a1 a2 (-1) l0_0 (l0_0.length : Int) 0
instance spec_trNearest.lp0 {k : Nat} {r : Int} {Q : Wr → Prop} {p0 : Int} {p1 : Int} {p3 : List Int} {p4 : Int} {x7_1 : Int} {x13_1 : Int} : Lp (spec_trNearest.l0 k p0 p1 x7_1 p3 p4 x13_1 = some r) Q (fun k => ∀ {x7_1 : Int} {x13_1 : Int}, spec_trNearest.l0 k p0 p1 x7_1 p3 p4 x13_1 = some r → Q [(14, .p (.c (.v (.int .i64 x7_1)))), (26, .p (.c (.v (.int .i64 x13_1))))]) k [(14, .p (.c (.v (.int .i64 x7_1)))), (26, .p (.c (.v (.int .i64 x13_1))))] := ⟨fun j h => j h⟩
set_option maxRecDepth 8000 in
set_option maxHeartbeats 2000000 in
theorem spec_trNearest.con (k : Nat) (l0_0 : List Int) (a0_1 : Int) (a1 : Int) (a2 : Int) (r : Int) (H : spec_trNearest.f k l0_0 a0_1 a1 a2 = some r) : Con Try.prog 60 [.p (.ag [.sl (.int .i64) l0_0, .v (.int .i64 a0_1)]), .p (.c (.v (.int .i64 a1))), .p (.c (.v (.int .i64 a2)))] (.p (.c (.v (.int .i64 r)))) := by
  refine Con.mk' (fn := Try.f60) Try.func60 rfl (by kernel_rfl) rfl rfl rfl fun X w0 gs hF => ?_
  unfold spec_trNearest.f at H
  exact auto
instance spec_trNearest.ctr {k : Nat} {l0_0 : List Int} {a0_1 : Int} {a1 : Int} {a2 : Int} {r : Int} : Ctr (spec_trNearest.f k l0_0 a0_1 a1 a2 = some r) (Con Try.prog 60 [.p (.ag [.sl (.int .i64) l0_0, .v (.int .i64 a0_1)]), .p (.c (.v (.int .i64 a1))), .p (.c (.v (.int .i64 a2)))] (.p (.c (.v (.int .i64 r))))) := ⟨spec_trNearest.con _ _ _ _ _ _⟩
/-! ### impl_IsNote: function 55 -/
def impl_IsNote.f (a0_0 : Int) (a0_1 : Int) (a0_2 : Int) : Option (Bool) := if a0_0 ≥ 24 then (if a0_0 ≤ 96 then (if a0_1 ≥ 0 then (if a0_1 ≤ 999 then (if a0_2 ≥ 1 then (some (decide (a0_2 ≤ 99))) else (some false)) else (some false)) else (some false)) else (some false)) else (some false)
set_option maxRecDepth 8000 in
set_option maxHeartbeats 2000000 in
theorem impl_IsNote.con (a0_0 : Int) (a0_1 : Int) (a0_2 : Int) (r : Bool) (H : impl_IsNote.f a0_0 a0_1 a0_2 = some r) : Con Try.prog 55 [.p (.ag [.v (.int .i64 a0_0), .v (.int .i64 a0_1), .v (.int .i64 a0_2)])] (.p (.c (.v (.bool r)))) := by
  refine Con.mk' (fn := Try.f55) Try.func55 rfl (by kernel_rfl) rfl rfl rfl fun X w0 gs hF => ?_
  unfold impl_IsNote.f at H
  exact auto
instance impl_IsNote.ctr {a0_0 : Int} {a0_1 : Int} {a0_2 : Int} {r : Bool} : Ctr (impl_IsNote.f a0_0 a0_1 a0_2 = some r) (Con Try.prog 55 [.p (.ag [.v (.int .i64 a0_0), .v (.int .i64 a0_1), .v (.int .i64 a0_2)])] (.p (.c (.v (.bool r))))) := ⟨impl_IsNote.con _ _ _ _⟩
/-! ### impl_noteLess: function 56 -/
def impl_noteLess.f (a0_0 : Int) (a0_1 : Int) (a0_2 : Int) (a1_0 : Int) (a1_1 : Int) (a1_2 : Int) : Option (Bool) := if a0_1 = a1_1 then (some (decide (a0_0 < a1_0))) else (some (decide (a0_1 < a1_1)))
set_option maxRecDepth 8000 in
set_option maxHeartbeats 2000000 in
theorem impl_noteLess.con (a0_0 : Int) (a0_1 : Int) (a0_2 : Int) (a1_0 : Int) (a1_1 : Int) (a1_2 : Int) (r : Bool) (H : impl_noteLess.f a0_0 a0_1 a0_2 a1_0 a1_1 a1_2 = some r) : Con Try.prog 56 [.p (.ag [.v (.int .i64 a0_0), .v (.int .i64 a0_1), .v (.int .i64 a0_2)]), .p (.ag [.v (.int .i64 a1_0), .v (.int .i64 a1_1), .v (.int .i64 a1_2)])] (.p (.c (.v (.bool r)))) := by
  refine Con.mk' (fn := Try.f56) Try.func56 rfl (by kernel_rfl) rfl rfl rfl fun X w0 gs hF => ?_
  unfold impl_noteLess.f at H
  exact auto
instance impl_noteLess.ctr {a0_0 : Int} {a0_1 : Int} {a0_2 : Int} {a1_0 : Int} {a1_1 : Int} {a1_2 : Int} {r : Bool} : Ctr (impl_noteLess.f a0_0 a0_1 a0_2 a1_0 a1_1 a1_2 = some r) (Con Try.prog 56 [.p (.ag [.v (.int .i64 a0_0), .v (.int .i64 a0_1), .v (.int .i64 a0_2)]), .p (.ag [.v (.int .i64 a1_0), .v (.int .i64 a1_1), .v (.int .i64 a1_2)])] (.p (.c (.v (.bool r))))) := ⟨impl_noteLess.con _ _ _ _ _ _ _⟩
theorem impl_noteLess.calls (a0_0 : Int) (a0_1 : Int) (a0_2 : Int) (a1_0 : Int) (a1_1 : Int) (a1_2 : Int) (r : Bool) (w : World) (h : impl_noteLess.f a0_0 a0_1 a0_2 a1_0 a1_1 a1_2 = some r) :
    Calls Try.prog 56 #[.agg #[.int .i64 a0_0, .int .i64 a0_1, .int .i64 a0_2], .agg #[.int .i64 a1_0, .int .i64 a1_1, .int .i64 a1_2]] w fun e w' => e = .returned (.bool r) ∧ Below w.heap.size w w' :=
  (impl_noteLess.con a0_0 a0_1 a0_2 a1_0 a1_1 a1_2 r h).val rfl (show Args.relg (fun _ => False) w _ [.agg #[.int .i64 a0_0, .int .i64 a0_1, .int .i64 a0_2], .agg #[.int .i64 a1_0, .int .i64 a1_1, .int .i64 a1_2]] [.int .i64 a0_0, .int .i64 a0_1, .int .i64 a0_2, .int .i64 a1_0, .int .i64 a1_1, .int .i64 a1_2] from ⟨_, _, rfl, ⟨rfl, rfl, rfl, ⟨rfl, rfl, ⟨rfl, rfl, trivial⟩⟩⟩, ⟨_, _, rfl, ⟨rfl, rfl, rfl, ⟨rfl, rfl, ⟨rfl, rfl, trivial⟩⟩⟩, rfl⟩⟩)
/-! ### impl_noteEnd: function 57 -/
def impl_noteEnd.f (a0_0 : Int) (a0_1 : Int) (a0_2 : Int) : Option (Int) := some (wrap64 (a0_1 + a0_2))
set_option maxRecDepth 8000 in
set_option maxHeartbeats 2000000 in
theorem impl_noteEnd.con (a0_0 : Int) (a0_1 : Int) (a0_2 : Int) (r : Int) (H : impl_noteEnd.f a0_0 a0_1 a0_2 = some r) : Con Try.prog 57 [.p (.ag [.v (.int .i64 a0_0), .v (.int .i64 a0_1), .v (.int .i64 a0_2)])] (.p (.c (.v (.int .i64 r)))) := by
  refine Con.mk' (fn := Try.f57) Try.func57 rfl (by kernel_rfl) rfl rfl rfl fun X w0 gs hF => ?_
  unfold impl_noteEnd.f at H
  exact auto
instance impl_noteEnd.ctr {a0_0 : Int} {a0_1 : Int} {a0_2 : Int} {r : Int} : Ctr (impl_noteEnd.f a0_0 a0_1 a0_2 = some r) (Con Try.prog 57 [.p (.ag [.v (.int .i64 a0_0), .v (.int .i64 a0_1), .v (.int .i64 a0_2)])] (.p (.c (.v (.int .i64 r))))) := ⟨impl_noteEnd.con _ _ _ _⟩
/-! ### impl_IsScore: function 32 -/
mutual
def impl_IsScore.l0 : Nat → List (S55) → List (S55) → Int → Int → Option (Bool)
  | 0, _, _, _, _ => none
  | k + 1, x0, x10, x11, x12 => if x12 < x11 then (if 0 ≤ x12 then (if x12 < (x10.length : Int) then ((impl_IsNote.f ((rd_T55 x10 x12).f0) ((rd_T55 x10 x12).f1) ((rd_T55 x10 x12).f2)).bind fun t186 => (if t186 = true then (if x12 > 0 then (if 0 ≤ (wrap64 (x12 - 1)) then (if (wrap64 (x12 - 1)) < (x0.length : Int) then ((impl_noteLess.f ((rd_T55 x0 (wrap64 (x12 - 1))).f0) ((rd_T55 x0 (wrap64 (x12 - 1))).f1) ((rd_T55 x0 (wrap64 (x12 - 1))).f2) ((rd_T55 x10 x12).f0) ((rd_T55 x10 x12).f1) ((rd_T55 x10 x12).f2)).bind fun t188 => (impl_IsScore.j1 k x0 x12 x10 x11 x12 (!t188) ((rd_T55 x10 x12).f0) ((rd_T55 x10 x12).f1) ((rd_T55 x10 x12).f2))) else (none)) else (none)) else (impl_IsScore.j1 k x0 x12 x10 x11 x12 false ((rd_T55 x10 x12).f0) ((rd_T55 x10 x12).f1) ((rd_T55 x10 x12).f2))) else (impl_IsScore.j1 k x0 x12 x10 x11 x12 true ((rd_T55 x10 x12).f0) ((rd_T55 x10 x12).f1) ((rd_T55 x10 x12).f2)))) else (none)) else (none)) else (some true)
def impl_IsScore.j1 : Nat → List (S55) → Int → List (S55) → Int → Int → Bool → Int → Int → Int → Option (Bool)
  | 0, _, _, _, _, _, _, _, _, _ => none
  | k + 1, x0, x3, x10, x11, x12, x33, x186000, x186001, x186002 => if x33 = true then (some false) else (if 0 ≤ x3 then (if x3 ≤ (x0.length : Int) then ((some (x0.take (x3 : Int).toNat : List (S55))).bind fun y189 => (impl_IsScore.l1 k x0 x10 x11 x12 y189 (y189.length : Int) 0 x186000 x186001 x186002)) else (none)) else (none))
def impl_IsScore.l1 : Nat → List (S55) → List (S55) → Int → Int → List (S55) → Int → Int → Int → Int → Int → Option (Bool)
  | 0, _, _, _, _, _, _, _, _, _, _ => none
  | k + 1, x0, x10, x11, x12, x36, x37, x38, x186000, x186001, x186002 => if x38 < x37 then (if 0 ≤ x38 then (if x38 < (x36.length : Int) then (if ((rd_T55 x36 x38).f0) = x186000 then ((impl_noteEnd.f ((rd_T55 x36 x38).f0) ((rd_T55 x36 x38).f1) ((rd_T55 x36 x38).f2)).bind fun t195 => (if t195 > x186001 then (some false) else (impl_IsScore.l1 k x0 x10 x11 x12 x36 x37 (wrap64 (x38 + 1)) x186000 x186001 x186002))) else (impl_IsScore.l1 k x0 x10 x11 x12 x36 x37 (wrap64 (x38 + 1)) x186000 x186001 x186002)) else (none)) else (none)) else (impl_IsScore.l0 k x0 x10 x11 (wrap64 (x12 + 1)))
end
def impl_IsScore.f (k : Nat) (l0 : List (S55)) : Option (Bool) := if (l0.length : Int) > 30 then (some false) else (impl_IsScore.l0 k l0 l0 (l0.length : Int) 0)
instance impl_IsScore.lp0 {k : Nat} {r : Bool} {Q : Wr → Prop} {p0 : List (S55)} {p1 : List (S55)} {p2 : Int} {x12_1 : Int} : Lp (impl_IsScore.l0 k p0 p1 p2 x12_1 = some r) Q (fun k => ∀ {x12_1 : Int}, impl_IsScore.l0 k p0 p1 p2 x12_1 = some r → Q [(24, .p (.c (.v (.int .i64 x12_1))))]) k [(24, .p (.c (.v (.int .i64 x12_1))))] := ⟨fun j h => j h⟩
instance impl_IsScore.lp1 {k : Nat} {r : Bool} {Q : Wr → Prop} {p0 : List (S55)} {p1 : List (S55)} {p2 : Int} {p3 : Int} {p4 : List (S55)} {p5 : Int} {p7 : Int} {p8 : Int} {p9 : Int} {x38_3 : Int} : Lp (impl_IsScore.l1 k p0 p1 p2 p3 p4 p5 x38_3 p7 p8 p9 = some r) Q (fun k => ∀ {x38_3 : Int}, impl_IsScore.l1 k p0 p1 p2 p3 p4 p5 x38_3 p7 p8 p9 = some r → Q [(76, .p (.c (.v (.int .i64 x38_3))))]) k [(76, .p (.c (.v (.int .i64 x38_3))))] := ⟨fun j h => j h⟩
set_option maxRecDepth 8000 in
set_option maxHeartbeats 2000000 in
theorem impl_IsScore.con (k : Nat) (l0 : List (S55)) (r : Bool) (H : impl_IsScore.f k l0 = some r) : Con Try.prog 32 [.p (.c (.sl K55 l0))] (.p (.c (.v (.bool r)))) := by
  refine Con.mk' (fn := Try.f32) Try.func32 rfl (by kernel_rfl) rfl rfl rfl fun X w0 gs hF => ?_
  unfold impl_IsScore.f at H
  exact auto
instance impl_IsScore.ctr {k : Nat} {l0 : List (S55)} {r : Bool} : Ctr (impl_IsScore.f k l0 = some r) (Con Try.prog 32 [.p (.c (.sl K55 l0))] (.p (.c (.v (.bool r))))) := ⟨impl_IsScore.con _ _ _⟩
theorem impl_IsScore.calls (k : Nat) (A0 : Option Addr) (c0 : Nat) (l0 : List (S55)) (r : Bool) (w : World) (hr0 : Kd.C k55 w A0 l0.length l0) (hc0 : l0.length ≤ c0) (h : impl_IsScore.f k l0 = some r) :
    Calls Try.prog 32 #[.slice A0 l0.length c0] w fun e w' => e = .returned (.bool r) ∧ Below w.heap.size w w' :=
  (impl_IsScore.con k l0 r h).val rfl (show Args.relg (fun _ => False) w _ [.slice A0 l0.length c0] [.slice A0 l0.length c0] from ⟨_, _, rfl, ⟨rfl, A0, c0, rfl, hc0, row_of_C rfl (fun _ h => h) hr0⟩, rfl⟩)
/-! ### impl_isPitch: function 40 -/
def impl_isPitch.f (a0 : Int) : Option (Bool) := if a0 ≥ 24 then (some (decide (a0 ≤ 96))) else (some false)
set_option maxRecDepth 8000 in
set_option maxHeartbeats 2000000 in
theorem impl_isPitch.con (a0 : Int) (r : Bool) (H : impl_isPitch.f a0 = some r) : Con Try.prog 40 [.p (.c (.v (.int .i64 a0)))] (.p (.c (.v (.bool r)))) := by
  refine Con.mk' (fn := Try.f40) Try.func40 rfl (by kernel_rfl) rfl rfl rfl fun X w0 gs hF => ?_
  unfold impl_isPitch.f at H
  exact auto
instance impl_isPitch.ctr {a0 : Int} {r : Bool} : Ctr (impl_isPitch.f a0 = some r) (Con Try.prog 40 [.p (.c (.v (.int .i64 a0)))] (.p (.c (.v (.bool r))))) := ⟨impl_isPitch.con _ _⟩
/-! ### impl_IsInstrument: function 31 -/
mutual
def impl_IsInstrument.j0 : Nat → Bool → List Int → Int → Option (Bool)
  | 0, _, _, _ => none
  | k + 1, x24, x228000, x228001 => if x24 = true then (some false) else (impl_IsInstrument.l0 k x228000 (x228000.length : Int) 0 x228000 x228001)
def impl_IsInstrument.l0 : Nat → List Int → Int → Int → List Int → Int → Option (Bool)
  | 0, _, _, _, _, _ => none
  | k + 1, x26, x27, x28, x228000, x228001 => if x28 < x27 then (if 0 ≤ x28 then (if x28 < (x26.length : Int) then ((impl_isPitch.f (rd x26 x28)).bind fun t229 => (if t229 = true then (if x28 > 0 then (if 0 ≤ (wrap64 (x28 - 1)) then (if (wrap64 (x28 - 1)) < (x228000.length : Int) then (if (rd x26 x28) ≤ (rd x228000 (wrap64 (x28 - 1))) then (some false) else (impl_IsInstrument.l0 k x26 x27 (wrap64 (x28 + 1)) x228000 x228001)) else (none)) else (none)) else (impl_IsInstrument.l0 k x26 x27 (wrap64 (x28 + 1)) x228000 x228001)) else (some false))) else (none)) else (none)) else (some true)
end
def impl_IsInstrument.f (k : Nat) (l0_0 : List Int) (a0_1 : Int) : Option (Bool) := if (l0_0.length : Int) < 1 then (impl_IsInstrument.j0 k true l0_0 a0_1) else (if (l0_0.length : Int) > 20 then (impl_IsInstrument.j0 k true l0_0 a0_1) else (if a0_1 < 1 then (impl_IsInstrument.j0 k true l0_0 a0_1) else (impl_IsInstrument.j0 k (decide (a0_1 > 20)) l0_0 a0_1)))
instance impl_IsInstrument.lp0 {k : Nat} {r : Bool} {Q : Wr → Prop} {p0 : List Int} {p1 : Int} {p3 : List Int} {p4 : Int} {x28_2 : Int} : Lp (impl_IsInstrument.l0 k p0 p1 x28_2 p3 p4 = some r) Q (fun k => ∀ {x28_2 : Int}, impl_IsInstrument.l0 k p0 p1 x28_2 p3 p4 = some r → Q [(56, .p (.c (.v (.int .i64 x28_2))))]) k [(56, .p (.c (.v (.int .i64 x28_2))))] := ⟨fun j h => j h⟩
set_option maxRecDepth 8000 in
set_option maxHeartbeats 2000000 in
theorem impl_IsInstrument.con (k : Nat) (l0_0 : List Int) (a0_1 : Int) (r : Bool) (H : impl_IsInstrument.f k l0_0 a0_1 = some r) : Con Try.prog 31 [.p (.ag [.sl (.int .i64) l0_0, .v (.int .i64 a0_1)])] (.p (.c (.v (.bool r)))) := by
  refine Con.mk' (fn := Try.f31) Try.func31 rfl (by kernel_rfl) rfl rfl rfl fun X w0 gs hF => ?_
  unfold impl_IsInstrument.f at H
  exact auto
instance impl_IsInstrument.ctr {k : Nat} {l0_0 : List Int} {a0_1 : Int} {r : Bool} : Ctr (impl_IsInstrument.f k l0_0 a0_1 = some r) (Con Try.prog 31 [.p (.ag [.sl (.int .i64) l0_0, .v (.int .i64 a0_1)])] (.p (.c (.v (.bool r))))) := ⟨impl_IsInstrument.con _ _ _ _⟩
end Go.Proofs.Ytafapmanfncfkaa.D
