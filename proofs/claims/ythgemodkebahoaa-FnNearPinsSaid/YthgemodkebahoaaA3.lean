/- BY EV: what the Go functions compute (read off the print), and that their calls come to it. No condition. -/
import Derived.Test.YthgemodkebahoaaAEU
import Derived.Test.YthgemodkebahoaaA2
set_option linter.unusedVariables false
set_option linter.unusedSimpArgs false
namespace Go.Proofs.Ythgemodkebahoaa.A
open Go.RowKit Go.Proofs Go.Proofs.YthgemodkebahoaaW.PrintWords Go.Proofs.YthgemodkebahoaaW.PrintLast EV
/-! ### impl_ArePins: function 24 -/
def impl_ArePins.l0 : Nat → List (S39) → List (S39) → Int → Int → Option (Bool)
  | 0, _, _, _, _ => none
  | k + 1, x0, x5, x6, x7 => if x7 < x6 then (if 0 ≤ x7 then (if x7 < (x5.length : Int) then ((impl_isPin.f ((rd_T39 x5 x7).f0) ((rd_T39 x5 x7).f1) ((rd_T39 x5 x7).f2)).bind fun t144 => (if t144 = true then (if x7 > 0 then (if 0 ≤ (wrap64 (x7 - 1)) then (if (wrap64 (x7 - 1)) < (x0.length : Int) then ((impl_pinLess.f ((rd_T39 x0 (wrap64 (x7 - 1))).f0) ((rd_T39 x0 (wrap64 (x7 - 1))).f1) ((rd_T39 x0 (wrap64 (x7 - 1))).f2) ((rd_T39 x5 x7).f0) ((rd_T39 x5 x7).f1) ((rd_T39 x5 x7).f2)).bind fun t146 => (if t146 = true then (impl_ArePins.l0 k x0 x5 x6 (wrap64 (x7 + 1))) else (some false))) else (none)) else (none)) else (impl_ArePins.l0 k x0 x5 x6 (wrap64 (x7 + 1)))) else (some false))) else (none)) else (none)) else (some (decide ((x0.length : Int) ≤ 60)))
def impl_ArePins.f (k : Nat) (l0 : List (S39)) : Option (Bool) := impl_ArePins.l0 k l0 l0 (l0.length : Int) 0
instance impl_ArePins.lp0 {k : Nat} {r : Bool} {Q : Wr → Prop} {p0 : List (S39)} {p1 : List (S39)} {p2 : Int} {x7_1 : Int} : Lp (impl_ArePins.l0 k p0 p1 p2 x7_1 = some r) Q (fun k => ∀ {x7_1 : Int}, impl_ArePins.l0 k p0 p1 p2 x7_1 = some r → Q [(14, .p (.c (.v (.int .i64 x7_1))))]) k [(14, .p (.c (.v (.int .i64 x7_1))))] := ⟨fun j h => j h⟩
set_option maxRecDepth 8000 in
set_option maxHeartbeats 2000000 in
theorem impl_ArePins.con (k : Nat) (l0 : List (S39)) (r : Bool) (H : impl_ArePins.f k l0 = some r) : Con Try.prog 24 [.p (.c (.sl K39 l0))] (.p (.c (.v (.bool r)))) := by
  refine Con.mk' (fn := Try.f24) Try.func24 rfl (by kernel_rfl) rfl rfl rfl fun X w0 gs hF => ?_
  unfold impl_ArePins.f at H
  exact auto
instance impl_ArePins.ctr {k : Nat} {l0 : List (S39)} {r : Bool} : Ctr (impl_ArePins.f k l0 = some r) (Con Try.prog 24 [.p (.c (.sl K39 l0))] (.p (.c (.v (.bool r))))) := ⟨impl_ArePins.con _ _ _⟩
theorem impl_ArePins.calls (k : Nat) (A0 : Option Addr) (c0 : Nat) (l0 : List (S39)) (r : Bool) (w : World) (hr0 : Kd.C k39 w A0 l0.length l0) (hc0 : l0.length ≤ c0) (h : impl_ArePins.f k l0 = some r) :
    Calls Try.prog 24 #[.slice A0 l0.length c0] w fun e w' => e = .returned (.bool r) ∧ Below w.heap.size w w' :=
  (impl_ArePins.con k l0 r h).val rfl (show Args.relg (fun _ => False) w _ [.slice A0 l0.length c0] [.slice A0 l0.length c0] from ⟨_, _, rfl, ⟨rfl, A0, c0, rfl, hc0, row_of_C rfl (fun _ h => h) hr0⟩, rfl⟩)
/-! ### spec_l1In: function 55 -/
def spec_l1In.f (a0 : Int) (a1 : Int) (a2 : Int) : Option (Bool) := if a0 ≥ a1 then (some (decide (a0 ≤ a2))) else (some false)
set_option maxRecDepth 8000 in
set_option maxHeartbeats 2000000 in
theorem spec_l1In.con (a0 : Int) (a1 : Int) (a2 : Int) (r : Bool) (H : spec_l1In.f a0 a1 a2 = some r) : Con Try.prog 55 [.p (.c (.v (.int .i64 a0))), .p (.c (.v (.int .i64 a1))), .p (.c (.v (.int .i64 a2)))] (.p (.c (.v (.bool r)))) := by
  refine Con.mk' (fn := Try.f55) Try.func55 rfl (by kernel_rfl) rfl rfl rfl fun X w0 gs hF => ?_
  unfold spec_l1In.f at H
  exact auto
instance spec_l1In.ctr {a0 : Int} {a1 : Int} {a2 : Int} {r : Bool} : Ctr (spec_l1In.f a0 a1 a2 = some r) (Con Try.prog 55 [.p (.c (.v (.int .i64 a0))), .p (.c (.v (.int .i64 a1))), .p (.c (.v (.int .i64 a2)))] (.p (.c (.v (.bool r))))) := ⟨spec_l1In.con _ _ _ _⟩
/-! ### spec_cyShift: function 35 -/
def spec_cyShift.f (a0 : Int) : Option (Bool) := (spec_l1In.f a0 0 3).bind fun t147 => (some t147)
set_option maxRecDepth 8000 in
set_option maxHeartbeats 2000000 in
theorem spec_cyShift.con (a0 : Int) (r : Bool) (H : spec_cyShift.f a0 = some r) : Con Try.prog 35 [.p (.c (.v (.int .i64 a0)))] (.p (.c (.v (.bool r)))) := by
  refine Con.mk' (fn := Try.f35) Try.func35 rfl (by kernel_rfl) rfl rfl rfl fun X w0 gs hF => ?_
  unfold spec_cyShift.f at H
  exact auto
instance spec_cyShift.ctr {a0 : Int} {r : Bool} : Ctr (spec_cyShift.f a0 = some r) (Con Try.prog 35 [.p (.c (.v (.int .i64 a0)))] (.p (.c (.v (.bool r))))) := ⟨spec_cyShift.con _ _⟩
/-! ### spec_cyPin: function 44 -/
def spec_cyPin.f (a0_0 : Int) (a0_1 : Int) (a0_2 : Int) : Option (Bool) := (spec_l1In.f a0_0 0 19).bind fun t149 => (if t149 = true then ((spec_l1In.f a0_1 0 359).bind fun t150 => (if t150 = true then ((spec_cyShift.f a0_2).bind fun t151 => (some t151)) else (some false))) else (some false))
set_option maxRecDepth 8000 in
set_option maxHeartbeats 2000000 in
theorem spec_cyPin.con (a0_0 : Int) (a0_1 : Int) (a0_2 : Int) (r : Bool) (H : spec_cyPin.f a0_0 a0_1 a0_2 = some r) : Con Try.prog 44 [.p (.ag [.v (.int .i64 a0_0), .v (.int .i64 a0_1), .v (.int .i64 a0_2)])] (.p (.c (.v (.bool r)))) := by
  refine Con.mk' (fn := Try.f44) Try.func44 rfl (by kernel_rfl) rfl rfl rfl fun X w0 gs hF => ?_
  unfold spec_cyPin.f at H
  exact auto
instance spec_cyPin.ctr {a0_0 : Int} {a0_1 : Int} {a0_2 : Int} {r : Bool} : Ctr (spec_cyPin.f a0_0 a0_1 a0_2 = some r) (Con Try.prog 44 [.p (.ag [.v (.int .i64 a0_0), .v (.int .i64 a0_1), .v (.int .i64 a0_2)])] (.p (.c (.v (.bool r))))) := ⟨spec_cyPin.con _ _ _ _⟩
/-! ### spec_cyBefore: function 51 -/
def spec_cyBefore.f (a0_0 : Int) (a0_1 : Int) (a0_2 : Int) (a1_0 : Int) (a1_1 : Int) (a1_2 : Int) : Option (Bool) := if a0_2 = a1_2 then (if a0_1 = a1_1 then (some (decide (a0_0 < a1_0))) else (some (decide (a0_1 < a1_1)))) else (some (decide (a0_2 < a1_2)))
set_option maxRecDepth 8000 in
set_option maxHeartbeats 2000000 in
theorem spec_cyBefore.con (a0_0 : Int) (a0_1 : Int) (a0_2 : Int) (a1_0 : Int) (a1_1 : Int) (a1_2 : Int) (r : Bool) (H : spec_cyBefore.f a0_0 a0_1 a0_2 a1_0 a1_1 a1_2 = some r) : Con Try.prog 51 [.p (.ag [.v (.int .i64 a0_0), .v (.int .i64 a0_1), .v (.int .i64 a0_2)]), .p (.ag [.v (.int .i64 a1_0), .v (.int .i64 a1_1), .v (.int .i64 a1_2)])] (.p (.c (.v (.bool r)))) := by
  refine Con.mk' (fn := Try.f51) Try.func51 rfl (by kernel_rfl) rfl rfl rfl fun X w0 gs hF => ?_
  unfold spec_cyBefore.f at H
  exact auto
instance spec_cyBefore.ctr {a0_0 : Int} {a0_1 : Int} {a0_2 : Int} {a1_0 : Int} {a1_1 : Int} {a1_2 : Int} {r : Bool} : Ctr (spec_cyBefore.f a0_0 a0_1 a0_2 a1_0 a1_1 a1_2 = some r) (Con Try.prog 51 [.p (.ag [.v (.int .i64 a0_0), .v (.int .i64 a0_1), .v (.int .i64 a0_2)]), .p (.ag [.v (.int .i64 a1_0), .v (.int .i64 a1_1), .v (.int .i64 a1_2)])] (.p (.c (.v (.bool r))))) := ⟨spec_cyBefore.con _ _ _ _ _ _ _⟩
theorem spec_cyBefore.calls (a0_0 : Int) (a0_1 : Int) (a0_2 : Int) (a1_0 : Int) (a1_1 : Int) (a1_2 : Int) (r : Bool) (w : World) (h : spec_cyBefore.f a0_0 a0_1 a0_2 a1_0 a1_1 a1_2 = some r) :
    Calls Try.prog 51 #[.agg #[.int .i64 a0_0, .int .i64 a0_1, .int .i64 a0_2], .agg #[.int .i64 a1_0, .int .i64 a1_1, .int .i64 a1_2]] w fun e w' => e = .returned (.bool r) ∧ Below w.heap.size w w' :=
  (spec_cyBefore.con a0_0 a0_1 a0_2 a1_0 a1_1 a1_2 r h).val rfl (show Args.relg (fun _ => False) w _ [.agg #[.int .i64 a0_0, .int .i64 a0_1, .int .i64 a0_2], .agg #[.int .i64 a1_0, .int .i64 a1_1, .int .i64 a1_2]] [.int .i64 a0_0, .int .i64 a0_1, .int .i64 a0_2, .int .i64 a1_0, .int .i64 a1_1, .int .i64 a1_2] from ⟨_, _, rfl, ⟨rfl, rfl, rfl, ⟨rfl, rfl, ⟨rfl, rfl, trivial⟩⟩⟩, ⟨_, _, rfl, ⟨rfl, rfl, rfl, ⟨rfl, rfl, ⟨rfl, rfl, trivial⟩⟩⟩, rfl⟩⟩)
/-! ### spec_cyGood: function 26 -/
def spec_cyGood.l0 : Nat → List (S39) → List (S39) → Int → Int → Option (Bool)
  | 0, _, _, _, _ => none
  | k + 1, x0, x5, x6, x7 => if x7 < x6 then (if 0 ≤ x7 then (if x7 < (x5.length : Int) then ((spec_cyPin.f ((rd_T39 x5 x7).f0) ((rd_T39 x5 x7).f1) ((rd_T39 x5 x7).f2)).bind fun t156 => (if t156 = true then (if x7 > 0 then (if 0 ≤ (wrap64 (x7 - 1)) then (if (wrap64 (x7 - 1)) < (x0.length : Int) then ((spec_cyBefore.f ((rd_T39 x0 (wrap64 (x7 - 1))).f0) ((rd_T39 x0 (wrap64 (x7 - 1))).f1) ((rd_T39 x0 (wrap64 (x7 - 1))).f2) ((rd_T39 x5 x7).f0) ((rd_T39 x5 x7).f1) ((rd_T39 x5 x7).f2)).bind fun t158 => (if t158 = true then (spec_cyGood.l0 k x0 x5 x6 (wrap64 (x7 + 1))) else (some false))) else (none)) else (none)) else (spec_cyGood.l0 k x0 x5 x6 (wrap64 (x7 + 1)))) else (some false))) else (none)) else (none)) else (some (decide ((x0.length : Int) ≤ 60)))
def spec_cyGood.f (k : Nat) (l0 : List (S39)) : Option (Bool) := spec_cyGood.l0 k l0 l0 (l0.length : Int) 0
instance spec_cyGood.lp0 {k : Nat} {r : Bool} {Q : Wr → Prop} {p0 : List (S39)} {p1 : List (S39)} {p2 : Int} {x7_1 : Int} : Lp (spec_cyGood.l0 k p0 p1 p2 x7_1 = some r) Q (fun k => ∀ {x7_1 : Int}, spec_cyGood.l0 k p0 p1 p2 x7_1 = some r → Q [(14, .p (.c (.v (.int .i64 x7_1))))]) k [(14, .p (.c (.v (.int .i64 x7_1))))] := ⟨fun j h => j h⟩
set_option maxRecDepth 8000 in
set_option maxHeartbeats 2000000 in
theorem spec_cyGood.con (k : Nat) (l0 : List (S39)) (r : Bool) (H : spec_cyGood.f k l0 = some r) : Con Try.prog 26 [.p (.c (.sl K39 l0))] (.p (.c (.v (.bool r)))) := by
  refine Con.mk' (fn := Try.f26) Try.func26 rfl (by kernel_rfl) rfl rfl rfl fun X w0 gs hF => ?_
  unfold spec_cyGood.f at H
  exact auto
instance spec_cyGood.ctr {k : Nat} {l0 : List (S39)} {r : Bool} : Ctr (spec_cyGood.f k l0 = some r) (Con Try.prog 26 [.p (.c (.sl K39 l0))] (.p (.c (.v (.bool r))))) := ⟨spec_cyGood.con _ _ _⟩
theorem spec_cyGood.calls (k : Nat) (A0 : Option Addr) (c0 : Nat) (l0 : List (S39)) (r : Bool) (w : World) (hr0 : Kd.C k39 w A0 l0.length l0) (hc0 : l0.length ≤ c0) (h : spec_cyGood.f k l0 = some r) :
    Calls Try.prog 26 #[.slice A0 l0.length c0] w fun e w' => e = .returned (.bool r) ∧ Below w.heap.size w w' :=
  (spec_cyGood.con k l0 r h).val rfl (show Args.relg (fun _ => False) w _ [.slice A0 l0.length c0] [.slice A0 l0.length c0] from ⟨_, _, rfl, ⟨rfl, A0, c0, rfl, hc0, row_of_C rfl (fun _ h => h) hr0⟩, rfl⟩)
/-! ### impl_distance: function 50 -/
def impl_distance.f (a0 : Int) (a1 : Int) : Option (Int) := some (mx (wrap64 (a0 - a1)) (wrap64 (a1 - a0)))
set_option maxRecDepth 8000 in
set_option maxHeartbeats 2000000 in
theorem impl_distance.con (a0 : Int) (a1 : Int) (r : Int) (H : impl_distance.f a0 a1 = some r) : Con Try.prog 50 [.p (.c (.v (.int .i64 a0))), .p (.c (.v (.int .i64 a1)))] (.p (.c (.v (.int .i64 r)))) := by
  refine Con.mk' (fn := Try.f50) Try.func50 rfl (by kernel_rfl) rfl rfl rfl fun X w0 gs hF => ?_
  unfold impl_distance.f at H
  exact auto
instance impl_distance.ctr {a0 : Int} {a1 : Int} {r : Int} : Ctr (impl_distance.f a0 a1 = some r) (Con Try.prog 50 [.p (.c (.v (.int .i64 a0))), .p (.c (.v (.int .i64 a1)))] (.p (.c (.v (.int .i64 r))))) := ⟨impl_distance.con _ _ _⟩
/-! ### impl_pinDistance: function 25 -/
def impl_pinDistance.f (a0_0 : Int) (a0_1 : Int) (a0_2 : Int) (a1_0 : Int) (a1_1 : Int) (a1_2 : Int) : Option (Int) := (impl_distance.f (wrap64 ((wrap64 (4 * a0_0)) + a0_2)) (wrap64 ((wrap64 (4 * a1_0)) + a1_2))).bind fun t161 => (if t161 > 1 then (some 360) else ((impl_distance.f a0_1 a1_1).bind fun t162 => (some (mn t162 (wrap64 (360 - t162))))))
set_option maxRecDepth 8000 in
set_option maxHeartbeats 2000000 in
theorem impl_pinDistance.con (a0_0 : Int) (a0_1 : Int) (a0_2 : Int) (a1_0 : Int) (a1_1 : Int) (a1_2 : Int) (r : Int) (H : impl_pinDistance.f a0_0 a0_1 a0_2 a1_0 a1_1 a1_2 = some r) : Con Try.prog 25 [.p (.ag [.v (.int .i64 a0_0), .v (.int .i64 a0_1), .v (.int .i64 a0_2)]), .p (.ag [.v (.int .i64 a1_0), .v (.int .i64 a1_1), .v (.int .i64 a1_2)])] (.p (.c (.v (.int .i64 r)))) := by
  refine Con.mk' (fn := Try.f25) Try.func25 rfl (by kernel_rfl) rfl rfl rfl fun X w0 gs hF => ?_
  unfold impl_pinDistance.f at H
  exact auto
instance impl_pinDistance.ctr {a0_0 : Int} {a0_1 : Int} {a0_2 : Int} {a1_0 : Int} {a1_1 : Int} {a1_2 : Int} {r : Int} : Ctr (impl_pinDistance.f a0_0 a0_1 a0_2 a1_0 a1_1 a1_2 = some r) (Con Try.prog 25 [.p (.ag [.v (.int .i64 a0_0), .v (.int .i64 a0_1), .v (.int .i64 a0_2)]), .p (.ag [.v (.int .i64 a1_0), .v (.int .i64 a1_1), .v (.int .i64 a1_2)])] (.p (.c (.v (.int .i64 r))))) := ⟨impl_pinDistance.con _ _ _ _ _ _ _⟩
/-! ### impl_GreatestGap: function 6 -/
mutual
def impl_GreatestGap.l0 : Nat → List (S39) → Int → Int → Int → Option (Int × Bool)
  | 0, _, _, _, _ => none
  | k + 1, x0, x4, x11, x12 => if x12 < x11 then (impl_GreatestGap.l1 k x0 x4 x12 (wrap64 (x12 + 1)) x11 x12) else (some (x4, decide (x4 > 0)))
def impl_GreatestGap.l1 : Nat → List (S39) → Int → Int → Int → Int → Int → Option (Int × Bool)
  | 0, _, _, _, _, _, _ => none
  | k + 1, x0, x4, x5, x6, x11, x12 => if x6 < (x0.length : Int) then (if 0 ≤ x5 then (if x5 < (x0.length : Int) then (if 0 ≤ x6 then ((impl_pinDistance.f ((rd_T39 x0 x5).f0) ((rd_T39 x0 x5).f1) ((rd_T39 x0 x5).f2) ((rd_T39 x0 x6).f0) ((rd_T39 x0 x6).f1) ((rd_T39 x0 x6).f2)).bind fun t166 => (impl_GreatestGap.l1 k x0 (mn x4 t166) x5 (wrap64 (x6 + 1)) x11 x12)) else (none)) else (none)) else (none)) else (impl_GreatestGap.l0 k x0 x4 x11 (wrap64 (x12 + 1)))
end
def impl_GreatestGap.f (k : Nat) (l0 : List (S39)) : Option (Int × Bool) := (impl_ArePins.f k l0).bind fun t163 => (if t163 = true then (impl_GreatestGap.l0 k l0 180 (l0.length : Int) 0) else (some (0, false)))
instance impl_GreatestGap.lp0 {k : Nat} {r : Int × Bool} {Q : Wr → Prop} {p0 : List (S39)} {p2 : Int} {x4_1 : Int} {x12_1 : Int} : Lp (impl_GreatestGap.l0 k p0 x4_1 p2 x12_1 = some r) Q (fun k => ∀ {x4_1 : Int} {x12_1 : Int}, impl_GreatestGap.l0 k p0 x4_1 p2 x12_1 = some r → Q [(8, .p (.c (.v (.int .i64 x4_1)))), (24, .p (.c (.v (.int .i64 x12_1))))]) k [(8, .p (.c (.v (.int .i64 x4_1)))), (24, .p (.c (.v (.int .i64 x12_1))))] := ⟨fun j h => j h⟩
instance impl_GreatestGap.lp1 {k : Nat} {r : Int × Bool} {Q : Wr → Prop} {p0 : List (S39)} {p2 : Int} {p4 : Int} {p5 : Int} {x4_2 : Int} {x6_2 : Int} : Lp (impl_GreatestGap.l1 k p0 x4_2 p2 x6_2 p4 p5 = some r) Q (fun k => ∀ {x4_2 : Int} {x6_2 : Int}, impl_GreatestGap.l1 k p0 x4_2 p2 x6_2 p4 p5 = some r → Q [(8, .p (.c (.v (.int .i64 x4_2)))), (12, .p (.c (.v (.int .i64 x6_2))))]) k [(8, .p (.c (.v (.int .i64 x4_2)))), (12, .p (.c (.v (.int .i64 x6_2))))] := ⟨fun j h => j h⟩
set_option maxRecDepth 8000 in
set_option maxHeartbeats 2000000 in
theorem impl_GreatestGap.con (k : Nat) (l0 : List (S39)) (r1 : Int) (r2 : Bool) (H : impl_GreatestGap.f k l0 = some (r1, r2)) : Con Try.prog 6 [.p (.c (.sl K39 l0))] (.tp [.c (.v (.int .i64 r1)), .c (.v (.bool r2))]) := by
  refine Con.mk' (fn := Try.f6) Try.func6 rfl (by kernel_rfl) rfl rfl rfl fun X w0 gs hF => ?_
  unfold impl_GreatestGap.f at H
  exact auto
instance impl_GreatestGap.ctr {k : Nat} {l0 : List (S39)} {t_ : (Int) × (Bool)} : Ctr (impl_GreatestGap.f k l0 = some t_) (Con Try.prog 6 [.p (.c (.sl K39 l0))] (.tp [.c (.v (.int .i64 t_.1)), .c (.v (.bool t_.2))])) := ⟨fun h => impl_GreatestGap.con _ _ (t_.1) (t_.2) h⟩
/-! ### spec_l1Most: function 67 -/
def spec_l1Most.f (a0 : Int) (a1 : Int) : Option (Int) := if a0 > a1 then (some a0) else (some a1)
set_option maxRecDepth 8000 in
set_option maxHeartbeats 2000000 in
theorem spec_l1Most.con (a0 : Int) (a1 : Int) (r : Int) (H : spec_l1Most.f a0 a1 = some r) : Con Try.prog 67 [.p (.c (.v (.int .i64 a0))), .p (.c (.v (.int .i64 a1)))] (.p (.c (.v (.int .i64 r)))) := by
  refine Con.mk' (fn := Try.f67) Try.func67 rfl (by kernel_rfl) rfl rfl rfl fun X w0 gs hF => ?_
  unfold spec_l1Most.f at H
  exact auto
instance spec_l1Most.ctr {a0 : Int} {a1 : Int} {r : Int} : Ctr (spec_l1Most.f a0 a1 = some r) (Con Try.prog 67 [.p (.c (.v (.int .i64 a0))), .p (.c (.v (.int .i64 a1)))] (.p (.c (.v (.int .i64 r))))) := ⟨spec_l1Most.con _ _ _⟩
end Go.Proofs.Ythgemodkebahoaa.A
