/- BY EV: what the Go functions compute (read off the print), and that their calls come to it. No condition. -/
import Derived.Test.YthgemodkebahoaaAEU
set_option linter.unusedVariables false
set_option linter.unusedSimpArgs false
namespace Go.Proofs.Ythgemodkebahoaa.A
open Go.RowKit Go.Proofs Go.Proofs.YthgemodkebahoaaW.PrintWords Go.Proofs.YthgemodkebahoaaW.PrintLast EV
/-! ### laws_big: function 4 -/
def laws_big.f (l0 : List Int) (l1 : List Int) : Option (Bool) := if (l0.length : Int) > 1048576 then (some true) else (some (decide ((l1.length : Int) > (wrap64 (1048576 - (l0.length : Int))))))
def IsS53 (w0 W : World) (g : Nat) (f0 : List Int) (f1 : Int) (f2 : Int) : Prop := ∃ A0 c0, W.heap[g]? = some (.cells #[.slice A0 f0.length c0, .int .i64 f1, .int .u64 f2] 53 (0, 0)) ∧ w0.heap.size ≤ g ∧ Kd.C (Kd.int .u8) w0 A0 f0.length f0
set_option maxRecDepth 8000 in
set_option maxHeartbeats 2000000 in
theorem laws_big.con (l0 : List Int) (l1 : List Int) (r : Bool) (H : laws_big.f l0 l1 = some r) : Con Try.prog 4 [.p (.c (.sl (.int .u8) l0)), .p (.c (.sl (.int .u8) l1))] (.p (.c (.v (.bool r)))) := by
  refine Con.mk' (fn := Try.f4) Try.func4 rfl (by kernel_rfl) rfl rfl rfl fun X w0 gs hF => ?_
  unfold laws_big.f at H
  exact auto
instance laws_big.ctr {l0 : List Int} {l1 : List Int} {r : Bool} : Ctr (laws_big.f l0 l1 = some r) (Con Try.prog 4 [.p (.c (.sl (.int .u8) l0)), .p (.c (.sl (.int .u8) l1))] (.p (.c (.v (.bool r))))) := ⟨laws_big.con _ _ _⟩
/-! ### spec_l1Cur_next: function 62 -/
def spec_l1Cur_next.f (s0_0 : List Int) (s0_1 : Int) (s0_2 : Int) : Option (Int × Int × Int) := if s0_1 < (s0_0.length : Int) then (if 0 ≤ s0_1 then (if (wrap64 (s0_1 + 1)) ≤ (s0_0.length : Int) then (some (wrap64 (rd s0_0 s0_1), wrap64 (s0_1 + 1), IntKind.u64.wrap ((IntKind.u64.wrap ((IntKind.u64.wrap (s0_2 * 6364136223846793005)) + (IntKind.u64.wrap (wrap64 (rd s0_0 s0_1))))) + 1442695040888963407))) else (some (wrap64 (Go.bits .and .u64 ((IntKind.u64.wrap ((IntKind.u64.wrap ((IntKind.u64.wrap (s0_2 * 6364136223846793005)) + (IntKind.u64.wrap (wrap64 (rd s0_0 s0_1))))) + 1442695040888963407)) / 1099511627776) 255), wrap64 (s0_1 + 1), IntKind.u64.wrap ((IntKind.u64.wrap ((IntKind.u64.wrap (s0_2 * 6364136223846793005)) + (IntKind.u64.wrap (wrap64 (rd s0_0 s0_1))))) + 1442695040888963407)))) else (none)) else (if (wrap64 (s0_1 + 1)) ≤ (s0_0.length : Int) then (some (0, wrap64 (s0_1 + 1), IntKind.u64.wrap ((IntKind.u64.wrap ((IntKind.u64.wrap (s0_2 * 6364136223846793005)) + 0)) + 1442695040888963407))) else (some (wrap64 (Go.bits .and .u64 ((IntKind.u64.wrap ((IntKind.u64.wrap ((IntKind.u64.wrap (s0_2 * 6364136223846793005)) + 0)) + 1442695040888963407)) / 1099511627776) 255), wrap64 (s0_1 + 1), IntKind.u64.wrap ((IntKind.u64.wrap ((IntKind.u64.wrap (s0_2 * 6364136223846793005)) + 0)) + 1442695040888963407))))
set_option maxRecDepth 8000 in
set_option maxHeartbeats 2000000 in
theorem spec_l1Cur_next.con (s0_0 : List Int) (s0_1 : Int) (s0_2 : Int) (r1 : Int) (r2 : Int) (r3 : Int) (H : spec_l1Cur_next.f s0_0 s0_1 s0_2 = some (r1, r2, r3)) : Con Try.prog 62 [.p (.ob 53 [.sl (.int .u8) s0_0, .v (.int .i64 s0_1), .v (.int .u64 s0_2)])] (.p (.c (.v (.int .i64 r1)))) [(0, .ob 53 [.sl (.int .u8) s0_0, .v (.int .i64 r2), .v (.int .u64 r3)])] := by
  refine Con.mk' (fn := Try.f62) Try.func62 rfl (by kernel_rfl) rfl rfl rfl fun X w0 gs hF => ?_
  unfold spec_l1Cur_next.f at H
  exact auto
instance spec_l1Cur_next.ctr {s0_0 : List Int} {s0_1 : Int} {s0_2 : Int} {t_ : (Int) × (Int) × (Int)} : Ctr (spec_l1Cur_next.f s0_0 s0_1 s0_2 = some t_) (Con Try.prog 62 [.p (.ob 53 [.sl (.int .u8) s0_0, .v (.int .i64 s0_1), .v (.int .u64 s0_2)])] (.p (.c (.v (.int .i64 t_.1)))) [(0, .ob 53 [.sl (.int .u8) s0_0, .v (.int .i64 t_.2.1), .v (.int .u64 t_.2.2)])]) := ⟨fun h => spec_l1Cur_next.con _ _ _ (t_.1) (t_.2.1) (t_.2.2) h⟩
/-! ### spec_l1Cur_pick: function 53 -/
def spec_l1Cur_pick.f (s0_0 : List Int) (s0_1 : Int) (s0_2 : Int) (a1 : Int) : Option (Int × Int × Int) := if a1 ≤ 1 then (some (0, s0_1, s0_2)) else ((spec_l1Cur_next.f s0_0 s0_1 s0_2).bind fun bt102 => (if a1 > 200 then ((spec_l1Cur_next.f s0_0 bt102.2.1 bt102.2.2).bind fun bt105 => (if a1 = 0 then (none) else (some (Int.tmod (wrap64 ((wrap64 (bt102.1 * 256)) + bt105.1)) a1, bt105.2.1, bt105.2.2)))) else (if a1 = 0 then (none) else (some (Int.tmod bt102.1 a1, bt102.2.1, bt102.2.2)))))
set_option maxRecDepth 8000 in
set_option maxHeartbeats 2000000 in
theorem spec_l1Cur_pick.con (s0_0 : List Int) (s0_1 : Int) (s0_2 : Int) (a1 : Int) (r1 : Int) (r2 : Int) (r3 : Int) (H : spec_l1Cur_pick.f s0_0 s0_1 s0_2 a1 = some (r1, r2, r3)) : Con Try.prog 53 [.p (.ob 53 [.sl (.int .u8) s0_0, .v (.int .i64 s0_1), .v (.int .u64 s0_2)]), .p (.c (.v (.int .i64 a1)))] (.p (.c (.v (.int .i64 r1)))) [(0, .ob 53 [.sl (.int .u8) s0_0, .v (.int .i64 r2), .v (.int .u64 r3)])] := by
  refine Con.mk' (fn := Try.f53) Try.func53 rfl (by kernel_rfl) rfl rfl rfl fun X w0 gs hF => ?_
  unfold spec_l1Cur_pick.f at H
  exact auto
instance spec_l1Cur_pick.ctr {s0_0 : List Int} {s0_1 : Int} {s0_2 : Int} {a1 : Int} {t_ : (Int) × (Int) × (Int)} : Ctr (spec_l1Cur_pick.f s0_0 s0_1 s0_2 a1 = some t_) (Con Try.prog 53 [.p (.ob 53 [.sl (.int .u8) s0_0, .v (.int .i64 s0_1), .v (.int .u64 s0_2)]), .p (.c (.v (.int .i64 a1)))] (.p (.c (.v (.int .i64 t_.1)))) [(0, .ob 53 [.sl (.int .u8) s0_0, .v (.int .i64 t_.2.1), .v (.int .u64 t_.2.2)])]) := ⟨fun h => spec_l1Cur_pick.con _ _ _ _ (t_.1) (t_.2.1) (t_.2.2) h⟩
/-! ### spec_l1Cur_one: function 39 -/
def spec_l1Cur_one.f (s0_0 : List Int) (s0_1 : Int) (s0_2 : Int) (a1 : Int) : Option (Bool × Int × Int) := (spec_l1Cur_pick.f s0_0 s0_1 s0_2 a1).bind fun bt108 => (some ((bt108.1 == 0), bt108.2.1, bt108.2.2))
set_option maxRecDepth 8000 in
set_option maxHeartbeats 2000000 in
theorem spec_l1Cur_one.con (s0_0 : List Int) (s0_1 : Int) (s0_2 : Int) (a1 : Int) (r1 : Bool) (r2 : Int) (r3 : Int) (H : spec_l1Cur_one.f s0_0 s0_1 s0_2 a1 = some (r1, r2, r3)) : Con Try.prog 39 [.p (.ob 53 [.sl (.int .u8) s0_0, .v (.int .i64 s0_1), .v (.int .u64 s0_2)]), .p (.c (.v (.int .i64 a1)))] (.p (.c (.v (.bool r1)))) [(0, .ob 53 [.sl (.int .u8) s0_0, .v (.int .i64 r2), .v (.int .u64 r3)])] := by
  refine Con.mk' (fn := Try.f39) Try.func39 rfl (by kernel_rfl) rfl rfl rfl fun X w0 gs hF => ?_
  unfold spec_l1Cur_one.f at H
  exact auto
instance spec_l1Cur_one.ctr {s0_0 : List Int} {s0_1 : Int} {s0_2 : Int} {a1 : Int} {t_ : (Bool) × (Int) × (Int)} : Ctr (spec_l1Cur_one.f s0_0 s0_1 s0_2 a1 = some t_) (Con Try.prog 39 [.p (.ob 53 [.sl (.int .u8) s0_0, .v (.int .i64 s0_1), .v (.int .u64 s0_2)]), .p (.c (.v (.int .i64 a1)))] (.p (.c (.v (.bool t_.1)))) [(0, .ob 53 [.sl (.int .u8) s0_0, .v (.int .i64 t_.2.1), .v (.int .u64 t_.2.2)])]) := ⟨fun h => spec_l1Cur_one.con _ _ _ _ (t_.1) (t_.2.1) (t_.2.2) h⟩
/-! ### spec_l1Cur_among: function 54 -/
def spec_l1Cur_among.f (s0_0 : List Int) (s0_1 : Int) (s0_2 : Int) (l1 : List Int) : Option (Int × Int × Int) := (spec_l1Cur_pick.f s0_0 s0_1 s0_2 (l1.length : Int)).bind fun bt111 => (if 0 ≤ bt111.1 then (if bt111.1 < (l1.length : Int) then (some (rd l1 bt111.1, bt111.2.1, bt111.2.2)) else (none)) else (none))
set_option maxRecDepth 8000 in
set_option maxHeartbeats 2000000 in
theorem spec_l1Cur_among.con (s0_0 : List Int) (s0_1 : Int) (s0_2 : Int) (l1 : List Int) (r1 : Int) (r2 : Int) (r3 : Int) (H : spec_l1Cur_among.f s0_0 s0_1 s0_2 l1 = some (r1, r2, r3)) : Con Try.prog 54 [.p (.ob 53 [.sl (.int .u8) s0_0, .v (.int .i64 s0_1), .v (.int .u64 s0_2)]), .p (.c (.sl (.int .i64) l1))] (.p (.c (.v (.int .i64 r1)))) [(0, .ob 53 [.sl (.int .u8) s0_0, .v (.int .i64 r2), .v (.int .u64 r3)])] := by
  refine Con.mk' (fn := Try.f54) Try.func54 rfl (by kernel_rfl) rfl rfl rfl fun X w0 gs hF => ?_
  unfold spec_l1Cur_among.f at H
  exact auto
instance spec_l1Cur_among.ctr {s0_0 : List Int} {s0_1 : Int} {s0_2 : Int} {l1 : List Int} {t_ : (Int) × (Int) × (Int)} : Ctr (spec_l1Cur_among.f s0_0 s0_1 s0_2 l1 = some t_) (Con Try.prog 54 [.p (.ob 53 [.sl (.int .u8) s0_0, .v (.int .i64 s0_1), .v (.int .u64 s0_2)]), .p (.c (.sl (.int .i64) l1))] (.p (.c (.v (.int .i64 t_.1)))) [(0, .ob 53 [.sl (.int .u8) s0_0, .v (.int .i64 t_.2.1), .v (.int .u64 t_.2.2)])]) := ⟨fun h => spec_l1Cur_among.con _ _ _ _ (t_.1) (t_.2.1) (t_.2.2) h⟩
/-! ### spec_l1Cur_pin: function 38 -/
def spec_l1Cur_pin.f (s0_0 : List Int) (s0_1 : Int) (s0_2 : Int) : Option (Int × Int × Int × Int × Int) := (spec_l1Cur_pick.f s0_0 s0_1 s0_2 20).bind fun bt116 => ((spec_l1Cur_among.f s0_0 bt116.2.1 bt116.2.2 (([0, 1, 1, 2, bt116.1] : List Int))).bind fun bt122 => ((spec_l1Cur_pick.f s0_0 bt122.2.1 bt122.2.2 360).bind fun bt125 => ((spec_l1Cur_among.f s0_0 bt125.2.1 bt125.2.2 (([0, 10, 90, 359, bt125.1] : List Int))).bind fun bt131 => ((spec_l1Cur_pick.f s0_0 bt131.2.1 bt131.2.2 4).bind fun bt134 => (some (bt122.1, bt131.1, bt134.1, bt134.2.1, bt134.2.2))))))
set_option maxRecDepth 8000 in
set_option maxHeartbeats 2000000 in
theorem spec_l1Cur_pin.con (s0_0 : List Int) (s0_1 : Int) (s0_2 : Int) (r1 : Int) (r2 : Int) (r3 : Int) (r4 : Int) (r5 : Int) (H : spec_l1Cur_pin.f s0_0 s0_1 s0_2 = some (r1, r2, r3, r4, r5)) : Con Try.prog 38 [.p (.ob 53 [.sl (.int .u8) s0_0, .v (.int .i64 s0_1), .v (.int .u64 s0_2)])] (.p (.ag [.v (.int .i64 r1), .v (.int .i64 r2), .v (.int .i64 r3)])) [(0, .ob 53 [.sl (.int .u8) s0_0, .v (.int .i64 r4), .v (.int .u64 r5)])] := by
  refine Con.mk' (fn := Try.f38) Try.func38 rfl (by kernel_rfl) rfl rfl rfl fun X w0 gs hF => ?_
  unfold spec_l1Cur_pin.f at H
  exact auto
instance spec_l1Cur_pin.ctr {s0_0 : List Int} {s0_1 : Int} {s0_2 : Int} {t_ : (Int) × (Int) × (Int) × (Int) × (Int)} : Ctr (spec_l1Cur_pin.f s0_0 s0_1 s0_2 = some t_) (Con Try.prog 38 [.p (.ob 53 [.sl (.int .u8) s0_0, .v (.int .i64 s0_1), .v (.int .u64 s0_2)])] (.p (.ag [.v (.int .i64 t_.1), .v (.int .i64 t_.2.1), .v (.int .i64 t_.2.2.1)])) [(0, .ob 53 [.sl (.int .u8) s0_0, .v (.int .i64 t_.2.2.2.1), .v (.int .u64 t_.2.2.2.2)])]) := ⟨fun h => spec_l1Cur_pin.con _ _ _ (t_.1) (t_.2.1) (t_.2.2.1) (t_.2.2.2.1) (t_.2.2.2.2) h⟩
/-! ### impl_isShift: function 33 -/
def impl_isShift.f (a0 : Int) : Option (Bool) := if a0 ≥ 0 then (some (decide (a0 < 4))) else (some false)
set_option maxRecDepth 8000 in
set_option maxHeartbeats 2000000 in
theorem impl_isShift.con (a0 : Int) (r : Bool) (H : impl_isShift.f a0 = some r) : Con Try.prog 33 [.p (.c (.v (.int .i64 a0)))] (.p (.c (.v (.bool r)))) := by
  refine Con.mk' (fn := Try.f33) Try.func33 rfl (by kernel_rfl) rfl rfl rfl fun X w0 gs hF => ?_
  unfold impl_isShift.f at H
  exact auto
instance impl_isShift.ctr {a0 : Int} {r : Bool} : Ctr (impl_isShift.f a0 = some r) (Con Try.prog 33 [.p (.c (.v (.int .i64 a0)))] (.p (.c (.v (.bool r))))) := ⟨impl_isShift.con _ _⟩
/-! ### impl_isTrack: function 56 -/
def impl_isTrack.f (a0 : Int) : Option (Bool) := if a0 ≥ 0 then (some (decide (a0 < 20))) else (some false)
set_option maxRecDepth 8000 in
set_option maxHeartbeats 2000000 in
theorem impl_isTrack.con (a0 : Int) (r : Bool) (H : impl_isTrack.f a0 = some r) : Con Try.prog 56 [.p (.c (.v (.int .i64 a0)))] (.p (.c (.v (.bool r)))) := by
  refine Con.mk' (fn := Try.f56) Try.func56 rfl (by kernel_rfl) rfl rfl rfl fun X w0 gs hF => ?_
  unfold impl_isTrack.f at H
  exact auto
instance impl_isTrack.ctr {a0 : Int} {r : Bool} : Ctr (impl_isTrack.f a0 = some r) (Con Try.prog 56 [.p (.c (.v (.int .i64 a0)))] (.p (.c (.v (.bool r))))) := ⟨impl_isTrack.con _ _⟩
/-! ### impl_isPin: function 41 -/
def impl_isPin.f (a0_0 : Int) (a0_1 : Int) (a0_2 : Int) : Option (Bool) := (impl_isTrack.f a0_0).bind fun t138 => (if t138 = true then (if a0_1 ≥ 0 then (if a0_1 < 360 then ((impl_isShift.f a0_2).bind fun t139 => (some t139)) else (some false)) else (some false)) else (some false))
set_option maxRecDepth 8000 in
set_option maxHeartbeats 2000000 in
theorem impl_isPin.con (a0_0 : Int) (a0_1 : Int) (a0_2 : Int) (r : Bool) (H : impl_isPin.f a0_0 a0_1 a0_2 = some r) : Con Try.prog 41 [.p (.ag [.v (.int .i64 a0_0), .v (.int .i64 a0_1), .v (.int .i64 a0_2)])] (.p (.c (.v (.bool r)))) := by
  refine Con.mk' (fn := Try.f41) Try.func41 rfl (by kernel_rfl) rfl rfl rfl fun X w0 gs hF => ?_
  unfold impl_isPin.f at H
  exact auto
instance impl_isPin.ctr {a0_0 : Int} {a0_1 : Int} {a0_2 : Int} {r : Bool} : Ctr (impl_isPin.f a0_0 a0_1 a0_2 = some r) (Con Try.prog 41 [.p (.ag [.v (.int .i64 a0_0), .v (.int .i64 a0_1), .v (.int .i64 a0_2)])] (.p (.c (.v (.bool r))))) := ⟨impl_isPin.con _ _ _ _⟩
/-! ### impl_pinLess: function 49 -/
def impl_pinLess.f (a0_0 : Int) (a0_1 : Int) (a0_2 : Int) (a1_0 : Int) (a1_1 : Int) (a1_2 : Int) : Option (Bool) := if a0_2 = a1_2 then (if a0_1 = a1_1 then (some (decide (a0_0 < a1_0))) else (some (decide (a0_1 < a1_1)))) else (some (decide (a0_2 < a1_2)))
set_option maxRecDepth 8000 in
set_option maxHeartbeats 2000000 in
theorem impl_pinLess.con (a0_0 : Int) (a0_1 : Int) (a0_2 : Int) (a1_0 : Int) (a1_1 : Int) (a1_2 : Int) (r : Bool) (H : impl_pinLess.f a0_0 a0_1 a0_2 a1_0 a1_1 a1_2 = some r) : Con Try.prog 49 [.p (.ag [.v (.int .i64 a0_0), .v (.int .i64 a0_1), .v (.int .i64 a0_2)]), .p (.ag [.v (.int .i64 a1_0), .v (.int .i64 a1_1), .v (.int .i64 a1_2)])] (.p (.c (.v (.bool r)))) := by
  refine Con.mk' (fn := Try.f49) Try.func49 rfl (by kernel_rfl) rfl rfl rfl fun X w0 gs hF => ?_
  unfold impl_pinLess.f at H
  exact auto
instance impl_pinLess.ctr {a0_0 : Int} {a0_1 : Int} {a0_2 : Int} {a1_0 : Int} {a1_1 : Int} {a1_2 : Int} {r : Bool} : Ctr (impl_pinLess.f a0_0 a0_1 a0_2 a1_0 a1_1 a1_2 = some r) (Con Try.prog 49 [.p (.ag [.v (.int .i64 a0_0), .v (.int .i64 a0_1), .v (.int .i64 a0_2)]), .p (.ag [.v (.int .i64 a1_0), .v (.int .i64 a1_1), .v (.int .i64 a1_2)])] (.p (.c (.v (.bool r))))) := ⟨impl_pinLess.con _ _ _ _ _ _ _⟩
theorem impl_pinLess.calls (a0_0 : Int) (a0_1 : Int) (a0_2 : Int) (a1_0 : Int) (a1_1 : Int) (a1_2 : Int) (r : Bool) (w : World) (h : impl_pinLess.f a0_0 a0_1 a0_2 a1_0 a1_1 a1_2 = some r) :
    Calls Try.prog 49 #[.agg #[.int .i64 a0_0, .int .i64 a0_1, .int .i64 a0_2], .agg #[.int .i64 a1_0, .int .i64 a1_1, .int .i64 a1_2]] w fun e w' => e = .returned (.bool r) ∧ Below w.heap.size w w' :=
  (impl_pinLess.con a0_0 a0_1 a0_2 a1_0 a1_1 a1_2 r h).val rfl (show Args.relg (fun _ => False) w _ [.agg #[.int .i64 a0_0, .int .i64 a0_1, .int .i64 a0_2], .agg #[.int .i64 a1_0, .int .i64 a1_1, .int .i64 a1_2]] [.int .i64 a0_0, .int .i64 a0_1, .int .i64 a0_2, .int .i64 a1_0, .int .i64 a1_1, .int .i64 a1_2] from ⟨_, _, rfl, ⟨rfl, rfl, rfl, ⟨rfl, rfl, ⟨rfl, rfl, trivial⟩⟩⟩, ⟨_, _, rfl, ⟨rfl, rfl, rfl, ⟨rfl, rfl, ⟨rfl, rfl, trivial⟩⟩⟩, rfl⟩⟩)
end Go.Proofs.Ythgemodkebahoaa.A
