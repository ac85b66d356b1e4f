/- BY EV: what the Go functions compute (read off the print), and that their calls come to it. No condition. -/
import Derived.Test.YthgemodkebahoaaAEU
import Derived.Test.YthgemodkebahoaaA2
import Derived.Test.YthgemodkebahoaaA3
import Derived.Test.YthgemodkebahoaaA4
set_option linter.unusedVariables false
set_option linter.unusedSimpArgs false
namespace Go.Proofs.Ythgemodkebahoaa.A
open Go.RowKit Go.Proofs Go.Proofs.YthgemodkebahoaaW.PrintWords Go.Proofs.YthgemodkebahoaaW.PrintLast EV
/-! ### spec_l1Cur_shiftOf: function 31 -/
def spec_l1Cur_shiftOf.f (s0_0 : List Int) (s0_1 : Int) (s0_2 : Int) : Option (Int × Int × Int) := (spec_l1Cur_among.f s0_0 s0_1 s0_2 (([4, (-1)] : List Int))).bind fun bt214 => ((spec_l1Cur_among.f s0_0 bt214.2.1 bt214.2.2 (([0, 1, 2, 3, 0, 1, bt214.1] : List Int))).bind fun bt220 => (some (bt220.1, bt220.2.1, bt220.2.2)))
set_option maxRecDepth 8000 in
set_option maxHeartbeats 2000000 in
theorem spec_l1Cur_shiftOf.con (s0_0 : List Int) (s0_1 : Int) (s0_2 : Int) (r1 : Int) (r2 : Int) (r3 : Int) (H : spec_l1Cur_shiftOf.f s0_0 s0_1 s0_2 = some (r1, r2, r3)) : Con Try.prog 31 [.p (.ob 53 [.sl (.int .u8) s0_0, .v (.int .i64 s0_1), .v (.int .u64 s0_2)])] (.p (.c (.v (.int .i64 r1)))) [(0, .ob 53 [.sl (.int .u8) s0_0, .v (.int .i64 r2), .v (.int .u64 r3)])] := by
  refine Con.mk' (fn := Try.f31) Try.func31 rfl (by kernel_rfl) rfl rfl rfl fun X w0 gs hF => ?_
  unfold spec_l1Cur_shiftOf.f at H
  exact auto
instance spec_l1Cur_shiftOf.ctr {s0_0 : List Int} {s0_1 : Int} {s0_2 : Int} {t_ : (Int) × (Int) × (Int)} : Ctr (spec_l1Cur_shiftOf.f s0_0 s0_1 s0_2 = some t_) (Con Try.prog 31 [.p (.ob 53 [.sl (.int .u8) s0_0, .v (.int .i64 s0_1), .v (.int .u64 s0_2)])] (.p (.c (.v (.int .i64 t_.1)))) [(0, .ob 53 [.sl (.int .u8) s0_0, .v (.int .i64 t_.2.1), .v (.int .u64 t_.2.2)])]) := ⟨fun h => spec_l1Cur_shiftOf.con _ _ _ (t_.1) (t_.2.1) (t_.2.2) h⟩
/-! ### spec_l1Cur_gapOf: function 32 -/
def spec_l1Cur_gapOf.f (s0_0 : List Int) (s0_1 : Int) (s0_2 : Int) : Option (Int × Int × Int) := (spec_l1Cur_among.f s0_0 s0_1 s0_2 (([0, 181] : List Int))).bind fun bt226 => ((spec_l1Cur_among.f s0_0 bt226.2.1 bt226.2.2 (([1, 2, 5, 10, 30, 180, bt226.1] : List Int))).bind fun bt232 => (some (bt232.1, bt232.2.1, bt232.2.2)))
set_option maxRecDepth 8000 in
set_option maxHeartbeats 2000000 in
theorem spec_l1Cur_gapOf.con (s0_0 : List Int) (s0_1 : Int) (s0_2 : Int) (r1 : Int) (r2 : Int) (r3 : Int) (H : spec_l1Cur_gapOf.f s0_0 s0_1 s0_2 = some (r1, r2, r3)) : Con Try.prog 32 [.p (.ob 53 [.sl (.int .u8) s0_0, .v (.int .i64 s0_1), .v (.int .u64 s0_2)])] (.p (.c (.v (.int .i64 r1)))) [(0, .ob 53 [.sl (.int .u8) s0_0, .v (.int .i64 r2), .v (.int .u64 r3)])] := by
  refine Con.mk' (fn := Try.f32) Try.func32 rfl (by kernel_rfl) rfl rfl rfl fun X w0 gs hF => ?_
  unfold spec_l1Cur_gapOf.f at H
  exact auto
instance spec_l1Cur_gapOf.ctr {s0_0 : List Int} {s0_1 : Int} {s0_2 : Int} {t_ : (Int) × (Int) × (Int)} : Ctr (spec_l1Cur_gapOf.f s0_0 s0_1 s0_2 = some t_) (Con Try.prog 32 [.p (.ob 53 [.sl (.int .u8) s0_0, .v (.int .i64 s0_1), .v (.int .u64 s0_2)])] (.p (.c (.v (.int .i64 t_.1)))) [(0, .ob 53 [.sl (.int .u8) s0_0, .v (.int .i64 t_.2.1), .v (.int .u64 t_.2.2)])]) := ⟨fun h => spec_l1Cur_gapOf.con _ _ _ (t_.1) (t_.2.1) (t_.2.2) h⟩
/-! ### spec_cyGap: function 36 -/
def spec_cyGap.f (a0 : Int) : Option (Bool) := (spec_l1In.f a0 1 180).bind fun t255 => (some t255)
set_option maxRecDepth 8000 in
set_option maxHeartbeats 2000000 in
theorem spec_cyGap.con (a0 : Int) (r : Bool) (H : spec_cyGap.f a0 = some r) : Con Try.prog 36 [.p (.c (.v (.int .i64 a0)))] (.p (.c (.v (.bool r)))) := by
  refine Con.mk' (fn := Try.f36) Try.func36 rfl (by kernel_rfl) rfl rfl rfl fun X w0 gs hF => ?_
  unfold spec_cyGap.f at H
  exact auto
instance spec_cyGap.ctr {a0 : Int} {r : Bool} : Ctr (spec_cyGap.f a0 = some r) (Con Try.prog 36 [.p (.c (.v (.int .i64 a0)))] (.p (.c (.v (.bool r))))) := ⟨spec_cyGap.con _ _⟩
/-! ### spec_NearPins: function 14 -/
def spec_NearPins.f (k : Nat) (l0 : List (S39)) (a1 : Int) : Option ((List (List Int)) × Bool) := (spec_cyGood.f k l0).bind fun t283 => (if t283 = true then ((spec_cyGap.f a1).bind fun t284 => (if t284 = true then ((spec_cyPairs.f k l0 a1).bind fun t285 => (some (t285, true))) else (some (([] : List (List Int)), false)))) else (some (([] : List (List Int)), false)))
set_option maxRecDepth 8000 in
set_option maxHeartbeats 2000000 in
theorem spec_NearPins.con (k : Nat) (l0 : List (S39)) (a1 : Int) (r1 : List (List Int)) (r2 : Bool) (H : spec_NearPins.f k l0 a1 = some (r1, r2)) : Con Try.prog 14 [.p (.c (.sl K39 l0)), .p (.c (.v (.int .i64 a1)))] (.tp [.c (.ow 63 KL3 r1), .c (.v (.bool r2))]) := by
  refine Con.mk' (fn := Try.f14) Try.func14 rfl (by kernel_rfl) rfl rfl rfl fun X w0 gs hF => ?_
  unfold spec_NearPins.f at H
  exact auto
instance spec_NearPins.ctr {k : Nat} {l0 : List (S39)} {a1 : Int} {t_ : (List (List Int)) × (Bool)} : Ctr (spec_NearPins.f k l0 a1 = some t_) (Con Try.prog 14 [.p (.c (.sl K39 l0)), .p (.c (.v (.int .i64 a1)))] (.tp [.c (.ow 63 KL3 t_.1), .c (.v (.bool t_.2))])) := ⟨fun h => spec_NearPins.con _ _ _ (t_.1) (t_.2) h⟩
/-! ### spec_l1Cur_angleOf: function 40 -/
def spec_l1Cur_angleOf.f (s0_0 : List Int) (s0_1 : Int) (s0_2 : Int) : Option (Int × Int × Int) := (spec_l1Cur_pick.f s0_0 s0_1 s0_2 360).bind fun bt288 => ((spec_l1Cur_among.f s0_0 bt288.2.1 bt288.2.2 (([360, (-1)] : List Int))).bind fun bt294 => ((spec_l1Cur_among.f s0_0 bt294.2.1 bt294.2.2 (([0, 1, 10, 90, bt288.1, 359, bt294.1] : List Int))).bind fun bt300 => (some (bt300.1, bt300.2.1, bt300.2.2))))
set_option maxRecDepth 8000 in
set_option maxHeartbeats 2000000 in
theorem spec_l1Cur_angleOf.con (s0_0 : List Int) (s0_1 : Int) (s0_2 : Int) (r1 : Int) (r2 : Int) (r3 : Int) (H : spec_l1Cur_angleOf.f s0_0 s0_1 s0_2 = some (r1, r2, r3)) : Con Try.prog 40 [.p (.ob 53 [.sl (.int .u8) s0_0, .v (.int .i64 s0_1), .v (.int .u64 s0_2)])] (.p (.c (.v (.int .i64 r1)))) [(0, .ob 53 [.sl (.int .u8) s0_0, .v (.int .i64 r2), .v (.int .u64 r3)])] := by
  refine Con.mk' (fn := Try.f40) Try.func40 rfl (by kernel_rfl) rfl rfl rfl fun X w0 gs hF => ?_
  unfold spec_l1Cur_angleOf.f at H
  exact auto
instance spec_l1Cur_angleOf.ctr {s0_0 : List Int} {s0_1 : Int} {s0_2 : Int} {t_ : (Int) × (Int) × (Int)} : Ctr (spec_l1Cur_angleOf.f s0_0 s0_1 s0_2 = some t_) (Con Try.prog 40 [.p (.ob 53 [.sl (.int .u8) s0_0, .v (.int .i64 s0_1), .v (.int .u64 s0_2)])] (.p (.c (.v (.int .i64 t_.1)))) [(0, .ob 53 [.sl (.int .u8) s0_0, .v (.int .i64 t_.2.1), .v (.int .u64 t_.2.2)])]) := ⟨fun h => spec_l1Cur_angleOf.con _ _ _ (t_.1) (t_.2.1) (t_.2.2) h⟩
/-! ### impl_tunePins: function 46 -/
def impl_tunePins.l0 : Nat → Int → Bool → List (S39) → List (S39) → Int → Int → Option ((List (S39)))
  | 0, _, _, _, _, _, _ => none
  | k + 1, x1, x2, x7, x11, x12, x13 => if x13 < x12 then (if 0 ≤ x13 then (if x13 < (x11.length : Int) then (if ((((rd_T39 x11 x13).f2) == x1) == x2) = true then (if x7.length < 5864062014805 then (impl_tunePins.l0 k x1 x2 (x7 ++ [(⟨(rd_T39 x11 x13).f0, (rd_T39 x11 x13).f1, (rd_T39 x11 x13).f2⟩ : S39)]) x11 x12 (wrap64 (x13 + 1))) else (none)) else (impl_tunePins.l0 k x1 x2 x7 x11 x12 (wrap64 (x13 + 1)))) else (none)) else (none)) else (some x7)
def impl_tunePins.f (k : Nat) (l0 : List (S39)) (a1 : Int) (a2 : Bool) : Option ((List (S39))) := impl_tunePins.l0 k a1 a2 (([] : List (S39))) l0 (l0.length : Int) 0
instance impl_tunePins.lp0 {k : Nat} {r : (List (S39))} {Q : Wr → Prop} {p0 : Int} {p1 : Bool} {p3 : List (S39)} {p4 : Int} {x7_1 : List (S39)} {x13_1 : Int} : Lp (impl_tunePins.l0 k p0 p1 x7_1 p3 p4 x13_1 = some r) Q (fun k => ∀ {x7_1 : List (S39)} {x13_1 : Int}, impl_tunePins.l0 k p0 p1 x7_1 p3 p4 x13_1 = some r → Q [(14, .p (.c (.rp (Try.f46.ntmps + 7)))), (2 * (Try.f46.ntmps + 7) + 1, .row 39 K39 x7_1), (26, .p (.c (.v (.int .i64 x13_1))))]) k [(14, .p (.c (.rp (Try.f46.ntmps + 7)))), (2 * (Try.f46.ntmps + 7) + 1, .row 39 K39 x7_1), (26, .p (.c (.v (.int .i64 x13_1))))] := ⟨fun j h => j h⟩
set_option maxRecDepth 8000 in
set_option maxHeartbeats 2000000 in
theorem impl_tunePins.con (k : Nat) (l0 : List (S39)) (a1 : Int) (a2 : Bool) (r : List (S39)) (H : impl_tunePins.f k l0 a1 a2 = some r) : Con Try.prog 46 [.p (.c (.sl K39 l0)), .p (.c (.v (.int .i64 a1))), .p (.c (.v (.bool a2)))] (.p (.c (.ow 39 K39 r))) := by
  refine Con.mk' (fn := Try.f46) Try.func46 rfl (by kernel_rfl) rfl rfl rfl fun X w0 gs hF => ?_
  unfold impl_tunePins.f at H
  exact auto
instance impl_tunePins.ctr {k : Nat} {l0 : List (S39)} {a1 : Int} {a2 : Bool} {r : List (S39)} : Ctr (impl_tunePins.f k l0 a1 a2 = some r) (Con Try.prog 46 [.p (.c (.sl K39 l0)), .p (.c (.v (.int .i64 a1))), .p (.c (.v (.bool a2)))] (.p (.c (.ow 39 K39 r)))) := ⟨impl_tunePins.con _ _ _ _ _⟩
/-! ### impl_TuneOf: function 19 -/
def impl_TuneOf.f (k : Nat) (l0 : List (S39)) (a1 : Int) : Option ((List (S39)) × Bool) := (impl_ArePins.f k l0).bind fun t346 => (if t346 = true then ((impl_isShift.f a1).bind fun t347 => (if t347 = true then ((impl_tunePins.f k l0 a1 true).bind fun t348 => (some (t348, true))) else (some (([] : List (S39)), false)))) else (some (([] : List (S39)), false)))
set_option maxRecDepth 8000 in
set_option maxHeartbeats 2000000 in
theorem impl_TuneOf.con (k : Nat) (l0 : List (S39)) (a1 : Int) (r1 : List (S39)) (r2 : Bool) (H : impl_TuneOf.f k l0 a1 = some (r1, r2)) : Con Try.prog 19 [.p (.c (.sl K39 l0)), .p (.c (.v (.int .i64 a1)))] (.tp [.c (.ow 39 K39 r1), .c (.v (.bool r2))]) := by
  refine Con.mk' (fn := Try.f19) Try.func19 rfl (by kernel_rfl) rfl rfl rfl fun X w0 gs hF => ?_
  unfold impl_TuneOf.f at H
  exact auto
instance impl_TuneOf.ctr {k : Nat} {l0 : List (S39)} {a1 : Int} {t_ : (List (S39)) × (Bool)} : Ctr (impl_TuneOf.f k l0 a1 = some t_) (Con Try.prog 19 [.p (.c (.sl K39 l0)), .p (.c (.v (.int .i64 a1)))] (.tp [.c (.ow 39 K39 t_.1), .c (.v (.bool t_.2))])) := ⟨fun h => impl_TuneOf.con _ _ _ (t_.1) (t_.2) h⟩
/-! ### spec_cyPart: function 47 -/
def spec_cyPart.l0 : Nat → Int → Bool → List (S39) → List (S39) → Int → Int → Option ((List (S39)))
  | 0, _, _, _, _, _, _ => none
  | k + 1, x1, x2, x7, x10, x11, x12 => if x12 < x11 then (if 0 ≤ x12 then (if x12 < (x10.length : Int) then (if ((((rd_T39 x10 x12).f2) == x1) == x2) = true then (if x7.length < 5864062014805 then (spec_cyPart.l0 k x1 x2 (x7 ++ [(⟨(rd_T39 x10 x12).f0, (rd_T39 x10 x12).f1, (rd_T39 x10 x12).f2⟩ : S39)]) x10 x11 (wrap64 (x12 + 1))) else (none)) else (spec_cyPart.l0 k x1 x2 x7 x10 x11 (wrap64 (x12 + 1)))) else (none)) else (none)) else (some x7)
def spec_cyPart.f (k : Nat) (l0 : List (S39)) (a1 : Int) (a2 : Bool) : Option ((List (S39))) := spec_cyPart.l0 k a1 a2 ([] : List (S39)) l0 (l0.length : Int) 0
instance spec_cyPart.lp0 {k : Nat} {r : (List (S39))} {Q : Wr → Prop} {p0 : Int} {p1 : Bool} {p3 : List (S39)} {p4 : Int} {x7_1 : List (S39)} {x12_1 : Int} : Lp (spec_cyPart.l0 k p0 p1 x7_1 p3 p4 x12_1 = some r) Q (fun k => ∀ {x7_1 : List (S39)} {x12_1 : Int}, spec_cyPart.l0 k p0 p1 x7_1 p3 p4 x12_1 = some r → Q [(14, .p (.c (.rp (Try.f47.ntmps + 7)))), (2 * (Try.f47.ntmps + 7) + 1, .row 39 K39 x7_1), (24, .p (.c (.v (.int .i64 x12_1))))]) k [(14, .p (.c (.rp (Try.f47.ntmps + 7)))), (2 * (Try.f47.ntmps + 7) + 1, .row 39 K39 x7_1), (24, .p (.c (.v (.int .i64 x12_1))))] := ⟨fun j h => j h⟩
set_option maxRecDepth 8000 in
set_option maxHeartbeats 2000000 in
theorem spec_cyPart.con (k : Nat) (l0 : List (S39)) (a1 : Int) (a2 : Bool) (r : List (S39)) (H : spec_cyPart.f k l0 a1 a2 = some r) : Con Try.prog 47 [.p (.c (.sl K39 l0)), .p (.c (.v (.int .i64 a1))), .p (.c (.v (.bool a2)))] (.p (.c (.ow 39 K39 r))) := by
  refine Con.mk' (fn := Try.f47) Try.func47 rfl (by kernel_rfl) rfl rfl rfl fun X w0 gs hF => ?_
  unfold spec_cyPart.f at H
  exact auto
instance spec_cyPart.ctr {k : Nat} {l0 : List (S39)} {a1 : Int} {a2 : Bool} {r : List (S39)} : Ctr (spec_cyPart.f k l0 a1 a2 = some r) (Con Try.prog 47 [.p (.c (.sl K39 l0)), .p (.c (.v (.int .i64 a1))), .p (.c (.v (.bool a2)))] (.p (.c (.ow 39 K39 r)))) := ⟨spec_cyPart.con _ _ _ _ _⟩
/-! ### spec_TuneOf: function 20 -/
def spec_TuneOf.f (k : Nat) (l0 : List (S39)) (a1 : Int) : Option ((List (S39)) × Bool) := (spec_cyGood.f k l0).bind fun t356 => (if t356 = true then ((spec_cyShift.f a1).bind fun t357 => (if t357 = true then ((spec_cyPart.f k l0 a1 true).bind fun t358 => (some (t358, true))) else (some (([] : List (S39)), false)))) else (some (([] : List (S39)), false)))
set_option maxRecDepth 8000 in
set_option maxHeartbeats 2000000 in
theorem spec_TuneOf.con (k : Nat) (l0 : List (S39)) (a1 : Int) (r1 : List (S39)) (r2 : Bool) (H : spec_TuneOf.f k l0 a1 = some (r1, r2)) : Con Try.prog 20 [.p (.c (.sl K39 l0)), .p (.c (.v (.int .i64 a1)))] (.tp [.c (.ow 39 K39 r1), .c (.v (.bool r2))]) := by
  refine Con.mk' (fn := Try.f20) Try.func20 rfl (by kernel_rfl) rfl rfl rfl fun X w0 gs hF => ?_
  unfold spec_TuneOf.f at H
  exact auto
instance spec_TuneOf.ctr {k : Nat} {l0 : List (S39)} {a1 : Int} {t_ : (List (S39)) × (Bool)} : Ctr (spec_TuneOf.f k l0 a1 = some t_) (Con Try.prog 20 [.p (.c (.sl K39 l0)), .p (.c (.v (.int .i64 a1)))] (.tp [.c (.ow 39 K39 t_.1), .c (.v (.bool t_.2))])) := ⟨fun h => spec_TuneOf.con _ _ _ (t_.1) (t_.2) h⟩
/-! ### laws_sameInts: function 48 -/
def laws_sameInts.l0 : Nat → List Int → List Int → Int → Int → Option (Bool)
  | 0, _, _, _, _ => none
  | k + 1, x0, x1, x12, x13 => if x13 < x12 then (if 0 ≤ x13 then (if x13 < (x0.length : Int) then (if x13 < (x1.length : Int) then (if (rd x0 x13) = (rd x1 x13) then (laws_sameInts.l0 k x0 x1 x12 (wrap64 (x13 + 1))) else (some false)) else (none)) else (none)) else (none)) else (some true)
def laws_sameInts.f (k : Nat) (l0 : List Int) (l1 : List Int) : Option (Bool) := if (l0.length : Int) = (l1.length : Int) then (laws_sameInts.l0 k l0 l1 (l0.length : Int) 0) else (some false)
instance laws_sameInts.lp0 {k : Nat} {r : Bool} {Q : Wr → Prop} {p0 : List Int} {p1 : List Int} {p2 : Int} {x13_1 : Int} : Lp (laws_sameInts.l0 k p0 p1 p2 x13_1 = some r) Q (fun k => ∀ {x13_1 : Int}, laws_sameInts.l0 k p0 p1 p2 x13_1 = some r → Q [(26, .p (.c (.v (.int .i64 x13_1))))]) k [(26, .p (.c (.v (.int .i64 x13_1))))] := ⟨fun j h => j h⟩
set_option maxRecDepth 8000 in
set_option maxHeartbeats 2000000 in
theorem laws_sameInts.con (k : Nat) (l0 : List Int) (l1 : List Int) (r : Bool) (H : laws_sameInts.f k l0 l1 = some r) : Con Try.prog 48 [.p (.c (.sl (.int .i64) l0)), .p (.c (.sl (.int .i64) l1))] (.p (.c (.v (.bool r)))) := by
  refine Con.mk' (fn := Try.f48) Try.func48 rfl (by kernel_rfl) rfl rfl rfl fun X w0 gs hF => ?_
  unfold laws_sameInts.f at H
  exact auto
instance laws_sameInts.ctr {k : Nat} {l0 : List Int} {l1 : List Int} {r : Bool} : Ctr (laws_sameInts.f k l0 l1 = some r) (Con Try.prog 48 [.p (.c (.sl (.int .i64) l0)), .p (.c (.sl (.int .i64) l1))] (.p (.c (.v (.bool r))))) := ⟨laws_sameInts.con _ _ _ _⟩
end Go.Proofs.Ythgemodkebahoaa.A
