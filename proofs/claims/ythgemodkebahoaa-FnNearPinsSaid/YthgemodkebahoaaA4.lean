/- BY EV: what the Go functions compute (read off the print), and that their calls come to it. No condition. -/
import Derived.Test.YthgemodkebahoaaAEU
import Derived.Test.YthgemodkebahoaaA3
set_option linter.unusedVariables false
set_option linter.unusedSimpArgs false
namespace Go.Proofs.Ythgemodkebahoaa.A
open Go.RowKit Go.Proofs Go.Proofs.YthgemodkebahoaaW.PrintWords Go.Proofs.YthgemodkebahoaaW.PrintLast EV
/-! ### spec_l1Abs: function 59 -/
def spec_l1Abs.f (a0 : Int) : Option (Int) := (spec_l1Most.f a0 (wrap64 (-a0))).bind fun t167 => (some t167)
set_option maxRecDepth 8000 in
set_option maxHeartbeats 2000000 in
theorem spec_l1Abs.con (a0 : Int) (r : Int) (H : spec_l1Abs.f a0 = some r) : Con Try.prog 59 [.p (.c (.v (.int .i64 a0)))] (.p (.c (.v (.int .i64 r)))) := by
  refine Con.mk' (fn := Try.f59) Try.func59 rfl (by kernel_rfl) rfl rfl rfl fun X w0 gs hF => ?_
  unfold spec_l1Abs.f at H
  exact auto
instance spec_l1Abs.ctr {a0 : Int} {r : Int} : Ctr (spec_l1Abs.f a0 = some r) (Con Try.prog 59 [.p (.c (.v (.int .i64 a0)))] (.p (.c (.v (.int .i64 r))))) := ⟨spec_l1Abs.con _ _⟩
/-! ### spec_cyColumn: function 60 -/
def spec_cyColumn.f (a0_0 : Int) (a0_1 : Int) (a0_2 : Int) : Option (Int) := some (wrap64 ((wrap64 (4 * a0_0)) + a0_2))
set_option maxRecDepth 8000 in
set_option maxHeartbeats 2000000 in
theorem spec_cyColumn.con (a0_0 : Int) (a0_1 : Int) (a0_2 : Int) (r : Int) (H : spec_cyColumn.f a0_0 a0_1 a0_2 = some r) : Con Try.prog 60 [.p (.ag [.v (.int .i64 a0_0), .v (.int .i64 a0_1), .v (.int .i64 a0_2)])] (.p (.c (.v (.int .i64 r)))) := by
  refine Con.mk' (fn := Try.f60) Try.func60 rfl (by kernel_rfl) rfl rfl rfl fun X w0 gs hF => ?_
  unfold spec_cyColumn.f at H
  exact auto
instance spec_cyColumn.ctr {a0_0 : Int} {a0_1 : Int} {a0_2 : Int} {r : Int} : Ctr (spec_cyColumn.f a0_0 a0_1 a0_2 = some r) (Con Try.prog 60 [.p (.ag [.v (.int .i64 a0_0), .v (.int .i64 a0_1), .v (.int .i64 a0_2)])] (.p (.c (.v (.int .i64 r))))) := ⟨spec_cyColumn.con _ _ _ _⟩
/-! ### spec_l1Least: function 68 -/
def spec_l1Least.f (a0 : Int) (a1 : Int) : Option (Int) := if a0 < a1 then (some a0) else (some a1)
set_option maxRecDepth 8000 in
set_option maxHeartbeats 2000000 in
theorem spec_l1Least.con (a0 : Int) (a1 : Int) (r : Int) (H : spec_l1Least.f a0 a1 = some r) : Con Try.prog 68 [.p (.c (.v (.int .i64 a0))), .p (.c (.v (.int .i64 a1)))] (.p (.c (.v (.int .i64 r)))) := by
  refine Con.mk' (fn := Try.f68) Try.func68 rfl (by kernel_rfl) rfl rfl rfl fun X w0 gs hF => ?_
  unfold spec_l1Least.f at H
  exact auto
instance spec_l1Least.ctr {a0 : Int} {a1 : Int} {r : Int} : Ctr (spec_l1Least.f a0 a1 = some r) (Con Try.prog 68 [.p (.c (.v (.int .i64 a0))), .p (.c (.v (.int .i64 a1)))] (.p (.c (.v (.int .i64 r))))) := ⟨spec_l1Least.con _ _ _⟩
/-! ### spec_cyDistance: function 61 -/
def spec_cyDistance.f (a0 : Int) (a1 : Int) : Option (Int) := (spec_l1Abs.f (wrap64 (a0 - a1))).bind fun t169 => ((spec_l1Least.f t169 (wrap64 (360 - t169))).bind fun t170 => (some t170))
set_option maxRecDepth 8000 in
set_option maxHeartbeats 2000000 in
theorem spec_cyDistance.con (a0 : Int) (a1 : Int) (r : Int) (H : spec_cyDistance.f a0 a1 = some r) : Con Try.prog 61 [.p (.c (.v (.int .i64 a0))), .p (.c (.v (.int .i64 a1)))] (.p (.c (.v (.int .i64 r)))) := by
  refine Con.mk' (fn := Try.f61) Try.func61 rfl (by kernel_rfl) rfl rfl rfl fun X w0 gs hF => ?_
  unfold spec_cyDistance.f at H
  exact auto
instance spec_cyDistance.ctr {a0 : Int} {a1 : Int} {r : Int} : Ctr (spec_cyDistance.f a0 a1 = some r) (Con Try.prog 61 [.p (.c (.v (.int .i64 a0))), .p (.c (.v (.int .i64 a1)))] (.p (.c (.v (.int .i64 r))))) := ⟨spec_cyDistance.con _ _ _⟩
/-! ### spec_cyNear: function 52 -/
def spec_cyNear.f (a0_0 : Int) (a0_1 : Int) (a0_2 : Int) (a1_0 : Int) (a1_1 : Int) (a1_2 : Int) (a2 : Int) : Option (Bool) := (spec_cyColumn.f a0_0 a0_1 a0_2).bind fun t173 => ((spec_cyColumn.f a1_0 a1_1 a1_2).bind fun t174 => ((spec_l1Abs.f (wrap64 (t173 - t174))).bind fun t175 => (if t175 ≤ 1 then ((spec_cyDistance.f a0_1 a1_1).bind fun t176 => (some (decide (t176 < a2)))) else (some false))))
set_option maxRecDepth 8000 in
set_option maxHeartbeats 2000000 in
theorem spec_cyNear.con (a0_0 : Int) (a0_1 : Int) (a0_2 : Int) (a1_0 : Int) (a1_1 : Int) (a1_2 : Int) (a2 : Int) (r : Bool) (H : spec_cyNear.f a0_0 a0_1 a0_2 a1_0 a1_1 a1_2 a2 = some r) : Con Try.prog 52 [.p (.ag [.v (.int .i64 a0_0), .v (.int .i64 a0_1), .v (.int .i64 a0_2)]), .p (.ag [.v (.int .i64 a1_0), .v (.int .i64 a1_1), .v (.int .i64 a1_2)]), .p (.c (.v (.int .i64 a2)))] (.p (.c (.v (.bool r)))) := by
  refine Con.mk' (fn := Try.f52) Try.func52 rfl (by kernel_rfl) rfl rfl rfl fun X w0 gs hF => ?_
  unfold spec_cyNear.f at H
  exact auto
instance spec_cyNear.ctr {a0_0 : Int} {a0_1 : Int} {a0_2 : Int} {a1_0 : Int} {a1_1 : Int} {a1_2 : Int} {a2 : Int} {r : Bool} : Ctr (spec_cyNear.f a0_0 a0_1 a0_2 a1_0 a1_1 a1_2 a2 = some r) (Con Try.prog 52 [.p (.ag [.v (.int .i64 a0_0), .v (.int .i64 a0_1), .v (.int .i64 a0_2)]), .p (.ag [.v (.int .i64 a1_0), .v (.int .i64 a1_1), .v (.int .i64 a1_2)]), .p (.c (.v (.int .i64 a2)))] (.p (.c (.v (.bool r))))) := ⟨spec_cyNear.con _ _ _ _ _ _ _ _⟩
/-! ### spec_cyPairs: function 27 -/
mutual
def spec_cyPairs.l0 : Nat → List (S39) → Int → List (List Int) → List (S39) → Int → Int → Option ((List (List Int)))
  | 0, _, _, _, _, _, _ => none
  | k + 1, x0, x1, x5, x9, x10, x11 => if x11 < x10 then (if 0 ≤ x11 then (if x11 < (x9.length : Int) then (spec_cyPairs.l1 k x0 x1 x5 x11 (wrap64 (x11 + 1)) x9 x10 x11 ((rd_T39 x9 x11).f0) ((rd_T39 x9 x11).f1) ((rd_T39 x9 x11).f2)) else (none)) else (none)) else (some x5)
def spec_cyPairs.l1 : Nat → List (S39) → Int → List (List Int) → Int → Int → List (S39) → Int → Int → Int → Int → Int → Option ((List (List Int)))
  | 0, _, _, _, _, _, _, _, _, _, _, _ => none
  | k + 1, x0, x1, x5, x6, x8, x9, x10, x11, x179000, x179001, x179002 => if x8 < (x0.length : Int) then (if 0 ≤ x8 then ((spec_cyNear.f x179000 x179001 x179002 ((rd_T39 x0 x8).f0) ((rd_T39 x0 x8).f1) ((rd_T39 x0 x8).f2) x1).bind fun t180 => (if t180 = true then (if x5.length < 5864062014805 then (spec_cyPairs.l1 k x0 x1 (x5 ++ [(([x6, x8] : List Int))]) x6 (wrap64 (x8 + 1)) x9 x10 x11 x179000 x179001 x179002) else (none)) else (spec_cyPairs.l1 k x0 x1 x5 x6 (wrap64 (x8 + 1)) x9 x10 x11 x179000 x179001 x179002))) else (none)) else (spec_cyPairs.l0 k x0 x1 x5 x9 x10 (wrap64 (x11 + 1)))
end
def spec_cyPairs.f (k : Nat) (l0 : List (S39)) (a1 : Int) : Option ((List (List Int))) := spec_cyPairs.l0 k l0 a1 ([] : List (List Int)) l0 (l0.length : Int) 0
instance spec_cyPairs.lp0 {k : Nat} {r : (List (List Int))} {Q : Wr → Prop} {p0 : List (S39)} {p1 : Int} {p3 : List (S39)} {p4 : Int} {x5_1 : List (List Int)} {x11_1 : Int} : Lp (spec_cyPairs.l0 k p0 p1 x5_1 p3 p4 x11_1 = some r) Q (fun k => ∀ {x5_1 : List (List Int)} {x11_1 : Int}, spec_cyPairs.l0 k p0 p1 x5_1 p3 p4 x11_1 = some r → Q [(10, .p (.c (.rp (Try.f27.ntmps + 5)))), (2 * (Try.f27.ntmps + 5) + 1, .row 63 KL3 x5_1), (22, .p (.c (.v (.int .i64 x11_1))))]) k [(10, .p (.c (.rp (Try.f27.ntmps + 5)))), (2 * (Try.f27.ntmps + 5) + 1, .row 63 KL3 x5_1), (22, .p (.c (.v (.int .i64 x11_1))))] := ⟨fun j h => j h⟩
instance spec_cyPairs.lp1 {k : Nat} {r : (List (List Int))} {Q : Wr → Prop} {p0 : List (S39)} {p1 : Int} {p3 : Int} {p5 : List (S39)} {p6 : Int} {p7 : Int} {p8 : Int} {p9 : Int} {p10 : Int} {x5_2 : List (List Int)} {x8_2 : Int} : Lp (spec_cyPairs.l1 k p0 p1 x5_2 p3 x8_2 p5 p6 p7 p8 p9 p10 = some r) Q (fun k => ∀ {x5_2 : List (List Int)} {x8_2 : Int}, spec_cyPairs.l1 k p0 p1 x5_2 p3 x8_2 p5 p6 p7 p8 p9 p10 = some r → Q [(10, .p (.c (.rp (Try.f27.ntmps + 5)))), (2 * (Try.f27.ntmps + 5) + 1, .row 63 KL3 x5_2), (16, .p (.c (.v (.int .i64 x8_2))))]) k [(10, .p (.c (.rp (Try.f27.ntmps + 5)))), (2 * (Try.f27.ntmps + 5) + 1, .row 63 KL3 x5_2), (16, .p (.c (.v (.int .i64 x8_2))))] := ⟨fun j h => j h⟩
set_option maxRecDepth 8000 in
set_option maxHeartbeats 2000000 in
theorem spec_cyPairs.con (k : Nat) (l0 : List (S39)) (a1 : Int) (r : List (List Int)) (H : spec_cyPairs.f k l0 a1 = some r) : Con Try.prog 27 [.p (.c (.sl K39 l0)), .p (.c (.v (.int .i64 a1)))] (.p (.c (.ow 63 KL3 r))) := by
  refine Con.mk' (fn := Try.f27) Try.func27 rfl (by kernel_rfl) rfl rfl rfl fun X w0 gs hF => ?_
  unfold spec_cyPairs.f at H
  exact auto
instance spec_cyPairs.ctr {k : Nat} {l0 : List (S39)} {a1 : Int} {r : List (List Int)} : Ctr (spec_cyPairs.f k l0 a1 = some r) (Con Try.prog 27 [.p (.c (.sl K39 l0)), .p (.c (.v (.int .i64 a1)))] (.p (.c (.ow 63 KL3 r)))) := ⟨spec_cyPairs.con _ _ _ _⟩
/-! ### spec_GreatestGap: function 7 -/
mutual
def spec_GreatestGap.j0 : Nat → List (S39) → Bool → Option (Int × Bool)
  | 0, _, _ => none
  | k + 1, x0, x13 => if x13 = true then (some (0, false)) else (spec_GreatestGap.l0 k x0 180)
def spec_GreatestGap.l0 : Nat → List (S39) → Int → Option (Int × Bool)
  | 0, _, _ => none
  | k + 1, x0, x4 => (spec_cyPairs.f k x0 x4).bind fun t191 => (if (t191.length : Int) > 0 then (spec_GreatestGap.l0 k x0 (wrap64 (x4 - 1))) else (some (x4, true)))
end
def spec_GreatestGap.f (k : Nat) (l0 : List (S39)) : Option (Int × Bool) := (spec_cyGood.f k l0).bind fun t187 => (if t187 = true then ((spec_cyPairs.f k l0 1).bind fun t188 => (spec_GreatestGap.j0 k l0 (decide ((t188.length : Int) > 0)))) else (spec_GreatestGap.j0 k l0 true))
instance spec_GreatestGap.lp0 {k : Nat} {r : Int × Bool} {Q : Wr → Prop} {p0 : List (S39)} {x4_2 : Int} : Lp (spec_GreatestGap.l0 k p0 x4_2 = some r) Q (fun k => ∀ {x4_2 : Int}, spec_GreatestGap.l0 k p0 x4_2 = some r → Q [(8, .p (.c (.v (.int .i64 x4_2))))]) k [(8, .p (.c (.v (.int .i64 x4_2))))] := ⟨fun j h => j h⟩
set_option maxRecDepth 8000 in
set_option maxHeartbeats 2000000 in
theorem spec_GreatestGap.con (k : Nat) (l0 : List (S39)) (r1 : Int) (r2 : Bool) (H : spec_GreatestGap.f k l0 = some (r1, r2)) : Con Try.prog 7 [.p (.c (.sl K39 l0))] (.tp [.c (.v (.int .i64 r1)), .c (.v (.bool r2))]) := by
  refine Con.mk' (fn := Try.f7) Try.func7 rfl (by kernel_rfl) rfl rfl rfl fun X w0 gs hF => ?_
  unfold spec_GreatestGap.f at H
  exact auto
instance spec_GreatestGap.ctr {k : Nat} {l0 : List (S39)} {t_ : (Int) × (Bool)} : Ctr (spec_GreatestGap.f k l0 = some t_) (Con Try.prog 7 [.p (.c (.sl K39 l0))] (.tp [.c (.v (.int .i64 t_.1)), .c (.v (.bool t_.2))])) := ⟨fun h => spec_GreatestGap.con _ _ (t_.1) (t_.2) h⟩
/-! ### impl_isGap: function 28 -/
def impl_isGap.f (a0 : Int) : Option (Bool) := if a0 ≥ 1 then (some (decide (a0 ≤ 180))) else (some false)
set_option maxRecDepth 8000 in
set_option maxHeartbeats 2000000 in
theorem impl_isGap.con (a0 : Int) (r : Bool) (H : impl_isGap.f a0 = some r) : Con Try.prog 28 [.p (.c (.v (.int .i64 a0)))] (.p (.c (.v (.bool r)))) := by
  refine Con.mk' (fn := Try.f28) Try.func28 rfl (by kernel_rfl) rfl rfl rfl fun X w0 gs hF => ?_
  unfold impl_isGap.f at H
  exact auto
instance impl_isGap.ctr {a0 : Int} {r : Bool} : Ctr (impl_isGap.f a0 = some r) (Con Try.prog 28 [.p (.c (.v (.int .i64 a0)))] (.p (.c (.v (.bool r))))) := ⟨impl_isGap.con _ _⟩
/-! ### impl_nearPins: function 29 -/
mutual
def impl_nearPins.l0 : Nat → List (S39) → Int → List (List Int) → Int → Int → Option ((List (List Int)))
  | 0, _, _, _, _, _ => none
  | k + 1, x0, x1, x5, x10, x11 => if x11 < x10 then (impl_nearPins.l1 k x0 x1 x5 x11 (wrap64 (x11 + 1)) x10 x11) else (some x5)
def impl_nearPins.l1 : Nat → List (S39) → Int → List (List Int) → Int → Int → Int → Int → Option ((List (List Int)))
  | 0, _, _, _, _, _, _, _ => none
  | k + 1, x0, x1, x5, x6, x7, x10, x11 => if x7 < (x0.length : Int) then (if 0 ≤ x6 then (if x6 < (x0.length : Int) then (if 0 ≤ x7 then ((impl_pinDistance.f ((rd_T39 x0 x6).f0) ((rd_T39 x0 x6).f1) ((rd_T39 x0 x6).f2) ((rd_T39 x0 x7).f0) ((rd_T39 x0 x7).f1) ((rd_T39 x0 x7).f2)).bind fun t199 => (if t199 < x1 then (if x5.length < 5864062014805 then (impl_nearPins.l1 k x0 x1 (x5 ++ [(([x6, x7] : List Int))]) x6 (wrap64 (x7 + 1)) x10 x11) else (none)) else (impl_nearPins.l1 k x0 x1 x5 x6 (wrap64 (x7 + 1)) x10 x11))) else (none)) else (none)) else (none)) else (impl_nearPins.l0 k x0 x1 x5 x10 (wrap64 (x11 + 1)))
end
def impl_nearPins.f (k : Nat) (l0 : List (S39)) (a1 : Int) : Option ((List (List Int))) := impl_nearPins.l0 k l0 a1 (([] : List (List Int))) (l0.length : Int) 0
instance impl_nearPins.lp0 {k : Nat} {r : (List (List Int))} {Q : Wr → Prop} {p0 : List (S39)} {p1 : Int} {p3 : Int} {x5_1 : List (List Int)} {x11_1 : Int} : Lp (impl_nearPins.l0 k p0 p1 x5_1 p3 x11_1 = some r) Q (fun k => ∀ {x5_1 : List (List Int)} {x11_1 : Int}, impl_nearPins.l0 k p0 p1 x5_1 p3 x11_1 = some r → Q [(10, .p (.c (.rp (Try.f29.ntmps + 5)))), (2 * (Try.f29.ntmps + 5) + 1, .row 63 KL3 x5_1), (22, .p (.c (.v (.int .i64 x11_1))))]) k [(10, .p (.c (.rp (Try.f29.ntmps + 5)))), (2 * (Try.f29.ntmps + 5) + 1, .row 63 KL3 x5_1), (22, .p (.c (.v (.int .i64 x11_1))))] := ⟨fun j h => j h⟩
instance impl_nearPins.lp1 {k : Nat} {r : (List (List Int))} {Q : Wr → Prop} {p0 : List (S39)} {p1 : Int} {p3 : Int} {p5 : Int} {p6 : Int} {x5_2 : List (List Int)} {x7_2 : Int} : Lp (impl_nearPins.l1 k p0 p1 x5_2 p3 x7_2 p5 p6 = some r) Q (fun k => ∀ {x5_2 : List (List Int)} {x7_2 : Int}, impl_nearPins.l1 k p0 p1 x5_2 p3 x7_2 p5 p6 = some r → Q [(10, .p (.c (.rp (Try.f29.ntmps + 5)))), (2 * (Try.f29.ntmps + 5) + 1, .row 63 KL3 x5_2), (14, .p (.c (.v (.int .i64 x7_2))))]) k [(10, .p (.c (.rp (Try.f29.ntmps + 5)))), (2 * (Try.f29.ntmps + 5) + 1, .row 63 KL3 x5_2), (14, .p (.c (.v (.int .i64 x7_2))))] := ⟨fun j h => j h⟩
set_option maxRecDepth 8000 in
set_option maxHeartbeats 2000000 in
theorem impl_nearPins.con (k : Nat) (l0 : List (S39)) (a1 : Int) (r : List (List Int)) (H : impl_nearPins.f k l0 a1 = some r) : Con Try.prog 29 [.p (.c (.sl K39 l0)), .p (.c (.v (.int .i64 a1)))] (.p (.c (.ow 63 KL3 r))) := by
  refine Con.mk' (fn := Try.f29) Try.func29 rfl (by kernel_rfl) rfl rfl rfl fun X w0 gs hF => ?_
  unfold impl_nearPins.f at H
  exact auto
instance impl_nearPins.ctr {k : Nat} {l0 : List (S39)} {a1 : Int} {r : List (List Int)} : Ctr (impl_nearPins.f k l0 a1 = some r) (Con Try.prog 29 [.p (.c (.sl K39 l0)), .p (.c (.v (.int .i64 a1)))] (.p (.c (.ow 63 KL3 r)))) := ⟨impl_nearPins.con _ _ _ _⟩
/-! ### impl_NearPins: function 8 -/
def impl_NearPins.f (k : Nat) (l0 : List (S39)) (a1 : Int) : Option ((List (List Int)) × Bool) := (impl_ArePins.f k l0).bind fun t206 => (if t206 = true then ((impl_isGap.f a1).bind fun t207 => (if t207 = true then ((impl_nearPins.f k l0 a1).bind fun t208 => (some (t208, true))) else (some (([] : List (List Int)), false)))) else (some (([] : List (List Int)), false)))
set_option maxRecDepth 8000 in
set_option maxHeartbeats 2000000 in
theorem impl_NearPins.con (k : Nat) (l0 : List (S39)) (a1 : Int) (r1 : List (List Int)) (r2 : Bool) (H : impl_NearPins.f k l0 a1 = some (r1, r2)) : Con Try.prog 8 [.p (.c (.sl K39 l0)), .p (.c (.v (.int .i64 a1)))] (.tp [.c (.ow 63 KL3 r1), .c (.v (.bool r2))]) := by
  refine Con.mk' (fn := Try.f8) Try.func8 rfl (by kernel_rfl) rfl rfl rfl fun X w0 gs hF => ?_
  unfold impl_NearPins.f at H
  exact auto
instance impl_NearPins.ctr {k : Nat} {l0 : List (S39)} {a1 : Int} {t_ : (List (List Int)) × (Bool)} : Ctr (impl_NearPins.f k l0 a1 = some t_) (Con Try.prog 8 [.p (.c (.sl K39 l0)), .p (.c (.v (.int .i64 a1)))] (.tp [.c (.ow 63 KL3 t_.1), .c (.v (.bool t_.2))])) := ⟨fun h => impl_NearPins.con _ _ _ (t_.1) (t_.2) h⟩
end Go.Proofs.Ythgemodkebahoaa.A
