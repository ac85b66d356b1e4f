/- BY EV: what the Go functions compute (read off the print), and that their calls come to it. No condition. -/
import Derived.Test.YtbfehdhncncgdaaCEU
set_option linter.unusedVariables false
set_option linter.unusedSimpArgs false
namespace Go.Proofs.Ytbfehdhncncgdaa.C
open Go.RowKit Go.Proofs Go.Proofs.YtbfehdhncncgdaaW.PrintWords Go.Proofs.YtbfehdhncncgdaaW.PrintLast EV
/-! ### laws_eqHole: function 36 -/
def laws_eqHole.f (a0_0 : Int) (a0_1 : Int) (a0_2 : Int) (a1_0 : Int) (a1_1 : Int) (a1_2 : Int) : Option (Bool) := if a0_0 = a1_0 then (if a0_1 = a1_1 then (if a0_2 = a1_2 then (some true) else (some false)) else (some false)) else (some false)
set_option maxRecDepth 8000 in
set_option maxHeartbeats 2000000 in
theorem laws_eqHole.con (a0_0 : Int) (a0_1 : Int) (a0_2 : Int) (a1_0 : Int) (a1_1 : Int) (a1_2 : Int) (r : Bool) (H : laws_eqHole.f a0_0 a0_1 a0_2 a1_0 a1_1 a1_2 = some r) : Con Try.prog 36 [.p (.ag [.v (.int .i64 a0_0), .v (.int .i64 a0_1), .v (.int .i64 a0_2)]), .p (.ag [.v (.int .i64 a1_0), .v (.int .i64 a1_1), .v (.int .i64 a1_2)])] (.p (.c (.v (.bool r)))) := by
  refine Con.mk' (fn := Try.f36) Try.func36 rfl (by kernel_rfl) rfl rfl rfl fun X w0 gs hF => ?_
  unfold laws_eqHole.f at H
  exact auto
instance laws_eqHole.ctr {a0_0 : Int} {a0_1 : Int} {a0_2 : Int} {a1_0 : Int} {a1_1 : Int} {a1_2 : Int} {r : Bool} : Ctr (laws_eqHole.f a0_0 a0_1 a0_2 a1_0 a1_1 a1_2 = some r) (Con Try.prog 36 [.p (.ag [.v (.int .i64 a0_0), .v (.int .i64 a0_1), .v (.int .i64 a0_2)]), .p (.ag [.v (.int .i64 a1_0), .v (.int .i64 a1_1), .v (.int .i64 a1_2)])] (.p (.c (.v (.bool r))))) := ⟨laws_eqHole.con _ _ _ _ _ _ _⟩
/-! ### laws_eqHoleS: function 13 -/
def laws_eqHoleS.l0 : Nat → List (S64) → List (S64) → Int → Option (Bool)
  | 0, _, _, _ => none
  | k + 1, x0, x1, x5 => if x5 < (x0.length : Int) then (if 0 ≤ x5 then (if x5 < (x1.length : Int) then ((laws_eqHole.f ((rd_T64 x0 x5).f0) ((rd_T64 x0 x5).f1) ((rd_T64 x0 x5).f2) ((rd_T64 x1 x5).f0) ((rd_T64 x1 x5).f1) ((rd_T64 x1 x5).f2)).bind fun t105 => (if t105 = true then (laws_eqHoleS.l0 k x0 x1 (wrap64 (x5 + 1))) else (some false))) else (none)) else (none)) else (some true)
def laws_eqHoleS.f (k : Nat) (l0 : List (S64)) (l1 : List (S64)) : Option (Bool) := if (l0.length : Int) = (l1.length : Int) then (laws_eqHoleS.l0 k l0 l1 0) else (some false)
instance laws_eqHoleS.lp0 {k : Nat} {r : Bool} {Q : Wr → Prop} {p0 : List (S64)} {p1 : List (S64)} {x5_1 : Int} : Lp (laws_eqHoleS.l0 k p0 p1 x5_1 = some r) Q (fun k => ∀ {x5_1 : Int}, laws_eqHoleS.l0 k p0 p1 x5_1 = some r → Q [(10, .p (.c (.v (.int .i64 x5_1))))]) k [(10, .p (.c (.v (.int .i64 x5_1))))] := ⟨fun j h => j h⟩
set_option maxRecDepth 8000 in
set_option maxHeartbeats 2000000 in
theorem laws_eqHoleS.con (k : Nat) (l0 : List (S64)) (l1 : List (S64)) (r : Bool) (H : laws_eqHoleS.f k l0 l1 = some r) : Con Try.prog 13 [.p (.c (.sl K64 l0)), .p (.c (.sl K64 l1))] (.p (.c (.v (.bool r)))) := by
  refine Con.mk' (fn := Try.f13) Try.func13 rfl (by kernel_rfl) rfl rfl rfl fun X w0 gs hF => ?_
  unfold laws_eqHoleS.f at H
  exact auto
instance laws_eqHoleS.ctr {k : Nat} {l0 : List (S64)} {l1 : List (S64)} {r : Bool} : Ctr (laws_eqHoleS.f k l0 l1 = some r) (Con Try.prog 13 [.p (.c (.sl K64 l0)), .p (.c (.sl K64 l1))] (.p (.c (.v (.bool r))))) := ⟨laws_eqHoleS.con _ _ _ _⟩
/-! ### laws_szHoleS: function 22 -/
def laws_szHoleS.f (l0 : List (S73)) (a1 : Int) : Option (Int) := if (wrap64 (a1 - (l0.length : Int))) < 0 then (some (-1)) else (some (wrap64 (a1 - (l0.length : Int))))
set_option maxRecDepth 8000 in
set_option maxHeartbeats 2000000 in
theorem laws_szHoleS.con (l0 : List (S73)) (a1 : Int) (r : Int) (H : laws_szHoleS.f l0 a1 = some r) : Con Try.prog 22 [.p (.c (.sl K73 l0)), .p (.c (.v (.int .i64 a1)))] (.p (.c (.v (.int .i64 r)))) := by
  refine Con.mk' (fn := Try.f22) Try.func22 rfl (by kernel_rfl) rfl rfl rfl fun X w0 gs hF => ?_
  unfold laws_szHoleS.f at H
  exact auto
instance laws_szHoleS.ctr {l0 : List (S73)} {a1 : Int} {r : Int} : Ctr (laws_szHoleS.f l0 a1 = some r) (Con Try.prog 22 [.p (.c (.sl K73 l0)), .p (.c (.v (.int .i64 a1)))] (.p (.c (.v (.int .i64 r))))) := ⟨laws_szHoleS.con _ _ _⟩
/-! ### laws_toHole: function 45 -/
def laws_toHole.f (a0_0 : Int) (a0_1 : Int) (a0_2 : Int) : Option (Int × Int × Int) := some (a0_0, a0_1, a0_2)
set_option maxRecDepth 8000 in
set_option maxHeartbeats 2000000 in
theorem laws_toHole.con (a0_0 : Int) (a0_1 : Int) (a0_2 : Int) (r1 : Int) (r2 : Int) (r3 : Int) (H : laws_toHole.f a0_0 a0_1 a0_2 = some (r1, r2, r3)) : Con Try.prog 45 [.p (.ag [.v (.int .i64 a0_0), .v (.int .i64 a0_1), .v (.int .i64 a0_2)])] (.p (.ag [.v (.int .i64 r1), .v (.int .i64 r2), .v (.int .i64 r3)])) := by
  refine Con.mk' (fn := Try.f45) Try.func45 rfl (by kernel_rfl) rfl rfl rfl fun X w0 gs hF => ?_
  unfold laws_toHole.f at H
  exact auto
instance laws_toHole.ctr {a0_0 : Int} {a0_1 : Int} {a0_2 : Int} {t_ : (Int) × (Int) × (Int)} : Ctr (laws_toHole.f a0_0 a0_1 a0_2 = some t_) (Con Try.prog 45 [.p (.ag [.v (.int .i64 a0_0), .v (.int .i64 a0_1), .v (.int .i64 a0_2)])] (.p (.ag [.v (.int .i64 t_.1), .v (.int .i64 t_.2.1), .v (.int .i64 t_.2.2)]))) := ⟨fun h => laws_toHole.con _ _ _ (t_.1) (t_.2.1) (t_.2.2) h⟩
/-! ### laws_toHoleS: function 24 -/
def laws_toHoleS.l0 : Nat → List (S73) → List (S64) → Int → Option ((List (S64)))
  | 0, _, _, _ => none
  | k + 1, x0, x3, x4 => if x4 < (x0.length : Int) then (if 0 ≤ x4 then ((laws_toHole.f ((rd_T73 x0 x4).f0) ((rd_T73 x0 x4).f1) ((rd_T73 x0 x4).f2)).bind fun bt113 => (if x4 < (x3.length : Int) then (laws_toHoleS.l0 k x0 (x3.set (x4 : Int).toNat (⟨bt113.1, bt113.2.1, bt113.2.2⟩ : S64)) (wrap64 (x4 + 1))) else (none))) else (none)) else (some x3)
def laws_toHoleS.f (k : Nat) (l0 : List (S73)) : Option ((List (S64))) := if 0 ≤ (l0.length : Int) then (if ((l0.length : Int) : Int).toNat ≤ 11728124029610 then (laws_toHoleS.l0 k l0 (List.replicate ((l0.length : Int) : Int).toNat z64) 0) else (none)) else (none)
instance laws_toHoleS.lp0 {k : Nat} {r : (List (S64))} {Q : Wr → Prop} {p0 : List (S73)} {x3_1 : List (S64)} {x4_1 : Int} : Lp (laws_toHoleS.l0 k p0 x3_1 x4_1 = some r) Q (fun k => ∀ {x3_1 : List (S64)} {x4_1 : Int}, laws_toHoleS.l0 k p0 x3_1 x4_1 = some r → Q [(6, .p (.c (.rp (Try.f24.ntmps + 3)))), (2 * (Try.f24.ntmps + 3) + 1, .row 64 K64 x3_1), (8, .p (.c (.v (.int .i64 x4_1))))]) k [(6, .p (.c (.rp (Try.f24.ntmps + 3)))), (2 * (Try.f24.ntmps + 3) + 1, .row 64 K64 x3_1), (8, .p (.c (.v (.int .i64 x4_1))))] := ⟨fun j h => j h⟩
set_option maxRecDepth 8000 in
set_option maxHeartbeats 2000000 in
theorem laws_toHoleS.con (k : Nat) (l0 : List (S73)) (r : List (S64)) (H : laws_toHoleS.f k l0 = some r) : Con Try.prog 24 [.p (.c (.sl K73 l0))] (.p (.c (.ow 64 K64 r))) := by
  refine Con.mk' (fn := Try.f24) Try.func24 rfl (by kernel_rfl) rfl rfl rfl fun X w0 gs hF => ?_
  unfold laws_toHoleS.f at H
  exact auto
instance laws_toHoleS.ctr {k : Nat} {l0 : List (S73)} {r : List (S64)} : Ctr (laws_toHoleS.f k l0 = some r) (Con Try.prog 24 [.p (.c (.sl K73 l0))] (.p (.c (.ow 64 K64 r)))) := ⟨laws_toHoleS.con _ _ _⟩
/-! ### spec_l1In: function 40 -/
def spec_l1In.f (a0 : Int) (a1 : Int) (a2 : Int) : Option (Bool) := if a0 ≥ a1 then (some (decide (a0 ≤ a2))) else (some false)
set_option maxRecDepth 8000 in
set_option maxHeartbeats 2000000 in
theorem spec_l1In.con (a0 : Int) (a1 : Int) (a2 : Int) (r : Bool) (H : spec_l1In.f a0 a1 a2 = some r) : Con Try.prog 40 [.p (.c (.v (.int .i64 a0))), .p (.c (.v (.int .i64 a1))), .p (.c (.v (.int .i64 a2)))] (.p (.c (.v (.bool r)))) := by
  refine Con.mk' (fn := Try.f40) Try.func40 rfl (by kernel_rfl) rfl rfl rfl fun X w0 gs hF => ?_
  unfold spec_l1In.f at H
  exact auto
instance spec_l1In.ctr {a0 : Int} {a1 : Int} {a2 : Int} {r : Bool} : Ctr (spec_l1In.f a0 a1 a2 = some r) (Con Try.prog 40 [.p (.c (.v (.int .i64 a0))), .p (.c (.v (.int .i64 a1))), .p (.c (.v (.int .i64 a2)))] (.p (.c (.v (.bool r))))) := ⟨spec_l1In.con _ _ _ _⟩
/-! ### spec_shHole: function 71 -/
def spec_shHole.f (a0_0 : Int) (a0_1 : Int) (a0_2 : Int) : Option (Bool) := (spec_l1In.f a0_0 0 19).bind fun t118 => (if t118 = true then ((spec_l1In.f a0_1 0 1999).bind fun t119 => (if t119 = true then ((spec_l1In.f a0_2 (wrap64 (a0_1 + 1)) 2000).bind fun t120 => (some t120)) else (some false))) else (some false))
set_option maxRecDepth 8000 in
set_option maxHeartbeats 2000000 in
theorem spec_shHole.con (a0_0 : Int) (a0_1 : Int) (a0_2 : Int) (r : Bool) (H : spec_shHole.f a0_0 a0_1 a0_2 = some r) : Con Try.prog 71 [.p (.ag [.v (.int .i64 a0_0), .v (.int .i64 a0_1), .v (.int .i64 a0_2)])] (.p (.c (.v (.bool r)))) := by
  refine Con.mk' (fn := Try.f71) Try.func71 rfl (by kernel_rfl) rfl rfl rfl fun X w0 gs hF => ?_
  unfold spec_shHole.f at H
  exact auto
instance spec_shHole.ctr {a0_0 : Int} {a0_1 : Int} {a0_2 : Int} {r : Bool} : Ctr (spec_shHole.f a0_0 a0_1 a0_2 = some r) (Con Try.prog 71 [.p (.ag [.v (.int .i64 a0_0), .v (.int .i64 a0_1), .v (.int .i64 a0_2)])] (.p (.c (.v (.bool r))))) := ⟨spec_shHole.con _ _ _ _⟩
/-! ### spec_shBefore: function 72 -/
def spec_shBefore.f (a0_0 : Int) (a0_1 : Int) (a0_2 : Int) (a1_0 : Int) (a1_1 : Int) (a1_2 : Int) : Option (Bool) := if a0_1 < a1_1 then (some true) else (if a0_1 = a1_1 then (some (decide (a0_0 < a1_0))) else (some false))
set_option maxRecDepth 8000 in
set_option maxHeartbeats 2000000 in
theorem spec_shBefore.con (a0_0 : Int) (a0_1 : Int) (a0_2 : Int) (a1_0 : Int) (a1_1 : Int) (a1_2 : Int) (r : Bool) (H : spec_shBefore.f a0_0 a0_1 a0_2 a1_0 a1_1 a1_2 = some r) : Con Try.prog 72 [.p (.ag [.v (.int .i64 a0_0), .v (.int .i64 a0_1), .v (.int .i64 a0_2)]), .p (.ag [.v (.int .i64 a1_0), .v (.int .i64 a1_1), .v (.int .i64 a1_2)])] (.p (.c (.v (.bool r)))) := by
  refine Con.mk' (fn := Try.f72) Try.func72 rfl (by kernel_rfl) rfl rfl rfl fun X w0 gs hF => ?_
  unfold spec_shBefore.f at H
  exact auto
instance spec_shBefore.ctr {a0_0 : Int} {a0_1 : Int} {a0_2 : Int} {a1_0 : Int} {a1_1 : Int} {a1_2 : Int} {r : Bool} : Ctr (spec_shBefore.f a0_0 a0_1 a0_2 a1_0 a1_1 a1_2 = some r) (Con Try.prog 72 [.p (.ag [.v (.int .i64 a0_0), .v (.int .i64 a0_1), .v (.int .i64 a0_2)]), .p (.ag [.v (.int .i64 a1_0), .v (.int .i64 a1_1), .v (.int .i64 a1_2)])] (.p (.c (.v (.bool r))))) := ⟨spec_shBefore.con _ _ _ _ _ _ _⟩
/-! ### spec_shGood: function 49 -/
mutual
def spec_shGood.l0 : Nat → List (S64) → List (S64) → Int → Int → Option (Bool)
  | 0, _, _, _, _ => none
  | k + 1, x0, x7, x8, x9 => if x9 < x8 then (if 0 ≤ x9 then (if x9 < (x7.length : Int) then ((spec_shHole.f ((rd_T64 x7 x9).f0) ((rd_T64 x7 x9).f1) ((rd_T64 x7 x9).f2)).bind fun t125 => (if t125 = true then (if x9 > 0 then (if 0 ≤ (wrap64 (x9 - 1)) then (if (wrap64 (x9 - 1)) < (x0.length : Int) then ((spec_shBefore.f ((rd_T64 x0 (wrap64 (x9 - 1))).f0) ((rd_T64 x0 (wrap64 (x9 - 1))).f1) ((rd_T64 x0 (wrap64 (x9 - 1))).f2) ((rd_T64 x7 x9).f0) ((rd_T64 x7 x9).f1) ((rd_T64 x7 x9).f2)).bind fun t127 => (spec_shGood.j1 k x0 x9 x7 x8 x9 (!t127) ((rd_T64 x7 x9).f0) ((rd_T64 x7 x9).f1) ((rd_T64 x7 x9).f2))) else (none)) else (none)) else (spec_shGood.j1 k x0 x9 x7 x8 x9 false ((rd_T64 x7 x9).f0) ((rd_T64 x7 x9).f1) ((rd_T64 x7 x9).f2))) else (spec_shGood.j1 k x0 x9 x7 x8 x9 true ((rd_T64 x7 x9).f0) ((rd_T64 x7 x9).f1) ((rd_T64 x7 x9).f2)))) else (none)) else (none)) else (some (decide ((x0.length : Int) ≤ 60)))
def spec_shGood.j1 : Nat → List (S64) → Int → List (S64) → Int → Int → Bool → Int → Int → Int → Option (Bool)
  | 0, _, _, _, _, _, _, _, _, _ => none
  | k + 1, x0, x3, x7, x8, x9, x30, x125000, x125001, x125002 => if x30 = true then (some false) else (if 0 ≤ x3 then (if x3 ≤ (x0.length : Int) then ((some (x0.take (x3 : Int).toNat : List (S64))).bind fun y128 => (spec_shGood.l1 k x0 x7 x8 x9 y128 (y128.length : Int) 0 x125000 x125001 x125002)) else (none)) else (none))
def spec_shGood.l1 : Nat → List (S64) → List (S64) → Int → Int → List (S64) → Int → Int → Int → Int → Int → Option (Bool)
  | 0, _, _, _, _, _, _, _, _, _, _ => none
  | k + 1, x0, x7, x8, x9, x33, x34, x35, x125000, x125001, x125002 => if x35 < x34 then (if 0 ≤ x35 then (if x35 < (x33.length : Int) then (if x125000 = ((rd_T64 x33 x35).f0) then (if ((rd_T64 x33 x35).f2) ≥ x125001 then (some false) else (spec_shGood.l1 k x0 x7 x8 x9 x33 x34 (wrap64 (x35 + 1)) x125000 x125001 x125002)) else (spec_shGood.l1 k x0 x7 x8 x9 x33 x34 (wrap64 (x35 + 1)) x125000 x125001 x125002)) else (none)) else (none)) else (spec_shGood.l0 k x0 x7 x8 (wrap64 (x9 + 1)))
end
def spec_shGood.f (k : Nat) (l0 : List (S64)) : Option (Bool) := spec_shGood.l0 k l0 l0 (l0.length : Int) 0
instance spec_shGood.lp0 {k : Nat} {r : Bool} {Q : Wr → Prop} {p0 : List (S64)} {p1 : List (S64)} {p2 : Int} {x9_1 : Int} : Lp (spec_shGood.l0 k p0 p1 p2 x9_1 = some r) Q (fun k => ∀ {x9_1 : Int}, spec_shGood.l0 k p0 p1 p2 x9_1 = some r → Q [(18, .p (.c (.v (.int .i64 x9_1))))]) k [(18, .p (.c (.v (.int .i64 x9_1))))] := ⟨fun j h => j h⟩
instance spec_shGood.lp1 {k : Nat} {r : Bool} {Q : Wr → Prop} {p0 : List (S64)} {p1 : List (S64)} {p2 : Int} {p3 : Int} {p4 : List (S64)} {p5 : Int} {p7 : Int} {p8 : Int} {p9 : Int} {x35_3 : Int} : Lp (spec_shGood.l1 k p0 p1 p2 p3 p4 p5 x35_3 p7 p8 p9 = some r) Q (fun k => ∀ {x35_3 : Int}, spec_shGood.l1 k p0 p1 p2 p3 p4 p5 x35_3 p7 p8 p9 = some r → Q [(70, .p (.c (.v (.int .i64 x35_3))))]) k [(70, .p (.c (.v (.int .i64 x35_3))))] := ⟨fun j h => j h⟩
set_option maxRecDepth 8000 in
set_option maxHeartbeats 2000000 in
theorem spec_shGood.con (k : Nat) (l0 : List (S64)) (r : Bool) (H : spec_shGood.f k l0 = some r) : Con Try.prog 49 [.p (.c (.sl K64 l0))] (.p (.c (.v (.bool r)))) := by
  refine Con.mk' (fn := Try.f49) Try.func49 rfl (by kernel_rfl) rfl rfl rfl fun X w0 gs hF => ?_
  unfold spec_shGood.f at H
  exact auto
instance spec_shGood.ctr {k : Nat} {l0 : List (S64)} {r : Bool} : Ctr (spec_shGood.f k l0 = some r) (Con Try.prog 49 [.p (.c (.sl K64 l0))] (.p (.c (.v (.bool r))))) := ⟨spec_shGood.con _ _ _⟩
/-! ### spec_CrowdedSteps: function 26 -/
mutual
def spec_CrowdedSteps.j0 : Nat → List (S64) → Int → Bool → Option (Int × Bool)
  | 0, _, _, _ => none
  | k + 1, x0, x1, x20 => if x20 = true then (some (0, false)) else (if 2000 ≤ 35184372088832 then (spec_CrowdedSteps.l0 k x1 (List.replicate 2000 0) x0 (x0.length : Int) 0) else (none))
def spec_CrowdedSteps.l0 : Nat → Int → List Int → List (S64) → Int → Int → Option (Int × Bool)
  | 0, _, _, _, _, _ => none
  | k + 1, x1, x6, x22, x23, x24 => if x24 < x23 then (if 0 ≤ x24 then (if x24 < (x22.length : Int) then (spec_CrowdedSteps.l1 k x1 x6 ((rd_T64 x22 x24).f1) x22 x23 x24 ((rd_T64 x22 x24).f0) ((rd_T64 x22 x24).f1) ((rd_T64 x22 x24).f2)) else (none)) else (none)) else (spec_CrowdedSteps.l2 k x1 0 x6 (x6.length : Int) 0)
def spec_CrowdedSteps.l1 : Nat → Int → List Int → Int → List (S64) → Int → Int → Int → Int → Int → Option (Int × Bool)
  | 0, _, _, _, _, _, _, _, _, _ => none
  | k + 1, x1, x6, x9, x22, x23, x24, x141000, x141001, x141002 => if x9 < x141002 then (if 0 ≤ x9 then (if x9 < (x6.length : Int) then (spec_CrowdedSteps.l1 k x1 (x6.set (x9 : Int).toNat (wrap64 ((rd x6 x9) + 1))) (wrap64 (x9 + 1)) x22 x23 x24 x141000 x141001 x141002) else (none)) else (none)) else (spec_CrowdedSteps.l0 k x1 x6 x22 x23 (wrap64 (x24 + 1)))
def spec_CrowdedSteps.l2 : Nat → Int → Int → List Int → Int → Int → Option (Int × Bool)
  | 0, _, _, _, _, _ => none
  | k + 1, x1, x10, x43, x44, x45 => if x45 < x44 then (if 0 ≤ x45 then (if x45 < (x43.length : Int) then (if (rd x43 x45) > x1 then (spec_CrowdedSteps.l2 k x1 (wrap64 (x10 + 1)) x43 x44 (wrap64 (x45 + 1))) else (spec_CrowdedSteps.l2 k x1 x10 x43 x44 (wrap64 (x45 + 1)))) else (none)) else (none)) else (some (x10, true))
end
def spec_CrowdedSteps.f (k : Nat) (l0 : List (S64)) (a1 : Int) : Option (Int × Bool) := (spec_shGood.f k l0).bind fun t134 => (if t134 = true then ((spec_l1In.f a1 0 20).bind fun t135 => (spec_CrowdedSteps.j0 k l0 a1 (!t135))) else (spec_CrowdedSteps.j0 k l0 a1 true))
instance spec_CrowdedSteps.lp0 {k : Nat} {r : Int × Bool} {Q : Wr → Prop} {p0 : Int} {p2 : List (S64)} {p3 : Int} {x6_2 : List Int} {x24_2 : Int} : Lp (spec_CrowdedSteps.l0 k p0 x6_2 p2 p3 x24_2 = some r) Q (fun k => ∀ {x6_2 : List Int} {x24_2 : Int}, spec_CrowdedSteps.l0 k p0 x6_2 p2 p3 x24_2 = some r → Q [(12, .p (.c (.rp (Try.f26.ntmps + 6)))), (2 * (Try.f26.ntmps + 6) + 1, .row 3 (.int .i64) x6_2), (48, .p (.c (.v (.int .i64 x24_2))))]) k [(12, .p (.c (.rp (Try.f26.ntmps + 6)))), (2 * (Try.f26.ntmps + 6) + 1, .row 3 (.int .i64) x6_2), (48, .p (.c (.v (.int .i64 x24_2))))] := ⟨fun j h => j h⟩
instance spec_CrowdedSteps.lp1 {k : Nat} {r : Int × Bool} {Q : Wr → Prop} {p0 : Int} {p3 : List (S64)} {p4 : Int} {p5 : Int} {p6 : Int} {p7 : Int} {p8 : Int} {x6_3 : List Int} {x9_3 : Int} : Lp (spec_CrowdedSteps.l1 k p0 x6_3 x9_3 p3 p4 p5 p6 p7 p8 = some r) Q (fun k => ∀ {x6_3 : List Int} {x9_3 : Int}, spec_CrowdedSteps.l1 k p0 x6_3 x9_3 p3 p4 p5 p6 p7 p8 = some r → Q [(12, .p (.c (.rp (Try.f26.ntmps + 6)))), (2 * (Try.f26.ntmps + 6) + 1, .row 3 (.int .i64) x6_3), (18, .p (.c (.v (.int .i64 x9_3))))]) k [(12, .p (.c (.rp (Try.f26.ntmps + 6)))), (2 * (Try.f26.ntmps + 6) + 1, .row 3 (.int .i64) x6_3), (18, .p (.c (.v (.int .i64 x9_3))))] := ⟨fun j h => j h⟩
instance spec_CrowdedSteps.lp2 {k : Nat} {r : Int × Bool} {Q : Wr → Prop} {p0 : Int} {p2 : List Int} {p3 : Int} {x10_3 : Int} {x45_3 : Int} : Lp (spec_CrowdedSteps.l2 k p0 x10_3 p2 p3 x45_3 = some r) Q (fun k => ∀ {x10_3 : Int} {x45_3 : Int}, spec_CrowdedSteps.l2 k p0 x10_3 p2 p3 x45_3 = some r → Q [(20, .p (.c (.v (.int .i64 x10_3)))), (90, .p (.c (.v (.int .i64 x45_3))))]) k [(20, .p (.c (.v (.int .i64 x10_3)))), (90, .p (.c (.v (.int .i64 x45_3))))] := ⟨fun j h => j h⟩
set_option maxRecDepth 8000 in
set_option maxHeartbeats 2000000 in
theorem spec_CrowdedSteps.con (k : Nat) (l0 : List (S64)) (a1 : Int) (r1 : Int) (r2 : Bool) (H : spec_CrowdedSteps.f k l0 a1 = some (r1, r2)) : Con Try.prog 26 [.p (.c (.sl K64 l0)), .p (.c (.v (.int .i64 a1)))] (.tp [.c (.v (.int .i64 r1)), .c (.v (.bool r2))]) := by
  refine Con.mk' (fn := Try.f26) Try.func26 rfl (by kernel_rfl) rfl rfl rfl fun X w0 gs hF => ?_
  unfold spec_CrowdedSteps.f at H
  exact auto
instance spec_CrowdedSteps.ctr {k : Nat} {l0 : List (S64)} {a1 : Int} {t_ : (Int) × (Bool)} : Ctr (spec_CrowdedSteps.f k l0 a1 = some t_) (Con Try.prog 26 [.p (.c (.sl K64 l0)), .p (.c (.v (.int .i64 a1)))] (.tp [.c (.v (.int .i64 t_.1)), .c (.v (.bool t_.2))])) := ⟨fun h => spec_CrowdedSteps.con _ _ _ (t_.1) (t_.2) h⟩
end Go.Proofs.Ytbfehdhncncgdaa.C
