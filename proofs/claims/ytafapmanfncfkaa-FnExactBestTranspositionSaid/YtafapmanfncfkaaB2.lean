/- BY EV: what the Go functions compute (read off the print), and that their calls come to it. No condition. -/
import Derived.Test.YtafapmanfncfkaaBEU
import Derived.Test.YtafapmanfncfkaaB1
set_option linter.unusedVariables false
set_option linter.unusedSimpArgs false
namespace Go.Proofs.Ytafapmanfncfkaa.B
open Go.RowKit Go.Proofs Go.Proofs.YtafapmanfncfkaaW.PrintWords Go.Proofs.YtafapmanfncfkaaW.PrintLast EV
/-! ### spec_ntGood: function 53 -/
mutual
def spec_ntGood.l0 : Nat → List (S55) → List (S55) → Int → Int → Option (Bool)
  | 0, _, _, _, _ => none
  | k + 1, x0, x7, x8, x9 => if x9 < x8 then (if 0 ≤ x9 then (if x9 < (x7.length : Int) then ((spec_ntNote.f ((rd_T55 x7 x9).f0) ((rd_T55 x7 x9).f1) ((rd_T55 x7 x9).f2)).bind fun t121 => (if t121 = true then (if x9 > 0 then (if 0 ≤ (wrap64 (x9 - 1)) then (if (wrap64 (x9 - 1)) < (x0.length : Int) then ((spec_ntBefore.f ((rd_T55 x0 (wrap64 (x9 - 1))).f0) ((rd_T55 x0 (wrap64 (x9 - 1))).f1) ((rd_T55 x0 (wrap64 (x9 - 1))).f2) ((rd_T55 x7 x9).f0) ((rd_T55 x7 x9).f1) ((rd_T55 x7 x9).f2)).bind fun t123 => (spec_ntGood.j1 k x0 x9 x7 x8 x9 (!t123) ((rd_T55 x7 x9).f0) ((rd_T55 x7 x9).f1) ((rd_T55 x7 x9).f2))) else (none)) else (none)) else (spec_ntGood.j1 k x0 x9 x7 x8 x9 false ((rd_T55 x7 x9).f0) ((rd_T55 x7 x9).f1) ((rd_T55 x7 x9).f2))) else (spec_ntGood.j1 k x0 x9 x7 x8 x9 true ((rd_T55 x7 x9).f0) ((rd_T55 x7 x9).f1) ((rd_T55 x7 x9).f2)))) else (none)) else (none)) else (some (decide ((x0.length : Int) ≤ 30)))
def spec_ntGood.j1 : Nat → List (S55) → Int → List (S55) → Int → Int → Bool → Int → Int → Int → Option (Bool)
  | 0, _, _, _, _, _, _, _, _, _ => none
  | k + 1, x0, x3, x7, x8, x9, x30, x121000, x121001, x121002 => if x30 = true then (some false) else (if 0 ≤ x3 then (if x3 ≤ (x0.length : Int) then ((some (x0.take (x3 : Int).toNat : List (S55))).bind fun y124 => (spec_ntGood.l1 k x0 x7 x8 x9 y124 (y124.length : Int) 0 x121000 x121001 x121002)) else (none)) else (none))
def spec_ntGood.l1 : Nat → List (S55) → List (S55) → Int → Int → List (S55) → Int → Int → Int → Int → Int → Option (Bool)
  | 0, _, _, _, _, _, _, _, _, _, _ => none
  | k + 1, x0, x7, x8, x9, x33, x34, x35, x121000, x121001, x121002 => if x35 < x34 then (if 0 ≤ x35 then (if x35 < (x33.length : Int) then ((spec_ntMeet.f x121000 x121001 x121002 ((rd_T55 x33 x35).f0) ((rd_T55 x33 x35).f1) ((rd_T55 x33 x35).f2)).bind fun t130 => (if t130 = true then (some false) else (spec_ntGood.l1 k x0 x7 x8 x9 x33 x34 (wrap64 (x35 + 1)) x121000 x121001 x121002))) else (none)) else (none)) else (spec_ntGood.l0 k x0 x7 x8 (wrap64 (x9 + 1)))
end
def spec_ntGood.f (k : Nat) (l0 : List (S55)) : Option (Bool) := spec_ntGood.l0 k l0 l0 (l0.length : Int) 0
instance spec_ntGood.lp0 {k : Nat} {r : Bool} {Q : Wr → Prop} {p0 : List (S55)} {p1 : List (S55)} {p2 : Int} {x9_1 : Int} : Lp (spec_ntGood.l0 k p0 p1 p2 x9_1 = some r) Q (fun k => ∀ {x9_1 : Int}, spec_ntGood.l0 k p0 p1 p2 x9_1 = some r → Q [(18, .p (.c (.v (.int .i64 x9_1))))]) k [(18, .p (.c (.v (.int .i64 x9_1))))] := ⟨fun j h => j h⟩
instance spec_ntGood.lp1 {k : Nat} {r : Bool} {Q : Wr → Prop} {p0 : List (S55)} {p1 : List (S55)} {p2 : Int} {p3 : Int} {p4 : List (S55)} {p5 : Int} {p7 : Int} {p8 : Int} {p9 : Int} {x35_3 : Int} : Lp (spec_ntGood.l1 k p0 p1 p2 p3 p4 p5 x35_3 p7 p8 p9 = some r) Q (fun k => ∀ {x35_3 : Int}, spec_ntGood.l1 k p0 p1 p2 p3 p4 p5 x35_3 p7 p8 p9 = some r → Q [(70, .p (.c (.v (.int .i64 x35_3))))]) k [(70, .p (.c (.v (.int .i64 x35_3))))] := ⟨fun j h => j h⟩
set_option maxRecDepth 8000 in
set_option maxHeartbeats 2000000 in
theorem spec_ntGood.con (k : Nat) (l0 : List (S55)) (r : Bool) (H : spec_ntGood.f k l0 = some r) : Con Try.prog 53 [.p (.c (.sl K55 l0))] (.p (.c (.v (.bool r)))) := by
  refine Con.mk' (fn := Try.f53) Try.func53 rfl (by kernel_rfl) rfl rfl rfl fun X w0 gs hF => ?_
  unfold spec_ntGood.f at H
  exact auto
instance spec_ntGood.ctr {k : Nat} {l0 : List (S55)} {r : Bool} : Ctr (spec_ntGood.f k l0 = some r) (Con Try.prog 53 [.p (.c (.sl K55 l0))] (.p (.c (.v (.bool r))))) := ⟨spec_ntGood.con _ _ _⟩
/-! ### spec_inAsked: function 26 -/
def spec_inAsked.f (k : Nat) (l0_0 : List Int) (a0_1 : Int) (l1 : List (S55)) : Option (Bool) := (spec_inGood.f k l0_0 a0_1).bind fun t132 => (if t132 = true then ((spec_ntGood.f k l1).bind fun t133 => (some t133)) else (some false))
set_option maxRecDepth 8000 in
set_option maxHeartbeats 2000000 in
theorem spec_inAsked.con (k : Nat) (l0_0 : List Int) (a0_1 : Int) (l1 : List (S55)) (r : Bool) (H : spec_inAsked.f k l0_0 a0_1 l1 = some r) : Con Try.prog 26 [.p (.ag [.sl (.int .i64) l0_0, .v (.int .i64 a0_1)]), .p (.c (.sl K55 l1))] (.p (.c (.v (.bool r)))) := by
  refine Con.mk' (fn := Try.f26) Try.func26 rfl (by kernel_rfl) rfl rfl rfl fun X w0 gs hF => ?_
  unfold spec_inAsked.f at H
  exact auto
instance spec_inAsked.ctr {k : Nat} {l0_0 : List Int} {a0_1 : Int} {l1 : List (S55)} {r : Bool} : Ctr (spec_inAsked.f k l0_0 a0_1 l1 = some r) (Con Try.prog 26 [.p (.ag [.sl (.int .i64) l0_0, .v (.int .i64 a0_1)]), .p (.c (.sl K55 l1))] (.p (.c (.v (.bool r))))) := ⟨spec_inAsked.con _ _ _ _ _⟩
/-! ### spec_trOrder: function 27 -/
def spec_trOrder.l0 : Nat → Int → List Int → Int → Option (List Int)
  | 0, _, _, _ => none
  | k + 1, x0, x3, x4 => if x4 ≤ x0 then ((some (([wrap64 (-x4), x4] : List Int) : List Int)).bind fun y137 => (if x3.length + y137.length < 17592186044416 then (spec_trOrder.l0 k x0 (x3 ++ y137) (wrap64 (x4 + 1))) else (none))) else (some x3)
def spec_trOrder.f (k : Nat) (a0 : Int) : Option (List Int) := spec_trOrder.l0 k a0 (([0] : List Int)) 1
instance spec_trOrder.lp0 {k : Nat} {r : List Int} {Q : Wr → Prop} {p0 : Int} {x3_1 : List Int} {x4_1 : Int} : Lp (spec_trOrder.l0 k p0 x3_1 x4_1 = some r) Q (fun k => ∀ {x3_1 : List Int} {x4_1 : Int}, spec_trOrder.l0 k p0 x3_1 x4_1 = some r → Q [(6, .p (.c (.rp (Try.f27.ntmps + 3)))), (2 * (Try.f27.ntmps + 3) + 1, .row 3 (.int .i64) x3_1), (8, .p (.c (.v (.int .i64 x4_1))))]) k [(6, .p (.c (.rp (Try.f27.ntmps + 3)))), (2 * (Try.f27.ntmps + 3) + 1, .row 3 (.int .i64) x3_1), (8, .p (.c (.v (.int .i64 x4_1))))] := ⟨fun j h => j h⟩
set_option maxRecDepth 8000 in
set_option maxHeartbeats 2000000 in
theorem spec_trOrder.con (k : Nat) (a0 : Int) (r : List Int) (H : spec_trOrder.f k a0 = some r) : Con Try.prog 27 [.p (.c (.v (.int .i64 a0)))] (.p (.c (.ow 3 (.int .i64) r))) := by
  refine Con.mk' (fn := Try.f27) Try.func27 rfl (by kernel_rfl) rfl rfl rfl fun X w0 gs hF => ?_
  unfold spec_trOrder.f at H
  exact auto
instance spec_trOrder.ctr {k : Nat} {a0 : Int} {r : List Int} : Ctr (spec_trOrder.f k a0 = some r) (Con Try.prog 27 [.p (.c (.v (.int .i64 a0)))] (.p (.c (.ow 3 (.int .i64) r)))) := ⟨spec_trOrder.con _ _ _⟩
/-! ### spec_inTrack: function 54 -/
def spec_inTrack.l0 : Nat → Int → List Int → Int → Int → Option (Int)
  | 0, _, _, _, _ => none
  | k + 1, x1, x8, x9, x10 => if x10 < x9 then (if 0 ≤ x10 then (if x10 < (x8.length : Int) then (if (rd x8 x10) = x1 then (some x10) else (spec_inTrack.l0 k x1 x8 x9 (wrap64 (x10 + 1)))) else (none)) else (none)) else (some (-1))
def spec_inTrack.f (k : Nat) (l0_0 : List Int) (a0_1 : Int) (a1 : Int) : Option (Int) := spec_inTrack.l0 k a1 l0_0 (l0_0.length : Int) 0
instance spec_inTrack.lp0 {k : Nat} {r : Int} {Q : Wr → Prop} {p0 : Int} {p1 : List Int} {p2 : Int} {x10_1 : Int} : Lp (spec_inTrack.l0 k p0 p1 p2 x10_1 = some r) Q (fun k => ∀ {x10_1 : Int}, spec_inTrack.l0 k p0 p1 p2 x10_1 = some r → Q [(20, .p (.c (.v (.int .i64 x10_1))))]) k [(20, .p (.c (.v (.int .i64 x10_1))))] := ⟨fun j h => j h⟩
set_option maxRecDepth 8000 in
set_option maxHeartbeats 2000000 in
theorem spec_inTrack.con (k : Nat) (l0_0 : List Int) (a0_1 : Int) (a1 : Int) (r : Int) (H : spec_inTrack.f k l0_0 a0_1 a1 = some r) : Con Try.prog 54 [.p (.ag [.sl (.int .i64) l0_0, .v (.int .i64 a0_1)]), .p (.c (.v (.int .i64 a1)))] (.p (.c (.v (.int .i64 r)))) := by
  refine Con.mk' (fn := Try.f54) Try.func54 rfl (by kernel_rfl) rfl rfl rfl fun X w0 gs hF => ?_
  unfold spec_inTrack.f at H
  exact auto
instance spec_inTrack.ctr {k : Nat} {l0_0 : List Int} {a0_1 : Int} {a1 : Int} {r : Int} : Ctr (spec_inTrack.f k l0_0 a0_1 a1 = some r) (Con Try.prog 54 [.p (.ag [.sl (.int .i64) l0_0, .v (.int .i64 a0_1)]), .p (.c (.v (.int .i64 a1)))] (.p (.c (.v (.int .i64 r))))) := ⟨spec_inTrack.con _ _ _ _ _⟩
/-! ### spec_trLoss: function 28 -/
def spec_trLoss.l0 : Nat → Int → Int → List (S55) → Int → Int → List Int → Int → Option (Int)
  | 0, _, _, _, _, _, _, _ => none
  | k + 1, x2, x7, x10, x11, x12, x146000, x146001 => if x12 < x11 then (if 0 ≤ x12 then (if x12 < (x10.length : Int) then ((spec_inTrack.f k x146000 x146001 (wrap64 (((rd_T55 x10 x12).f0) + x2))).bind fun t148 => (if t148 < 0 then (spec_trLoss.l0 k x2 (wrap64 (x7 + 1)) x10 x11 (wrap64 (x12 + 1)) x146000 x146001) else (spec_trLoss.l0 k x2 x7 x10 x11 (wrap64 (x12 + 1)) x146000 x146001))) else (none)) else (none)) else (some x7)
def spec_trLoss.f (k : Nat) (l0_0 : List Int) (a0_1 : Int) (l1 : List (S55)) (a2 : Int) : Option (Int) := spec_trLoss.l0 k a2 0 l1 (l1.length : Int) 0 l0_0 a0_1
instance spec_trLoss.lp0 {k : Nat} {r : Int} {Q : Wr → Prop} {p0 : Int} {p2 : List (S55)} {p3 : Int} {p5 : List Int} {p6 : Int} {x7_1 : Int} {x12_1 : Int} : Lp (spec_trLoss.l0 k p0 x7_1 p2 p3 x12_1 p5 p6 = some r) Q (fun k => ∀ {x7_1 : Int} {x12_1 : Int}, spec_trLoss.l0 k p0 x7_1 p2 p3 x12_1 p5 p6 = some r → Q [(14, .p (.c (.v (.int .i64 x7_1)))), (24, .p (.c (.v (.int .i64 x12_1))))]) k [(14, .p (.c (.v (.int .i64 x7_1)))), (24, .p (.c (.v (.int .i64 x12_1))))] := ⟨fun j h => j h⟩
set_option maxRecDepth 8000 in
set_option maxHeartbeats 2000000 in
theorem spec_trLoss.con (k : Nat) (l0_0 : List Int) (a0_1 : Int) (l1 : List (S55)) (a2 : Int) (r : Int) (H : spec_trLoss.f k l0_0 a0_1 l1 a2 = some r) : Con Try.prog 28 [.p (.ag [.sl (.int .i64) l0_0, .v (.int .i64 a0_1)]), .p (.c (.sl K55 l1)), .p (.c (.v (.int .i64 a2)))] (.p (.c (.v (.int .i64 r)))) := by
  refine Con.mk' (fn := Try.f28) Try.func28 rfl (by kernel_rfl) rfl rfl rfl fun X w0 gs hF => ?_
  unfold spec_trLoss.f at H
  exact auto
instance spec_trLoss.ctr {k : Nat} {l0_0 : List Int} {a0_1 : Int} {l1 : List (S55)} {a2 : Int} {r : Int} : Ctr (spec_trLoss.f k l0_0 a0_1 l1 a2 = some r) (Con Try.prog 28 [.p (.ag [.sl (.int .i64) l0_0, .v (.int .i64 a0_1)]), .p (.c (.sl K55 l1)), .p (.c (.v (.int .i64 a2)))] (.p (.c (.v (.int .i64 r))))) := ⟨spec_trLoss.con _ _ _ _ _ _⟩
/-! ### spec_BestTransposition: function 8 -/
def spec_BestTransposition.l0 : Nat → List (S55) → Int → Int → List Int → Int → Int → List Int → Int → Option (Int × Int × Bool)
  | 0, _, _, _, _, _, _, _, _ => none
  | k + 1, x1, x7, x8, x16, x17, x18, x150000, x150001 => if x18 < x17 then (if 0 ≤ x18 then (if x18 < (x16.length : Int) then ((spec_trLoss.f k x150000 x150001 x1 (rd x16 x18)).bind fun t155 => (if x8 < 0 then (spec_BestTransposition.l0 k x1 (rd x16 x18) t155 x16 x17 (wrap64 (x18 + 1)) x150000 x150001) else (if t155 < x8 then (spec_BestTransposition.l0 k x1 (rd x16 x18) t155 x16 x17 (wrap64 (x18 + 1)) x150000 x150001) else (spec_BestTransposition.l0 k x1 x7 x8 x16 x17 (wrap64 (x18 + 1)) x150000 x150001)))) else (none)) else (none)) else (some (x7, x8, true))
def spec_BestTransposition.f (k : Nat) (l0_0 : List Int) (a0_1 : Int) (l1 : List (S55)) : Option (Int × Int × Bool) := (spec_inAsked.f k l0_0 a0_1 l1).bind fun t150 => (if t150 = true then ((spec_trOrder.f k 24).bind fun t151 => (spec_BestTransposition.l0 k l1 0 (-1) t151 (t151.length : Int) 0 l0_0 a0_1)) else (some (0, 0, false)))
instance spec_BestTransposition.lp0 {k : Nat} {r : Int × Int × Bool} {Q : Wr → Prop} {p0 : List (S55)} {p3 : List Int} {p4 : Int} {p6 : List Int} {p7 : Int} {x7_1 : Int} {x8_1 : Int} {x18_1 : Int} : Lp (spec_BestTransposition.l0 k p0 x7_1 x8_1 p3 p4 x18_1 p6 p7 = some r) Q (fun k => ∀ {x7_1 : Int} {x8_1 : Int} {x18_1 : Int}, spec_BestTransposition.l0 k p0 x7_1 x8_1 p3 p4 x18_1 p6 p7 = some r → Q [(14, .p (.c (.v (.int .i64 x7_1)))), (16, .p (.c (.v (.int .i64 x8_1)))), (36, .p (.c (.v (.int .i64 x18_1))))]) k [(14, .p (.c (.v (.int .i64 x7_1)))), (16, .p (.c (.v (.int .i64 x8_1)))), (36, .p (.c (.v (.int .i64 x18_1))))] := ⟨fun j h => j h⟩
set_option maxRecDepth 8000 in
set_option maxHeartbeats 2000000 in
theorem spec_BestTransposition.con (k : Nat) (l0_0 : List Int) (a0_1 : Int) (l1 : List (S55)) (r1 : Int) (r2 : Int) (r3 : Bool) (H : spec_BestTransposition.f k l0_0 a0_1 l1 = some (r1, r2, r3)) : Con Try.prog 8 [.p (.ag [.sl (.int .i64) l0_0, .v (.int .i64 a0_1)]), .p (.c (.sl K55 l1))] (.tp [.c (.v (.int .i64 r1)), .c (.v (.int .i64 r2)), .c (.v (.bool r3))]) := by
  refine Con.mk' (fn := Try.f8) Try.func8 rfl (by kernel_rfl) rfl rfl rfl fun X w0 gs hF => ?_
  unfold spec_BestTransposition.f at H
  exact auto
instance spec_BestTransposition.ctr {k : Nat} {l0_0 : List Int} {a0_1 : Int} {l1 : List (S55)} {t_ : (Int) × (Int) × (Bool)} : Ctr (spec_BestTransposition.f k l0_0 a0_1 l1 = some t_) (Con Try.prog 8 [.p (.ag [.sl (.int .i64) l0_0, .v (.int .i64 a0_1)]), .p (.c (.sl K55 l1))] (.tp [.c (.v (.int .i64 t_.1)), .c (.v (.int .i64 t_.2.1)), .c (.v (.bool t_.2.2))])) := ⟨fun h => spec_BestTransposition.con _ _ _ _ (t_.1) (t_.2.1) (t_.2.2) h⟩
/-! ### laws_toIntS: function 29 -/
def laws_toIntS.l0 : Nat → List Int → List Int → Int → Option (List Int)
  | 0, _, _, _ => none
  | k + 1, x0, x3, x4 => if x4 < (x0.length : Int) then (if 0 ≤ x4 then (if x4 < (x3.length : Int) then (laws_toIntS.l0 k x0 (x3.set (x4 : Int).toNat (rd x0 x4)) (wrap64 (x4 + 1))) else (none)) else (none)) else (some x3)
def laws_toIntS.f (k : Nat) (l0 : List Int) : Option (List Int) := if 0 ≤ (l0.length : Int) then (if ((l0.length : Int) : Int).toNat ≤ 35184372088832 then (laws_toIntS.l0 k l0 (List.replicate ((l0.length : Int) : Int).toNat 0) 0) else (none)) else (none)
instance laws_toIntS.lp0 {k : Nat} {r : List Int} {Q : Wr → Prop} {p0 : List Int} {x3_1 : List Int} {x4_1 : Int} : Lp (laws_toIntS.l0 k p0 x3_1 x4_1 = some r) Q (fun k => ∀ {x3_1 : List Int} {x4_1 : Int}, laws_toIntS.l0 k p0 x3_1 x4_1 = some r → Q [(6, .p (.c (.rp (Try.f29.ntmps + 3)))), (2 * (Try.f29.ntmps + 3) + 1, .row 3 (.int .i64) x3_1), (8, .p (.c (.v (.int .i64 x4_1))))]) k [(6, .p (.c (.rp (Try.f29.ntmps + 3)))), (2 * (Try.f29.ntmps + 3) + 1, .row 3 (.int .i64) x3_1), (8, .p (.c (.v (.int .i64 x4_1))))] := ⟨fun j h => j h⟩
set_option maxRecDepth 8000 in
set_option maxHeartbeats 2000000 in
theorem laws_toIntS.con (k : Nat) (l0 : List Int) (r : List Int) (H : laws_toIntS.f k l0 = some r) : Con Try.prog 29 [.p (.c (.sl (.int .i64) l0))] (.p (.c (.ow 3 (.int .i64) r))) := by
  refine Con.mk' (fn := Try.f29) Try.func29 rfl (by kernel_rfl) rfl rfl rfl fun X w0 gs hF => ?_
  unfold laws_toIntS.f at H
  exact auto
instance laws_toIntS.ctr {k : Nat} {l0 : List Int} {r : List Int} : Ctr (laws_toIntS.f k l0 = some r) (Con Try.prog 29 [.p (.c (.sl (.int .i64) l0))] (.p (.c (.ow 3 (.int .i64) r)))) := ⟨laws_toIntS.con _ _ _⟩
/-! ### laws_toInstrument: function 9 -/
def laws_toInstrument.f (k : Nat) (l0_0 : List Int) (a0_1 : Int) : Option (List Int × Int) := (laws_toIntS.f k l0_0).bind fun t164 => (some (t164, a0_1))
set_option maxRecDepth 8000 in
set_option maxHeartbeats 2000000 in
theorem laws_toInstrument.con (k : Nat) (l0_0 : List Int) (a0_1 : Int) (r1 : List Int) (r2 : Int) (H : laws_toInstrument.f k l0_0 a0_1 = some (r1, r2)) : Con Try.prog 9 [.p (.ag [.sl (.int .i64) l0_0, .v (.int .i64 a0_1)])] (.p (.ag [.ow 3 (.int .i64) r1, .v (.int .i64 r2)])) := by
  refine Con.mk' (fn := Try.f9) Try.func9 rfl (by kernel_rfl) rfl rfl rfl fun X w0 gs hF => ?_
  unfold laws_toInstrument.f at H
  exact auto
instance laws_toInstrument.ctr {k : Nat} {l0_0 : List Int} {a0_1 : Int} {t_ : (List Int) × (Int)} : Ctr (laws_toInstrument.f k l0_0 a0_1 = some t_) (Con Try.prog 9 [.p (.ag [.sl (.int .i64) l0_0, .v (.int .i64 a0_1)])] (.p (.ag [.ow 3 (.int .i64) t_.1, .v (.int .i64 t_.2)]))) := ⟨fun h => laws_toInstrument.con _ _ _ (t_.1) (t_.2) h⟩
/-! ### laws_toNote: function 30 -/
def laws_toNote.f (a0_0 : Int) (a0_1 : Int) (a0_2 : Int) : Option (Int × Int × Int) := some (a0_0, a0_1, a0_2)
set_option maxRecDepth 8000 in
set_option maxHeartbeats 2000000 in
theorem laws_toNote.con (a0_0 : Int) (a0_1 : Int) (a0_2 : Int) (r1 : Int) (r2 : Int) (r3 : Int) (H : laws_toNote.f a0_0 a0_1 a0_2 = some (r1, r2, r3)) : Con Try.prog 30 [.p (.ag [.v (.int .i64 a0_0), .v (.int .i64 a0_1), .v (.int .i64 a0_2)])] (.p (.ag [.v (.int .i64 r1), .v (.int .i64 r2), .v (.int .i64 r3)])) := by
  refine Con.mk' (fn := Try.f30) Try.func30 rfl (by kernel_rfl) rfl rfl rfl fun X w0 gs hF => ?_
  unfold laws_toNote.f at H
  exact auto
instance laws_toNote.ctr {a0_0 : Int} {a0_1 : Int} {a0_2 : Int} {t_ : (Int) × (Int) × (Int)} : Ctr (laws_toNote.f a0_0 a0_1 a0_2 = some t_) (Con Try.prog 30 [.p (.ag [.v (.int .i64 a0_0), .v (.int .i64 a0_1), .v (.int .i64 a0_2)])] (.p (.ag [.v (.int .i64 t_.1), .v (.int .i64 t_.2.1), .v (.int .i64 t_.2.2)]))) := ⟨fun h => laws_toNote.con _ _ _ (t_.1) (t_.2.1) (t_.2.2) h⟩
/-! ### laws_toNoteS: function 10 -/
def laws_toNoteS.l0 : Nat → List (S57) → List (S55) → Int → Option ((List (S55)))
  | 0, _, _, _ => none
  | k + 1, x0, x3, x4 => if x4 < (x0.length : Int) then (if 0 ≤ x4 then ((laws_toNote.f ((rd_T57 x0 x4).f0) ((rd_T57 x0 x4).f1) ((rd_T57 x0 x4).f2)).bind fun bt174 => (if x4 < (x3.length : Int) then (laws_toNoteS.l0 k x0 (x3.set (x4 : Int).toNat (⟨bt174.1, bt174.2.1, bt174.2.2⟩ : S55)) (wrap64 (x4 + 1))) else (none))) else (none)) else (some x3)
def laws_toNoteS.f (k : Nat) (l0 : List (S57)) : Option ((List (S55))) := if 0 ≤ (l0.length : Int) then (if ((l0.length : Int) : Int).toNat ≤ 11728124029610 then (laws_toNoteS.l0 k l0 (List.replicate ((l0.length : Int) : Int).toNat z55) 0) else (none)) else (none)
instance laws_toNoteS.lp0 {k : Nat} {r : (List (S55))} {Q : Wr → Prop} {p0 : List (S57)} {x3_1 : List (S55)} {x4_1 : Int} : Lp (laws_toNoteS.l0 k p0 x3_1 x4_1 = some r) Q (fun k => ∀ {x3_1 : List (S55)} {x4_1 : Int}, laws_toNoteS.l0 k p0 x3_1 x4_1 = some r → Q [(6, .p (.c (.rp (Try.f10.ntmps + 3)))), (2 * (Try.f10.ntmps + 3) + 1, .row 55 K55 x3_1), (8, .p (.c (.v (.int .i64 x4_1))))]) k [(6, .p (.c (.rp (Try.f10.ntmps + 3)))), (2 * (Try.f10.ntmps + 3) + 1, .row 55 K55 x3_1), (8, .p (.c (.v (.int .i64 x4_1))))] := ⟨fun j h => j h⟩
set_option maxRecDepth 8000 in
set_option maxHeartbeats 2000000 in
theorem laws_toNoteS.con (k : Nat) (l0 : List (S57)) (r : List (S55)) (H : laws_toNoteS.f k l0 = some r) : Con Try.prog 10 [.p (.c (.sl K57 l0))] (.p (.c (.ow 55 K55 r))) := by
  refine Con.mk' (fn := Try.f10) Try.func10 rfl (by kernel_rfl) rfl rfl rfl fun X w0 gs hF => ?_
  unfold laws_toNoteS.f at H
  exact auto
instance laws_toNoteS.ctr {k : Nat} {l0 : List (S57)} {r : List (S55)} : Ctr (laws_toNoteS.f k l0 = some r) (Con Try.prog 10 [.p (.c (.sl K57 l0))] (.p (.c (.ow 55 K55 r)))) := ⟨laws_toNoteS.con _ _ _⟩
end Go.Proofs.Ytafapmanfncfkaa.B
