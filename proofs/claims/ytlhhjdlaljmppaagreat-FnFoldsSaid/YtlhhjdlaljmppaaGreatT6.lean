/- BY EV: what the Go functions compute (read off the print), and that their calls come to it. No condition. -/
import Derived.Test.YtlhhjdlaljmppaaGreatTEU
import Derived.Test.YtlhhjdlaljmppaaGreatT3
import Derived.Test.YtlhhjdlaljmppaaGreatT4
import Derived.Test.YtlhhjdlaljmppaaGreatT5
set_option linter.unusedVariables false
set_option linter.unusedSimpArgs false
namespace Go.Proofs.YtlhhjdlaljmppaaGreat.T
open Go.RowKit Go.Proofs Go.Proofs.YtlhhjdlaljmppaaGreatW.PrintWords Go.Proofs.YtlhhjdlaljmppaaGreatW.PrintLast EV
/-! ### spec_ntBefore: function 66 -/
def spec_ntBefore.f (a0_0 : Int) (a0_1 : Int) (a0_2 : Int) (a1_0 : Int) (a1_1 : Int) (a1_2 : Int) : Option (Bool) := if a0_1 < a1_1 then (some true) else (if a0_1 = a1_1 then (some (decide (a0_0 < a1_0))) else (some false))
set_option maxRecDepth 20000 in
set_option maxHeartbeats 2000000 in
theorem spec_ntBefore.con (a0_0 : Int) (a0_1 : Int) (a0_2 : Int) (a1_0 : Int) (a1_1 : Int) (a1_2 : Int) (r : Bool) (H : spec_ntBefore.f a0_0 a0_1 a0_2 a1_0 a1_1 a1_2 = some r) : Con Tryz.prog 66 [.p (.ag [.v (.int .i64 a0_0), .v (.int .i64 a0_1), .v (.int .i64 a0_2)]), .p (.ag [.v (.int .i64 a1_0), .v (.int .i64 a1_1), .v (.int .i64 a1_2)])] (.p (.c (.v (.bool r)))) := by
  refine Con.mk' (fn := Tryz.f66) Tryz.func66 rfl (by kernel_rfl) rfl rfl rfl fun X w0 gs hF => ?_
  unfold spec_ntBefore.f at H
  exact auto
instance spec_ntBefore.ctr {a0_0 : Int} {a0_1 : Int} {a0_2 : Int} {a1_0 : Int} {a1_1 : Int} {a1_2 : Int} {r : Bool} : Ctr (spec_ntBefore.f a0_0 a0_1 a0_2 a1_0 a1_1 a1_2 = some r) (Con Tryz.prog 66 [.p (.ag [.v (.int .i64 a0_0), .v (.int .i64 a0_1), .v (.int .i64 a0_2)]), .p (.ag [.v (.int .i64 a1_0), .v (.int .i64 a1_1), .v (.int .i64 a1_2)])] (.p (.c (.v (.bool r))))) := ⟨spec_ntBefore.con _ _ _ _ _ _ _⟩
theorem spec_ntBefore.calls (a0_0 : Int) (a0_1 : Int) (a0_2 : Int) (a1_0 : Int) (a1_1 : Int) (a1_2 : Int) (r : Bool) (w : World) (h : spec_ntBefore.f a0_0 a0_1 a0_2 a1_0 a1_1 a1_2 = some r) :
    Calls Tryz.prog 66 #[.agg #[.int .i64 a0_0, .int .i64 a0_1, .int .i64 a0_2], .agg #[.int .i64 a1_0, .int .i64 a1_1, .int .i64 a1_2]] w fun e w' => e = .returned (.bool r) ∧ Below w.heap.size w w' :=
  (spec_ntBefore.con a0_0 a0_1 a0_2 a1_0 a1_1 a1_2 r h).val rfl (show Args.relg (fun _ => False) w _ [.agg #[.int .i64 a0_0, .int .i64 a0_1, .int .i64 a0_2], .agg #[.int .i64 a1_0, .int .i64 a1_1, .int .i64 a1_2]] [.int .i64 a0_0, .int .i64 a0_1, .int .i64 a0_2, .int .i64 a1_0, .int .i64 a1_1, .int .i64 a1_2] from ⟨_, _, rfl, ⟨rfl, rfl, rfl, ⟨rfl, rfl, ⟨rfl, rfl, trivial⟩⟩⟩, ⟨_, _, rfl, ⟨rfl, rfl, rfl, ⟨rfl, rfl, ⟨rfl, rfl, trivial⟩⟩⟩, rfl⟩⟩)
/-! ### spec_ntMeet: function 67 -/
def spec_ntMeet.f (a0_0 : Int) (a0_1 : Int) (a0_2 : Int) (a1_0 : Int) (a1_1 : Int) (a1_2 : Int) : Option (Bool) := if a0_0 = a1_0 then (if a0_1 < (wrap64 (a1_1 + a1_2)) then (some (decide (a1_1 < (wrap64 (a0_1 + a0_2))))) else (some false)) else (some false)
set_option maxRecDepth 20000 in
set_option maxHeartbeats 2000000 in
theorem spec_ntMeet.con (a0_0 : Int) (a0_1 : Int) (a0_2 : Int) (a1_0 : Int) (a1_1 : Int) (a1_2 : Int) (r : Bool) (H : spec_ntMeet.f a0_0 a0_1 a0_2 a1_0 a1_1 a1_2 = some r) : Con Tryz.prog 67 [.p (.ag [.v (.int .i64 a0_0), .v (.int .i64 a0_1), .v (.int .i64 a0_2)]), .p (.ag [.v (.int .i64 a1_0), .v (.int .i64 a1_1), .v (.int .i64 a1_2)])] (.p (.c (.v (.bool r)))) := by
  refine Con.mk' (fn := Tryz.f67) Tryz.func67 rfl (by kernel_rfl) rfl rfl rfl fun X w0 gs hF => ?_
  unfold spec_ntMeet.f at H
  exact auto
instance spec_ntMeet.ctr {a0_0 : Int} {a0_1 : Int} {a0_2 : Int} {a1_0 : Int} {a1_1 : Int} {a1_2 : Int} {r : Bool} : Ctr (spec_ntMeet.f a0_0 a0_1 a0_2 a1_0 a1_1 a1_2 = some r) (Con Tryz.prog 67 [.p (.ag [.v (.int .i64 a0_0), .v (.int .i64 a0_1), .v (.int .i64 a0_2)]), .p (.ag [.v (.int .i64 a1_0), .v (.int .i64 a1_1), .v (.int .i64 a1_2)])] (.p (.c (.v (.bool r))))) := ⟨spec_ntMeet.con _ _ _ _ _ _ _⟩
/-! ### spec_ntGood: function 53 -/
mutual
def spec_ntGood.l0 : Nat → List (S47) → List (S47) → Int → Int → Option (Bool)
  | 0, _, _, _, _ => none
  | k + 1, x0, x7, x8, x9 => if x9 < x8 then (if 0 ≤ x9 then (if x9 < (x7.length : Int) then ((spec_ntNote.f ((rd_T47 x7 x9).f0) ((rd_T47 x7 x9).f1) ((rd_T47 x7 x9).f2)).bind fun t300 => (if t300 = true then (if x9 > 0 then (if 0 ≤ (wrap64 (x9 - 1)) then (if (wrap64 (x9 - 1)) < (x0.length : Int) then ((spec_ntBefore.f ((rd_T47 x0 (wrap64 (x9 - 1))).f0) ((rd_T47 x0 (wrap64 (x9 - 1))).f1) ((rd_T47 x0 (wrap64 (x9 - 1))).f2) ((rd_T47 x7 x9).f0) ((rd_T47 x7 x9).f1) ((rd_T47 x7 x9).f2)).bind fun t302 => (spec_ntGood.j1 k x0 x9 x7 x8 x9 (!t302) ((rd_T47 x7 x9).f0) ((rd_T47 x7 x9).f1) ((rd_T47 x7 x9).f2))) else (none)) else (none)) else (spec_ntGood.j1 k x0 x9 x7 x8 x9 false ((rd_T47 x7 x9).f0) ((rd_T47 x7 x9).f1) ((rd_T47 x7 x9).f2))) else (spec_ntGood.j1 k x0 x9 x7 x8 x9 true ((rd_T47 x7 x9).f0) ((rd_T47 x7 x9).f1) ((rd_T47 x7 x9).f2)))) else (none)) else (none)) else (some (decide ((x0.length : Int) ≤ 30)))
def spec_ntGood.j1 : Nat → List (S47) → Int → List (S47) → Int → Int → Bool → Int → Int → Int → Option (Bool)
  | 0, _, _, _, _, _, _, _, _, _ => none
  | k + 1, x0, x3, x7, x8, x9, x30, x300000, x300001, x300002 => if x30 = true then (some false) else (if 0 ≤ x3 then (if x3 ≤ (x0.length : Int) then ((some (x0.take (x3 : Int).toNat : List (S47))).bind fun y303 => (spec_ntGood.l1 k x0 x7 x8 x9 y303 (y303.length : Int) 0 x300000 x300001 x300002)) else (none)) else (none))
def spec_ntGood.l1 : Nat → List (S47) → List (S47) → Int → Int → List (S47) → Int → Int → Int → Int → Int → Option (Bool)
  | 0, _, _, _, _, _, _, _, _, _, _ => none
  | k + 1, x0, x7, x8, x9, x33, x34, x35, x300000, x300001, x300002 => if x35 < x34 then (if 0 ≤ x35 then (if x35 < (x33.length : Int) then ((spec_ntMeet.f x300000 x300001 x300002 ((rd_T47 x33 x35).f0) ((rd_T47 x33 x35).f1) ((rd_T47 x33 x35).f2)).bind fun t309 => (if t309 = true then (some false) else (spec_ntGood.l1 k x0 x7 x8 x9 x33 x34 (wrap64 (x35 + 1)) x300000 x300001 x300002))) else (none)) else (none)) else (spec_ntGood.l0 k x0 x7 x8 (wrap64 (x9 + 1)))
end
def spec_ntGood.f (k : Nat) (l0 : List (S47)) : Option (Bool) := spec_ntGood.l0 k l0 l0 (l0.length : Int) 0
instance spec_ntGood.lp0 {k : Nat} {r : Bool} {Q : Wr → Prop} {p0 : List (S47)} {p1 : List (S47)} {p2 : Int} {x9_1 : Int} : Lp (spec_ntGood.l0 k p0 p1 p2 x9_1 = some r) Q (fun k => ∀ {x9_1 : Int}, spec_ntGood.l0 k p0 p1 p2 x9_1 = some r → Q [(18, .p (.c (.v (.int .i64 x9_1))))]) k [(18, .p (.c (.v (.int .i64 x9_1))))] := ⟨fun j h => j h⟩
instance spec_ntGood.lp1 {k : Nat} {r : Bool} {Q : Wr → Prop} {p0 : List (S47)} {p1 : List (S47)} {p2 : Int} {p3 : Int} {p4 : List (S47)} {p5 : Int} {p7 : Int} {p8 : Int} {p9 : Int} {x35_3 : Int} : Lp (spec_ntGood.l1 k p0 p1 p2 p3 p4 p5 x35_3 p7 p8 p9 = some r) Q (fun k => ∀ {x35_3 : Int}, spec_ntGood.l1 k p0 p1 p2 p3 p4 p5 x35_3 p7 p8 p9 = some r → Q [(70, .p (.c (.v (.int .i64 x35_3))))]) k [(70, .p (.c (.v (.int .i64 x35_3))))] := ⟨fun j h => j h⟩
set_option maxRecDepth 20000 in
set_option maxHeartbeats 2000000 in
theorem spec_ntGood.con (k : Nat) (l0 : List (S47)) (r : Bool) (H : spec_ntGood.f k l0 = some r) : Con Tryz.prog 53 [.p (.c (.sl K47 l0))] (.p (.c (.v (.bool r)))) := by
  refine Con.mk' (fn := Tryz.f53) Tryz.func53 rfl (by kernel_rfl) rfl rfl rfl fun X w0 gs hF => ?_
  unfold spec_ntGood.f at H
  exact auto
instance spec_ntGood.ctr {k : Nat} {l0 : List (S47)} {r : Bool} : Ctr (spec_ntGood.f k l0 = some r) (Con Tryz.prog 53 [.p (.c (.sl K47 l0))] (.p (.c (.v (.bool r))))) := ⟨spec_ntGood.con _ _ _⟩
theorem spec_ntGood.calls (k : Nat) (A0 : Option Addr) (c0 : Nat) (l0 : List (S47)) (r : Bool) (w : World) (hr0 : Kd.C k47 w A0 l0.length l0) (hc0 : l0.length ≤ c0) (h : spec_ntGood.f k l0 = some r) :
    Calls Tryz.prog 53 #[.slice A0 l0.length c0] w fun e w' => e = .returned (.bool r) ∧ Below w.heap.size w w' :=
  (spec_ntGood.con k l0 r h).val rfl (show Args.relg (fun _ => False) w _ [.slice A0 l0.length c0] [.slice A0 l0.length c0] from ⟨_, _, rfl, ⟨rfl, A0, c0, rfl, hc0, row_of_C rfl (fun _ h => h) hr0⟩, rfl⟩)
/-! ### spec_l1Cur_note: function 78 -/
def spec_l1Cur_note.f (s0_0 : List Int) (s0_1 : Int) (s0_2 : Int) : Option (Int × Int × Int × Int × Int) := (spec_l1Cur_pick.f s0_0 s0_1 s0_2 73).bind fun bt311 => ((spec_l1Cur_among.f s0_0 bt311.2.1 bt311.2.2 (([48, 50, 52, 55, 60, 60, 62, 64, 67, 72, wrap64 (24 + bt311.1)] : List Int))).bind fun bt317 => ((spec_l1Cur_pick.f s0_0 bt317.2.1 bt317.2.2 40).bind fun bt320 => ((spec_l1Cur_pick.f s0_0 bt320.2.1 bt320.2.2 40).bind fun bt323 => ((spec_l1Cur_among.f s0_0 bt323.2.1 bt323.2.2 (([0, 2, 4, 8, bt320.1, bt323.1, 999] : List Int))).bind fun bt329 => ((spec_l1Cur_among.f s0_0 bt329.2.1 bt329.2.2 (([1, 2, 2, 4, 8, 99] : List Int))).bind fun bt335 => (some (bt317.1, bt329.1, bt335.1, bt335.2.1, bt335.2.2)))))))
set_option maxRecDepth 20000 in
set_option maxHeartbeats 2000000 in
theorem spec_l1Cur_note.con (s0_0 : List Int) (s0_1 : Int) (s0_2 : Int) (r1 : Int) (r2 : Int) (r3 : Int) (r4 : Int) (r5 : Int) (H : spec_l1Cur_note.f s0_0 s0_1 s0_2 = some (r1, r2, r3, r4, r5)) : Con Tryz.prog 78 [.p (.ob 68 [.sl (.int .u8) s0_0, .v (.int .i64 s0_1), .v (.int .u64 s0_2)])] (.p (.ag [.v (.int .i64 r1), .v (.int .i64 r2), .v (.int .i64 r3)])) [(0, .ob 68 [.sl (.int .u8) s0_0, .v (.int .i64 r4), .v (.int .u64 r5)])] := by
  refine Con.mk' (fn := Tryz.f78) Tryz.func78 rfl (by kernel_rfl) rfl rfl rfl fun X w0 gs hF => ?_
  unfold spec_l1Cur_note.f at H
  exact auto
instance spec_l1Cur_note.ctr {s0_0 : List Int} {s0_1 : Int} {s0_2 : Int} {t_ : (Int) × (Int) × (Int) × (Int) × (Int)} : Ctr (spec_l1Cur_note.f s0_0 s0_1 s0_2 = some t_) (Con Tryz.prog 78 [.p (.ob 68 [.sl (.int .u8) s0_0, .v (.int .i64 s0_1), .v (.int .u64 s0_2)])] (.p (.ag [.v (.int .i64 t_.1), .v (.int .i64 t_.2.1), .v (.int .i64 t_.2.2.1)])) [(0, .ob 68 [.sl (.int .u8) s0_0, .v (.int .i64 t_.2.2.2.1), .v (.int .u64 t_.2.2.2.2)])]) := ⟨fun h => spec_l1Cur_note.con _ _ _ (t_.1) (t_.2.1) (t_.2.2.1) (t_.2.2.2.1) (t_.2.2.2.2) h⟩
/-! ### spec_inAsked: function 33 -/
def spec_inAsked.f (k : Nat) (l0_0 : List Int) (a0_1 : Int) (l1 : List (S47)) : Option (Bool) := (spec_inGood.f k l0_0 a0_1).bind fun t386 => (if t386 = true then ((spec_ntGood.f k l1).bind fun t387 => (some t387)) else (some false))
set_option maxRecDepth 20000 in
set_option maxHeartbeats 2000000 in
theorem spec_inAsked.con (k : Nat) (l0_0 : List Int) (a0_1 : Int) (l1 : List (S47)) (r : Bool) (H : spec_inAsked.f k l0_0 a0_1 l1 = some r) : Con Tryz.prog 33 [.p (.ag [.sl (.int .i64) l0_0, .v (.int .i64 a0_1)]), .p (.c (.sl K47 l1))] (.p (.c (.v (.bool r)))) := by
  refine Con.mk' (fn := Tryz.f33) Tryz.func33 rfl (by kernel_rfl) rfl rfl rfl fun X w0 gs hF => ?_
  unfold spec_inAsked.f at H
  exact auto
instance spec_inAsked.ctr {k : Nat} {l0_0 : List Int} {a0_1 : Int} {l1 : List (S47)} {r : Bool} : Ctr (spec_inAsked.f k l0_0 a0_1 l1 = some r) (Con Tryz.prog 33 [.p (.ag [.sl (.int .i64) l0_0, .v (.int .i64 a0_1)]), .p (.c (.sl K47 l1))] (.p (.c (.v (.bool r))))) := ⟨spec_inAsked.con _ _ _ _ _⟩
/-! ### spec_ntChanged: function 52 -/
def spec_ntChanged.l0 : Nat → Int → Int → List (S47) → List (S47) → Int → Int → Option ((List (S47)) × Bool)
  | 0, _, _, _, _, _, _ => none
  | k + 1, x1, x2, x8, x11, x12, x13 => if x13 < x12 then (if 0 ≤ x13 then (if x13 < (x11.length : Int) then (if x8.length < 5864062014805 then (spec_ntChanged.l0 k x1 x2 (x8 ++ [(⟨wrap64 (((rd_T47 x11 x13).f0) + x1), wrap64 (((rd_T47 x11 x13).f1) + x2), (rd_T47 x11 x13).f2⟩ : S47)]) x11 x12 (wrap64 (x13 + 1))) else (none)) else (none)) else (none)) else ((spec_ntGood.f k x8).bind fun t393 => (if t393 = true then (some (x8, true)) else (some (([] : List (S47)), false))))
def spec_ntChanged.f (k : Nat) (l0 : List (S47)) (a1 : Int) (a2 : Int) : Option ((List (S47)) × Bool) := spec_ntChanged.l0 k a1 a2 ([] : List (S47)) l0 (l0.length : Int) 0
instance spec_ntChanged.lp0 {k : Nat} {r : (List (S47)) × Bool} {Q : Wr → Prop} {p0 : Int} {p1 : Int} {p3 : List (S47)} {p4 : Int} {x8_1 : List (S47)} {x13_1 : Int} : Lp (spec_ntChanged.l0 k p0 p1 x8_1 p3 p4 x13_1 = some r) Q (fun k => ∀ {x8_1 : List (S47)} {x13_1 : Int}, spec_ntChanged.l0 k p0 p1 x8_1 p3 p4 x13_1 = some r → Q [(16, .p (.c (.rp (Tryz.f52.ntmps + 8)))), (2 * (Tryz.f52.ntmps + 8) + 1, .row 47 K47 x8_1), (26, .p (.c (.v (.int .i64 x13_1))))]) k [(16, .p (.c (.rp (Tryz.f52.ntmps + 8)))), (2 * (Tryz.f52.ntmps + 8) + 1, .row 47 K47 x8_1), (26, .p (.c (.v (.int .i64 x13_1))))] := ⟨fun j h => j h⟩
set_option maxRecDepth 20000 in
set_option maxHeartbeats 2000000 in
theorem spec_ntChanged.con (k : Nat) (l0 : List (S47)) (a1 : Int) (a2 : Int) (r1 : List (S47)) (r2 : Bool) (H : spec_ntChanged.f k l0 a1 a2 = some (r1, r2)) : Con Tryz.prog 52 [.p (.c (.sl K47 l0)), .p (.c (.v (.int .i64 a1))), .p (.c (.v (.int .i64 a2)))] (.tp [.c (.ow 47 K47 r1), .c (.v (.bool r2))]) := by
  refine Con.mk' (fn := Tryz.f52) Tryz.func52 rfl (by kernel_rfl) rfl rfl rfl fun X w0 gs hF => ?_
  unfold spec_ntChanged.f at H
  exact auto
instance spec_ntChanged.ctr {k : Nat} {l0 : List (S47)} {a1 : Int} {a2 : Int} {t_ : (List (S47)) × (Bool)} : Ctr (spec_ntChanged.f k l0 a1 a2 = some t_) (Con Tryz.prog 52 [.p (.c (.sl K47 l0)), .p (.c (.v (.int .i64 a1))), .p (.c (.v (.int .i64 a2)))] (.tp [.c (.ow 47 K47 t_.1), .c (.v (.bool t_.2))])) := ⟨fun h => spec_ntChanged.con _ _ _ _ (t_.1) (t_.2) h⟩
/-! ### spec_trOrder: function 37 -/
def spec_trOrder.l0 : Nat → Int → List Int → Int → Option (List Int)
  | 0, _, _, _ => none
  | k + 1, x0, x3, x4 => if x4 ≤ x0 then ((some (([wrap64 (-x4), x4] : List Int) : List Int)).bind fun y451 => (if x3.length + y451.length < 17592186044416 then (spec_trOrder.l0 k x0 (x3 ++ y451) (wrap64 (x4 + 1))) else (none))) else (some x3)
def spec_trOrder.f (k : Nat) (a0 : Int) : Option (List Int) := spec_trOrder.l0 k a0 (([0] : List Int)) 1
instance spec_trOrder.lp0 {k : Nat} {r : List Int} {Q : Wr → Prop} {p0 : Int} {x3_1 : List Int} {x4_1 : Int} : Lp (spec_trOrder.l0 k p0 x3_1 x4_1 = some r) Q (fun k => ∀ {x3_1 : List Int} {x4_1 : Int}, spec_trOrder.l0 k p0 x3_1 x4_1 = some r → Q [(6, .p (.c (.rp (Tryz.f37.ntmps + 3)))), (2 * (Tryz.f37.ntmps + 3) + 1, .row 3 (.int .i64) x3_1), (8, .p (.c (.v (.int .i64 x4_1))))]) k [(6, .p (.c (.rp (Tryz.f37.ntmps + 3)))), (2 * (Tryz.f37.ntmps + 3) + 1, .row 3 (.int .i64) x3_1), (8, .p (.c (.v (.int .i64 x4_1))))] := ⟨fun j h => j h⟩
set_option maxRecDepth 20000 in
set_option maxHeartbeats 2000000 in
theorem spec_trOrder.con (k : Nat) (a0 : Int) (r : List Int) (H : spec_trOrder.f k a0 = some r) : Con Tryz.prog 37 [.p (.c (.v (.int .i64 a0)))] (.p (.c (.ow 3 (.int .i64) r))) := by
  refine Con.mk' (fn := Tryz.f37) Tryz.func37 rfl (by kernel_rfl) rfl rfl rfl fun X w0 gs hF => ?_
  unfold spec_trOrder.f at H
  exact auto
instance spec_trOrder.ctr {k : Nat} {a0 : Int} {r : List Int} : Ctr (spec_trOrder.f k a0 = some r) (Con Tryz.prog 37 [.p (.c (.v (.int .i64 a0)))] (.p (.c (.ow 3 (.int .i64) r)))) := ⟨spec_trOrder.con _ _ _⟩
/-! ### slices_Index_int_int: function 57 -/
def slices_Index_int_int.l0 : Nat → List Int → Int → Int → Int → Option (Int)
  | 0, _, _, _, _ => none
  | k + 1, x0, x1, x7, x8 => if x8 < x7 then (if 0 ≤ x8 then (if x8 < (x0.length : Int) then (if x1 = (rd x0 x8) then (some x8) else (slices_Index_int_int.l0 k x0 x1 x7 (wrap64 (x8 + 1)))) else (none)) else (none)) else (some (-1))
def slices_Index_int_int.f (k : Nat) (l0 : List Int) (a1 : Int) : Option (Int) := slices_Index_int_int.l0 k l0 a1 (l0.length : Int) 0
instance slices_Index_int_int.lp0 {k : Nat} {r : Int} {Q : Wr → Prop} {p0 : List Int} {p1 : Int} {p2 : Int} {x8_1 : Int} : Lp (slices_Index_int_int.l0 k p0 p1 p2 x8_1 = some r) Q (fun k => ∀ {x8_1 : Int}, slices_Index_int_int.l0 k p0 p1 p2 x8_1 = some r → Q [(16, .p (.c (.v (.int .i64 x8_1))))]) k [(16, .p (.c (.v (.int .i64 x8_1))))] := ⟨fun j h => j h⟩
set_option maxRecDepth 20000 in
set_option maxHeartbeats 2000000 in
theorem slices_Index_int_int.con (k : Nat) (l0 : List Int) (a1 : Int) (r : Int) (H : slices_Index_int_int.f k l0 a1 = some r) : Con Tryz.prog 57 [.p (.c (.sl (.int .i64) l0)), .p (.c (.v (.int .i64 a1)))] (.p (.c (.v (.int .i64 r)))) := by
  refine Con.mk' (fn := Tryz.f57) Tryz.func57 rfl (by kernel_rfl) rfl rfl rfl fun X w0 gs hF => ?_
  unfold slices_Index_int_int.f at H
  exact auto
instance slices_Index_int_int.ctr {k : Nat} {l0 : List Int} {a1 : Int} {r : Int} : Ctr (slices_Index_int_int.f k l0 a1 = some r) (Con Tryz.prog 57 [.p (.c (.sl (.int .i64) l0)), .p (.c (.v (.int .i64 a1)))] (.p (.c (.v (.int .i64 r))))) := ⟨slices_Index_int_int.con _ _ _ _⟩
/-! ### slices_Contains_int_int: function 38 -/
def slices_Contains_int_int.f (k : Nat) (l0 : List Int) (a1 : Int) : Option (Bool) := (slices_Index_int_int.f k l0 a1).bind fun t470 => (some (decide (t470 ≥ 0)))
set_option maxRecDepth 20000 in
set_option maxHeartbeats 2000000 in
theorem slices_Contains_int_int.con (k : Nat) (l0 : List Int) (a1 : Int) (r : Bool) (H : slices_Contains_int_int.f k l0 a1 = some r) : Con Tryz.prog 38 [.p (.c (.sl (.int .i64) l0)), .p (.c (.v (.int .i64 a1)))] (.p (.c (.v (.bool r)))) := by
  refine Con.mk' (fn := Tryz.f38) Tryz.func38 rfl (by kernel_rfl) rfl rfl rfl fun X w0 gs hF => ?_
  unfold slices_Contains_int_int.f at H
  exact auto
instance slices_Contains_int_int.ctr {k : Nat} {l0 : List Int} {a1 : Int} {r : Bool} : Ctr (slices_Contains_int_int.f k l0 a1 = some r) (Con Tryz.prog 38 [.p (.c (.sl (.int .i64) l0)), .p (.c (.v (.int .i64 a1)))] (.p (.c (.v (.bool r))))) := ⟨slices_Contains_int_int.con _ _ _ _⟩
/-! ### spec_PlayableClasses: function 20 -/
def spec_PlayableClasses.l0 : Nat → List Int → List Int → Int → Int → Option (List Int × Bool)
  | 0, _, _, _, _ => none
  | k + 1, x4, x11, x12, x13 => if x13 < x12 then (if 0 ≤ x13 then (if x13 < (x11.length : Int) then ((spec_l1Put.f k x4 (Int.tmod (rd x11 x13) 12)).bind fun t501 => (spec_PlayableClasses.l0 k t501 x11 x12 (wrap64 (x13 + 1)))) else (none)) else (none)) else (some (x4, true))
def spec_PlayableClasses.f (k : Nat) (l0_0 : List Int) (a0_1 : Int) : Option (List Int × Bool) := (spec_inGood.f k l0_0 a0_1).bind fun t499 => (if t499 = true then (spec_PlayableClasses.l0 k ([] : List Int) l0_0 (l0_0.length : Int) 0) else (some (([] : List Int), false)))
instance spec_PlayableClasses.lp0 {k : Nat} {r : List Int × Bool} {Q : Wr → Prop} {p1 : List Int} {p2 : Int} {x4_1 : List Int} {x13_1 : Int} : Lp (spec_PlayableClasses.l0 k x4_1 p1 p2 x13_1 = some r) Q (fun k => ∀ {x4_1 : List Int} {x13_1 : Int}, spec_PlayableClasses.l0 k x4_1 p1 p2 x13_1 = some r → Q [(8, .p (.c (.rp (Tryz.f20.ntmps + 4)))), (2 * (Tryz.f20.ntmps + 4) + 1, .row 3 (.int .i64) x4_1), (26, .p (.c (.v (.int .i64 x13_1))))]) k [(8, .p (.c (.rp (Tryz.f20.ntmps + 4)))), (2 * (Tryz.f20.ntmps + 4) + 1, .row 3 (.int .i64) x4_1), (26, .p (.c (.v (.int .i64 x13_1))))] := ⟨fun j h => j h⟩
set_option maxRecDepth 20000 in
set_option maxHeartbeats 2000000 in
theorem spec_PlayableClasses.con (k : Nat) (l0_0 : List Int) (a0_1 : Int) (r1 : List Int) (r2 : Bool) (H : spec_PlayableClasses.f k l0_0 a0_1 = some (r1, r2)) : Con Tryz.prog 20 [.p (.ag [.sl (.int .i64) l0_0, .v (.int .i64 a0_1)])] (.tp [.c (.ow 3 (.int .i64) r1), .c (.v (.bool r2))]) := by
  refine Con.mk' (fn := Tryz.f20) Tryz.func20 rfl (by kernel_rfl) rfl rfl rfl fun X w0 gs hF => ?_
  unfold spec_PlayableClasses.f at H
  exact auto
instance spec_PlayableClasses.ctr {k : Nat} {l0_0 : List Int} {a0_1 : Int} {t_ : (List Int) × (Bool)} : Ctr (spec_PlayableClasses.f k l0_0 a0_1 = some t_) (Con Tryz.prog 20 [.p (.ag [.sl (.int .i64) l0_0, .v (.int .i64 a0_1)])] (.tp [.c (.ow 3 (.int .i64) t_.1), .c (.v (.bool t_.2))])) := ⟨fun h => spec_PlayableClasses.con _ _ _ (t_.1) (t_.2) h⟩
end Go.Proofs.YtlhhjdlaljmppaaGreat.T
