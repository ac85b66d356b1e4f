/- BY EV: what the Go functions compute (read off the print), and that their calls come to it. No condition. -/
import Derived.Test.YtlhhjdlaljmppaaGreatTEU
set_option linter.unusedVariables false
set_option linter.unusedSimpArgs false
namespace Go.Proofs.YtlhhjdlaljmppaaGreat.T
open Go.RowKit Go.Proofs Go.Proofs.YtlhhjdlaljmppaaGreatW.PrintWords Go.Proofs.YtlhhjdlaljmppaaGreatW.PrintLast EV
/-! ### laws_big: function 4 -/
def laws_big.f (l0 : List Int) (l1 : List Int) : Option (Bool) := if (l0.length : Int) > 1048576 then (some true) else (some (decide ((l1.length : Int) > (wrap64 (1048576 - (l0.length : Int))))))
def IsS68 (w0 W : World) (g : Nat) (f0 : List Int) (f1 : Int) (f2 : Int) : Prop := ∃ A0 c0, W.heap[g]? = some (.cells #[.slice A0 f0.length c0, .int .i64 f1, .int .u64 f2] 68 (0, 0)) ∧ w0.heap.size ≤ g ∧ Kd.C (Kd.int .u8) w0 A0 f0.length f0
set_option maxRecDepth 20000 in
set_option maxHeartbeats 2000000 in
theorem laws_big.con (l0 : List Int) (l1 : List Int) (r : Bool) (H : laws_big.f l0 l1 = some r) : Con Tryz.prog 4 [.p (.c (.sl (.int .u8) l0)), .p (.c (.sl (.int .u8) l1))] (.p (.c (.v (.bool r)))) := by
  refine Con.mk' (fn := Tryz.f4) Tryz.func4 rfl (by kernel_rfl) rfl rfl rfl fun X w0 gs hF => ?_
  unfold laws_big.f at H
  exact auto
instance laws_big.ctr {l0 : List Int} {l1 : List Int} {r : Bool} : Ctr (laws_big.f l0 l1 = some r) (Con Tryz.prog 4 [.p (.c (.sl (.int .u8) l0)), .p (.c (.sl (.int .u8) l1))] (.p (.c (.v (.bool r))))) := ⟨laws_big.con _ _ _⟩
/-! ### spec_l1Cur_next: function 62 -/
def spec_l1Cur_next.f (s0_0 : List Int) (s0_1 : Int) (s0_2 : Int) : Option (Int × Int × Int) := if s0_1 < (s0_0.length : Int) then (if 0 ≤ s0_1 then (if (wrap64 (s0_1 + 1)) ≤ (s0_0.length : Int) then (some (wrap64 (rd s0_0 s0_1), wrap64 (s0_1 + 1), IntKind.u64.wrap ((IntKind.u64.wrap ((IntKind.u64.wrap (s0_2 * 6364136223846793005)) + (IntKind.u64.wrap (wrap64 (rd s0_0 s0_1))))) + 1442695040888963407))) else (some (wrap64 (Go.bits .and .u64 ((IntKind.u64.wrap ((IntKind.u64.wrap ((IntKind.u64.wrap (s0_2 * 6364136223846793005)) + (IntKind.u64.wrap (wrap64 (rd s0_0 s0_1))))) + 1442695040888963407)) / 1099511627776) 255), wrap64 (s0_1 + 1), IntKind.u64.wrap ((IntKind.u64.wrap ((IntKind.u64.wrap (s0_2 * 6364136223846793005)) + (IntKind.u64.wrap (wrap64 (rd s0_0 s0_1))))) + 1442695040888963407)))) else (none)) else (if (wrap64 (s0_1 + 1)) ≤ (s0_0.length : Int) then (some (0, wrap64 (s0_1 + 1), IntKind.u64.wrap ((IntKind.u64.wrap ((IntKind.u64.wrap (s0_2 * 6364136223846793005)) + 0)) + 1442695040888963407))) else (some (wrap64 (Go.bits .and .u64 ((IntKind.u64.wrap ((IntKind.u64.wrap ((IntKind.u64.wrap (s0_2 * 6364136223846793005)) + 0)) + 1442695040888963407)) / 1099511627776) 255), wrap64 (s0_1 + 1), IntKind.u64.wrap ((IntKind.u64.wrap ((IntKind.u64.wrap (s0_2 * 6364136223846793005)) + 0)) + 1442695040888963407))))
set_option maxRecDepth 20000 in
set_option maxHeartbeats 2000000 in
theorem spec_l1Cur_next.con (s0_0 : List Int) (s0_1 : Int) (s0_2 : Int) (r1 : Int) (r2 : Int) (r3 : Int) (H : spec_l1Cur_next.f s0_0 s0_1 s0_2 = some (r1, r2, r3)) : Con Tryz.prog 62 [.p (.ob 68 [.sl (.int .u8) s0_0, .v (.int .i64 s0_1), .v (.int .u64 s0_2)])] (.p (.c (.v (.int .i64 r1)))) [(0, .ob 68 [.sl (.int .u8) s0_0, .v (.int .i64 r2), .v (.int .u64 r3)])] := by
  refine Con.mk' (fn := Tryz.f62) Tryz.func62 rfl (by kernel_rfl) rfl rfl rfl fun X w0 gs hF => ?_
  unfold spec_l1Cur_next.f at H
  exact auto
instance spec_l1Cur_next.ctr {s0_0 : List Int} {s0_1 : Int} {s0_2 : Int} {t_ : (Int) × (Int) × (Int)} : Ctr (spec_l1Cur_next.f s0_0 s0_1 s0_2 = some t_) (Con Tryz.prog 62 [.p (.ob 68 [.sl (.int .u8) s0_0, .v (.int .i64 s0_1), .v (.int .u64 s0_2)])] (.p (.c (.v (.int .i64 t_.1)))) [(0, .ob 68 [.sl (.int .u8) s0_0, .v (.int .i64 t_.2.1), .v (.int .u64 t_.2.2)])]) := ⟨fun h => spec_l1Cur_next.con _ _ _ (t_.1) (t_.2.1) (t_.2.2) h⟩
/-! ### spec_l1Cur_pick: function 46 -/
def spec_l1Cur_pick.f (s0_0 : List Int) (s0_1 : Int) (s0_2 : Int) (a1 : Int) : Option (Int × Int × Int) := if a1 ≤ 1 then (some (0, s0_1, s0_2)) else ((spec_l1Cur_next.f s0_0 s0_1 s0_2).bind fun bt102 => (if a1 > 200 then ((spec_l1Cur_next.f s0_0 bt102.2.1 bt102.2.2).bind fun bt105 => (if a1 = 0 then (none) else (some (Int.tmod (wrap64 ((wrap64 (bt102.1 * 256)) + bt105.1)) a1, bt105.2.1, bt105.2.2)))) else (if a1 = 0 then (none) else (some (Int.tmod bt102.1 a1, bt102.2.1, bt102.2.2)))))
set_option maxRecDepth 20000 in
set_option maxHeartbeats 2000000 in
theorem spec_l1Cur_pick.con (s0_0 : List Int) (s0_1 : Int) (s0_2 : Int) (a1 : Int) (r1 : Int) (r2 : Int) (r3 : Int) (H : spec_l1Cur_pick.f s0_0 s0_1 s0_2 a1 = some (r1, r2, r3)) : Con Tryz.prog 46 [.p (.ob 68 [.sl (.int .u8) s0_0, .v (.int .i64 s0_1), .v (.int .u64 s0_2)]), .p (.c (.v (.int .i64 a1)))] (.p (.c (.v (.int .i64 r1)))) [(0, .ob 68 [.sl (.int .u8) s0_0, .v (.int .i64 r2), .v (.int .u64 r3)])] := by
  refine Con.mk' (fn := Tryz.f46) Tryz.func46 rfl (by kernel_rfl) rfl rfl rfl fun X w0 gs hF => ?_
  unfold spec_l1Cur_pick.f at H
  exact auto
instance spec_l1Cur_pick.ctr {s0_0 : List Int} {s0_1 : Int} {s0_2 : Int} {a1 : Int} {t_ : (Int) × (Int) × (Int)} : Ctr (spec_l1Cur_pick.f s0_0 s0_1 s0_2 a1 = some t_) (Con Tryz.prog 46 [.p (.ob 68 [.sl (.int .u8) s0_0, .v (.int .i64 s0_1), .v (.int .u64 s0_2)]), .p (.c (.v (.int .i64 a1)))] (.p (.c (.v (.int .i64 t_.1)))) [(0, .ob 68 [.sl (.int .u8) s0_0, .v (.int .i64 t_.2.1), .v (.int .u64 t_.2.2)])]) := ⟨fun h => spec_l1Cur_pick.con _ _ _ _ (t_.1) (t_.2.1) (t_.2.2) h⟩
/-! ### spec_l1Cur_among: function 45 -/
def spec_l1Cur_among.f (s0_0 : List Int) (s0_1 : Int) (s0_2 : Int) (l1 : List Int) : Option (Int × Int × Int) := (spec_l1Cur_pick.f s0_0 s0_1 s0_2 (l1.length : Int)).bind fun bt108 => (if 0 ≤ bt108.1 then (if bt108.1 < (l1.length : Int) then (some (rd l1 bt108.1, bt108.2.1, bt108.2.2)) else (none)) else (none))
set_option maxRecDepth 20000 in
set_option maxHeartbeats 2000000 in
theorem spec_l1Cur_among.con (s0_0 : List Int) (s0_1 : Int) (s0_2 : Int) (l1 : List Int) (r1 : Int) (r2 : Int) (r3 : Int) (H : spec_l1Cur_among.f s0_0 s0_1 s0_2 l1 = some (r1, r2, r3)) : Con Tryz.prog 45 [.p (.ob 68 [.sl (.int .u8) s0_0, .v (.int .i64 s0_1), .v (.int .u64 s0_2)]), .p (.c (.sl (.int .i64) l1))] (.p (.c (.v (.int .i64 r1)))) [(0, .ob 68 [.sl (.int .u8) s0_0, .v (.int .i64 r2), .v (.int .u64 r3)])] := by
  refine Con.mk' (fn := Tryz.f45) Tryz.func45 rfl (by kernel_rfl) rfl rfl rfl fun X w0 gs hF => ?_
  unfold spec_l1Cur_among.f at H
  exact auto
instance spec_l1Cur_among.ctr {s0_0 : List Int} {s0_1 : Int} {s0_2 : Int} {l1 : List Int} {t_ : (Int) × (Int) × (Int)} : Ctr (spec_l1Cur_among.f s0_0 s0_1 s0_2 l1 = some t_) (Con Tryz.prog 45 [.p (.ob 68 [.sl (.int .u8) s0_0, .v (.int .i64 s0_1), .v (.int .u64 s0_2)]), .p (.c (.sl (.int .i64) l1))] (.p (.c (.v (.int .i64 t_.1)))) [(0, .ob 68 [.sl (.int .u8) s0_0, .v (.int .i64 t_.2.1), .v (.int .u64 t_.2.2)])]) := ⟨fun h => spec_l1Cur_among.con _ _ _ _ (t_.1) (t_.2.1) (t_.2.2) h⟩
/-! ### spec_l1Put: function 40 -/
def spec_l1Put.l0 : Nat → List Int → Int → Int → Option (List Int)
  | 0, _, _, _ => none
  | k + 1, x0, x1, x5 => if x5 < (x0.length : Int) then (if 0 ≤ x5 then (if (rd x0 x5) < x1 then (spec_l1Put.l0 k x0 x1 (wrap64 (x5 + 1))) else (if (rd x0 x5) = x1 then (some x0) else ((some (([] : List Int) : List Int)).bind fun y114 => (if x5 ≤ (x0.length : Int) then ((some (x0.take (x5 : Int).toNat : List Int)).bind fun y117 => (if y114.length + y117.length < 17592186044416 then ((some (y114 ++ y117 : List Int)).bind fun y121 => (if y121.length < 17592186044416 then ((some (y121 ++ [x1] : List Int)).bind fun y124 => ((some (x0.drop (x5 : Int).toNat : List Int)).bind fun y127 => (if y124.length + y127.length < 17592186044416 then (some (y124 ++ y127)) else (none)))) else (none))) else (none))) else (none))))) else (none)) else ((some (([] : List Int) : List Int)).bind fun y134 => (if 0 ≤ x5 then (if x5 ≤ (x0.length : Int) then ((some (x0.take (x5 : Int).toNat : List Int)).bind fun y137 => (if y134.length + y137.length < 17592186044416 then ((some (y134 ++ y137 : List Int)).bind fun y141 => (if y141.length < 17592186044416 then ((some (y141 ++ [x1] : List Int)).bind fun y144 => ((some (x0.drop (x5 : Int).toNat : List Int)).bind fun y147 => (if y144.length + y147.length < 17592186044416 then (some (y144 ++ y147)) else (none)))) else (none))) else (none))) else (none)) else (none)))
def spec_l1Put.f (k : Nat) (l0 : List Int) (a1 : Int) : Option (List Int) := spec_l1Put.l0 k l0 a1 0
instance spec_l1Put.lp0 {k : Nat} {r : List Int} {Q : Wr → Prop} {p0 : List Int} {p1 : Int} {x5_1 : Int} : Lp (spec_l1Put.l0 k p0 p1 x5_1 = some r) Q (fun k => ∀ {x5_1 : Int}, spec_l1Put.l0 k p0 p1 x5_1 = some r → Q [(10, .p (.c (.v (.int .i64 x5_1))))]) k [(10, .p (.c (.v (.int .i64 x5_1))))] := ⟨fun j h => j h⟩
set_option maxRecDepth 20000 in
set_option maxHeartbeats 2000000 in
theorem spec_l1Put.con (k : Nat) (l0 : List Int) (a1 : Int) (r : List Int) (H : spec_l1Put.f k l0 a1 = some r) : Con Tryz.prog 40 [.p (.c (.ow 3 (.int .i64) l0)), .p (.c (.v (.int .i64 a1)))] (.p (.c (.ow 3 (.int .i64) r))) := by
  refine Con.mk' (fn := Tryz.f40) Tryz.func40 rfl (by kernel_rfl) rfl rfl rfl fun X w0 gs hF => ?_
  unfold spec_l1Put.f at H
  exact auto
instance spec_l1Put.ctr {k : Nat} {l0 : List Int} {a1 : Int} {r : List Int} : Ctr (spec_l1Put.f k l0 a1 = some r) (Con Tryz.prog 40 [.p (.c (.ow 3 (.int .i64) l0)), .p (.c (.v (.int .i64 a1)))] (.p (.c (.ow 3 (.int .i64) r)))) := ⟨spec_l1Put.con _ _ _ _⟩
/-! ### spec_l1Cur_one: function 51 -/
def spec_l1Cur_one.f (s0_0 : List Int) (s0_1 : Int) (s0_2 : Int) (a1 : Int) : Option (Bool × Int × Int) := (spec_l1Cur_pick.f s0_0 s0_1 s0_2 a1).bind fun bt154 => (some ((bt154.1 == 0), bt154.2.1, bt154.2.2))
set_option maxRecDepth 20000 in
set_option maxHeartbeats 2000000 in
theorem spec_l1Cur_one.con (s0_0 : List Int) (s0_1 : Int) (s0_2 : Int) (a1 : Int) (r1 : Bool) (r2 : Int) (r3 : Int) (H : spec_l1Cur_one.f s0_0 s0_1 s0_2 a1 = some (r1, r2, r3)) : Con Tryz.prog 51 [.p (.ob 68 [.sl (.int .u8) s0_0, .v (.int .i64 s0_1), .v (.int .u64 s0_2)]), .p (.c (.v (.int .i64 a1)))] (.p (.c (.v (.bool r1)))) [(0, .ob 68 [.sl (.int .u8) s0_0, .v (.int .i64 r2), .v (.int .u64 r3)])] := by
  refine Con.mk' (fn := Tryz.f51) Tryz.func51 rfl (by kernel_rfl) rfl rfl rfl fun X w0 gs hF => ?_
  unfold spec_l1Cur_one.f at H
  exact auto
instance spec_l1Cur_one.ctr {s0_0 : List Int} {s0_1 : Int} {s0_2 : Int} {a1 : Int} {t_ : (Bool) × (Int) × (Int)} : Ctr (spec_l1Cur_one.f s0_0 s0_1 s0_2 a1 = some t_) (Con Tryz.prog 51 [.p (.ob 68 [.sl (.int .u8) s0_0, .v (.int .i64 s0_1), .v (.int .u64 s0_2)]), .p (.c (.v (.int .i64 a1)))] (.p (.c (.v (.bool t_.1)))) [(0, .ob 68 [.sl (.int .u8) s0_0, .v (.int .i64 t_.2.1), .v (.int .u64 t_.2.2)])]) := ⟨fun h => spec_l1Cur_one.con _ _ _ _ (t_.1) (t_.2.1) (t_.2.2) h⟩
/-! ### spec_l1Cur_instrument: function 61 -/
mutual
def spec_l1Cur_instrument.l0 : Nat → List Int → Int → Int → List Int → Int → Int → List Int → Int → Option (List Int × Int × Int × Int)
  | 0, _, _, _, _, _, _, _, _ => none
  | k + 1, x10, x11, x12, x1000, x1001, x1002, x165000, x165001 => if x12 < x11 then (if 0 ≤ x12 then (if x12 < (x10.length : Int) then ((spec_l1Cur_one.f x1000 x1001 x1002 4).bind fun bt169 => (if bt169.1 = true then (spec_l1Cur_instrument.l0 k x10 x11 (wrap64 (x12 + 1)) x1000 bt169.2.1 bt169.2.2 x165000 x165001) else (if x165000.length < 17592186044416 then (spec_l1Cur_instrument.l0 k x10 x11 (wrap64 (x12 + 1)) x1000 bt169.2.1 bt169.2.2 (x165000 ++ [rd x10 x12]) x165001) else (none)))) else (none)) else (none)) else ((spec_l1Cur_one.f x1000 x1001 x1002 4).bind fun bt175 => (if bt175.1 = true then (spec_l1Cur_instrument.j1 k true x1000 bt175.2.1 bt175.2.2 x165000 x165001) else (spec_l1Cur_instrument.j1 k ((x165000.length : Int) == 0) x1000 bt175.2.1 bt175.2.2 x165000 x165001)))
def spec_l1Cur_instrument.j1 : Nat → Bool → List Int → Int → Int → List Int → Int → Option (List Int × Int × Int × Int)
  | 0, _, _, _, _, _, _ => none
  | k + 1, x33, x1000, x1001, x1002, x165000, x165001 => if x33 = true then ((spec_l1Cur_pick.f x1000 x1001 x1002 73).bind fun bt178 => ((spec_l1Cur_among.f x1000 bt178.2.1 bt178.2.2 (([24, 96, wrap64 (24 + bt178.1)] : List Int))).bind fun bt184 => ((spec_l1Put.f k x165000 bt184.1).bind fun t187 => (spec_l1Cur_instrument.j2 k x1000 bt184.2.1 bt184.2.2 t187 x165001)))) else (spec_l1Cur_instrument.j2 k x1000 x1001 x1002 x165000 x165001)
def spec_l1Cur_instrument.j2 : Nat → List Int → Int → Int → List Int → Int → Option (List Int × Int × Int × Int)
  | 0, _, _, _, _, _ => none
  | k + 1, x1000, x1001, x1002, x165000, x165001 => (spec_l1Cur_one.f x1000 x1001 x1002 12).bind fun bt190 => (if bt190.1 = true then (spec_l1Cur_instrument.j3 k x1000 bt190.2.1 bt190.2.2 (([60] : List Int)) x165001) else (spec_l1Cur_instrument.j3 k x1000 bt190.2.1 bt190.2.2 x165000 x165001))
def spec_l1Cur_instrument.j3 : Nat → List Int → Int → Int → List Int → Int → Option (List Int × Int × Int × Int)
  | 0, _, _, _, _, _ => none
  | k + 1, x1000, x1001, x1002, x165000, x165001 => (spec_l1Cur_one.f x1000 x1001 x1002 20).bind fun bt196 => (if bt196.1 = true then (spec_l1Cur_instrument.l1 k x1000 bt196.2.1 bt196.2.2 ([] : List Int) x165001) else (some (x165000, x165001, bt196.2.1, bt196.2.2)))
def spec_l1Cur_instrument.l1 : Nat → List Int → Int → Int → List Int → Int → Option (List Int × Int × Int × Int)
  | 0, _, _, _, _, _ => none
  | k + 1, x1000, x1001, x1002, x165000, x165001 => if (x165000.length : Int) < 20 then (if x165000.length < 17592186044416 then (spec_l1Cur_instrument.l1 k x1000 x1001 x1002 (x165000 ++ [wrap64 (48 + (x165000.length : Int))]) x165001) else (none)) else (some (x165000, x165001, x1001, x1002))
end
def spec_l1Cur_instrument.f (k : Nat) (s0_0 : List Int) (s0_1 : Int) (s0_2 : Int) : Option (List Int × Int × Int × Int) := (spec_l1Cur_among.f s0_0 s0_1 s0_2 (([1, 1, 2, 3, 4, 8, 20] : List Int))).bind fun bt161 => ((some (([48, 50, 52, 53, 55, 57, 59, 60, 62, 64, 65, 67, 69, 71, 72] : List Int) : List Int)).bind fun y165 => (spec_l1Cur_instrument.l0 k y165 (y165.length : Int) 0 s0_0 bt161.2.1 bt161.2.2 ([] : List Int) bt161.1))
instance spec_l1Cur_instrument.lp0 {k : Nat} {r : List Int × Int × Int × Int} {Q : Wr → Prop} {p0 : List Int} {p1 : Int} {p3 : List Int} {p7 : Int} {x12_1 : Int} {x1001_1 : Int} {x1002_1 : Int} {x165000_1 : List Int} : Lp (spec_l1Cur_instrument.l0 k p0 p1 x12_1 p3 x1001_1 x1002_1 x165000_1 p7 = some r) Q (fun k => ∀ {x12_1 : Int} {x1001_1 : Int} {x1002_1 : Int} {x165000_1 : List Int}, spec_l1Cur_instrument.l0 k p0 p1 x12_1 p3 x1001_1 x1002_1 x165000_1 p7 = some r → Q [(6, .p (.c (.bx 3 0))), (7, .mem 26 [.rp (Tryz.f61.ntmps + 3), .v (.int .i64 p7)]), (2 * (Tryz.f61.ntmps + 3) + 1, .row 3 (.int .i64) x165000_1), (24, .p (.c (.v (.int .i64 x12_1)))), (0, .p (.c (.bx (2 * Tryz.f61.ntmps) 0))), (2 * (2 * Tryz.f61.ntmps) + 1, .mem 68 [.sl (.int .u8) p3, .v (.int .i64 x1001_1), .v (.int .u64 x1002_1)])]) k [(6, .p (.c (.bx 3 0))), (7, .mem 26 [.rp (Tryz.f61.ntmps + 3), .v (.int .i64 p7)]), (2 * (Tryz.f61.ntmps + 3) + 1, .row 3 (.int .i64) x165000_1), (24, .p (.c (.v (.int .i64 x12_1)))), (0, .p (.c (.bx (2 * Tryz.f61.ntmps) 0))), (2 * (2 * Tryz.f61.ntmps) + 1, .mem 68 [.sl (.int .u8) p3, .v (.int .i64 x1001_1), .v (.int .u64 x1002_1)])] := ⟨fun j h => j h⟩
instance spec_l1Cur_instrument.lp1 {k : Nat} {r : List Int × Int × Int × Int} {Q : Wr → Prop} {p0 : List Int} {p1 : Int} {p2 : Int} {p4 : Int} {x165000_5 : List Int} : Lp (spec_l1Cur_instrument.l1 k p0 p1 p2 x165000_5 p4 = some r) Q (fun k => ∀ {x165000_5 : List Int}, spec_l1Cur_instrument.l1 k p0 p1 p2 x165000_5 p4 = some r → Q [(6, .p (.c (.bx 3 0))), (7, .mem 26 [.rp (Tryz.f61.ntmps + 4), .v (.int .i64 p4)]), (2 * (Tryz.f61.ntmps + 4) + 1, .row 3 (.int .i64) x165000_5)]) k [(6, .p (.c (.bx 3 0))), (7, .mem 26 [.rp (Tryz.f61.ntmps + 4), .v (.int .i64 p4)]), (2 * (Tryz.f61.ntmps + 4) + 1, .row 3 (.int .i64) x165000_5)] := ⟨fun j h => j h⟩
set_option maxRecDepth 20000 in
set_option maxHeartbeats 2000000 in
theorem spec_l1Cur_instrument.con (k : Nat) (s0_0 : List Int) (s0_1 : Int) (s0_2 : Int) (r1 : List Int) (r2 : Int) (r3 : Int) (r4 : Int) (H : spec_l1Cur_instrument.f k s0_0 s0_1 s0_2 = some (r1, r2, r3, r4)) : Con Tryz.prog 61 [.p (.ob 68 [.sl (.int .u8) s0_0, .v (.int .i64 s0_1), .v (.int .u64 s0_2)])] (.p (.ag [.ow 3 (.int .i64) r1, .v (.int .i64 r2)])) [(0, .ob 68 [.sl (.int .u8) s0_0, .v (.int .i64 r3), .v (.int .u64 r4)])] := by
  refine Con.mk' (fn := Tryz.f61) Tryz.func61 rfl (by kernel_rfl) rfl rfl rfl fun X w0 gs hF => ?_
  unfold spec_l1Cur_instrument.f at H
  exact auto
instance spec_l1Cur_instrument.ctr {k : Nat} {s0_0 : List Int} {s0_1 : Int} {s0_2 : Int} {t_ : (List Int) × (Int) × (Int) × (Int)} : Ctr (spec_l1Cur_instrument.f k s0_0 s0_1 s0_2 = some t_) (Con Tryz.prog 61 [.p (.ob 68 [.sl (.int .u8) s0_0, .v (.int .i64 s0_1), .v (.int .u64 s0_2)])] (.p (.ag [.ow 3 (.int .i64) t_.1, .v (.int .i64 t_.2.1)])) [(0, .ob 68 [.sl (.int .u8) s0_0, .v (.int .i64 t_.2.2.1), .v (.int .u64 t_.2.2.2)])]) := ⟨fun h => spec_l1Cur_instrument.con _ _ _ _ (t_.1) (t_.2.1) (t_.2.2.1) (t_.2.2.2) h⟩
/-! ### spec_l1Cur_anyInstrument: function 44 -/
def spec_l1Cur_anyInstrument.l0 : Nat → List Int → Int → Int → List Int → Int → Option (List Int × Int × Int × Int)
  | 0, _, _, _, _, _ => none
  | k + 1, x1000, x1001, x1002, x210000, x210001 => if (x210000.length : Int) < 21 then (if x210000.length < 17592186044416 then (spec_l1Cur_anyInstrument.l0 k x1000 x1001 x1002 (x210000 ++ [wrap64 (48 + (x210000.length : Int))]) x210001) else (none)) else (some (x210000, x210001, x1001, x1002))
def spec_l1Cur_anyInstrument.f (k : Nat) (s0_0 : List Int) (s0_1 : Int) (s0_2 : Int) : Option (List Int × Int × Int × Int) := (spec_l1Cur_instrument.f k s0_0 s0_1 s0_2).bind fun bt203 => ((spec_l1Cur_pick.f s0_0 bt203.2.2.1 bt203.2.2.2 30).bind fun bt210 => (if bt210.1 = 0 then ((spec_l1Cur_among.f s0_0 bt210.2.1 bt210.2.2 (([0, 21] : List Int))).bind fun bt216 => (some (bt203.1, bt216.1, bt216.2.1, bt216.2.2))) else (if bt210.1 = 1 then ((spec_l1Cur_pick.f s0_0 bt210.2.1 bt210.2.2 (bt203.1.length : Int)).bind fun bt219 => ((spec_l1Cur_among.f s0_0 bt219.2.1 bt219.2.2 (([23, 60, 97] : List Int))).bind fun bt225 => (if 0 ≤ bt219.1 then (if bt219.1 < (bt203.1.length : Int) then (some ((bt203.1.set (bt219.1 : Int).toNat bt225.1), bt203.2.1, bt225.2.1, bt225.2.2)) else (none)) else (none)))) else (if bt210.1 = 2 then (some (([] : List Int), bt203.2.1, bt210.2.1, bt210.2.2)) else (if bt210.1 = 3 then (spec_l1Cur_anyInstrument.l0 k s0_0 bt210.2.1 bt210.2.2 ([] : List Int) bt203.2.1) else (some (bt203.1, bt203.2.1, bt210.2.1, bt210.2.2)))))))
instance spec_l1Cur_anyInstrument.lp0 {k : Nat} {r : List Int × Int × Int × Int} {Q : Wr → Prop} {p0 : List Int} {p1 : Int} {p2 : Int} {p4 : Int} {x210000_1 : List Int} : Lp (spec_l1Cur_anyInstrument.l0 k p0 p1 p2 x210000_1 p4 = some r) Q (fun k => ∀ {x210000_1 : List Int}, spec_l1Cur_anyInstrument.l0 k p0 p1 p2 x210000_1 p4 = some r → Q [(6, .p (.c (.bx 3 0))), (7, .mem 26 [.rp (Tryz.f44.ntmps + 3), .v (.int .i64 p4)]), (2 * (Tryz.f44.ntmps + 3) + 1, .row 3 (.int .i64) x210000_1)]) k [(6, .p (.c (.bx 3 0))), (7, .mem 26 [.rp (Tryz.f44.ntmps + 3), .v (.int .i64 p4)]), (2 * (Tryz.f44.ntmps + 3) + 1, .row 3 (.int .i64) x210000_1)] := ⟨fun j h => j h⟩
set_option maxRecDepth 20000 in
set_option maxHeartbeats 2000000 in
theorem spec_l1Cur_anyInstrument.con (k : Nat) (s0_0 : List Int) (s0_1 : Int) (s0_2 : Int) (r1 : List Int) (r2 : Int) (r3 : Int) (r4 : Int) (H : spec_l1Cur_anyInstrument.f k s0_0 s0_1 s0_2 = some (r1, r2, r3, r4)) : Con Tryz.prog 44 [.p (.ob 68 [.sl (.int .u8) s0_0, .v (.int .i64 s0_1), .v (.int .u64 s0_2)])] (.p (.ag [.ow 3 (.int .i64) r1, .v (.int .i64 r2)])) [(0, .ob 68 [.sl (.int .u8) s0_0, .v (.int .i64 r3), .v (.int .u64 r4)])] := by
  refine Con.mk' (fn := Tryz.f44) Tryz.func44 rfl (by kernel_rfl) rfl rfl rfl fun X w0 gs hF => ?_
  unfold spec_l1Cur_anyInstrument.f at H
  exact auto
instance spec_l1Cur_anyInstrument.ctr {k : Nat} {s0_0 : List Int} {s0_1 : Int} {s0_2 : Int} {t_ : (List Int) × (Int) × (Int) × (Int)} : Ctr (spec_l1Cur_anyInstrument.f k s0_0 s0_1 s0_2 = some t_) (Con Tryz.prog 44 [.p (.ob 68 [.sl (.int .u8) s0_0, .v (.int .i64 s0_1), .v (.int .u64 s0_2)])] (.p (.ag [.ow 3 (.int .i64) t_.1, .v (.int .i64 t_.2.1)])) [(0, .ob 68 [.sl (.int .u8) s0_0, .v (.int .i64 t_.2.2.1), .v (.int .u64 t_.2.2.2)])]) := ⟨fun h => spec_l1Cur_anyInstrument.con _ _ _ _ (t_.1) (t_.2.1) (t_.2.2.1) (t_.2.2.2) h⟩
/-! ### impl_isPitch: function 25 -/
def impl_isPitch.f (a0 : Int) : Option (Bool) := if a0 ≥ 24 then (some (decide (a0 ≤ 96))) else (some false)
set_option maxRecDepth 20000 in
set_option maxHeartbeats 2000000 in
theorem impl_isPitch.con (a0 : Int) (r : Bool) (H : impl_isPitch.f a0 = some r) : Con Tryz.prog 25 [.p (.c (.v (.int .i64 a0)))] (.p (.c (.v (.bool r)))) := by
  refine Con.mk' (fn := Tryz.f25) Tryz.func25 rfl (by kernel_rfl) rfl rfl rfl fun X w0 gs hF => ?_
  unfold impl_isPitch.f at H
  exact auto
instance impl_isPitch.ctr {a0 : Int} {r : Bool} : Ctr (impl_isPitch.f a0 = some r) (Con Tryz.prog 25 [.p (.c (.v (.int .i64 a0)))] (.p (.c (.v (.bool r))))) := ⟨impl_isPitch.con _ _⟩
/-! ### impl_IsInstrument: function 24 -/
mutual
def impl_IsInstrument.j0 : Nat → Bool → List Int → Int → Option (Bool)
  | 0, _, _, _ => none
  | k + 1, x24, x233000, x233001 => if x24 = true then (some false) else (impl_IsInstrument.l0 k x233000 (x233000.length : Int) 0 x233000 x233001)
def impl_IsInstrument.l0 : Nat → List Int → Int → Int → List Int → Int → Option (Bool)
  | 0, _, _, _, _, _ => none
  | k + 1, x26, x27, x28, x233000, x233001 => if x28 < x27 then (if 0 ≤ x28 then (if x28 < (x26.length : Int) then ((impl_isPitch.f (rd x26 x28)).bind fun t234 => (if t234 = true then (if x28 > 0 then (if 0 ≤ (wrap64 (x28 - 1)) then (if (wrap64 (x28 - 1)) < (x233000.length : Int) then (if (rd x26 x28) ≤ (rd x233000 (wrap64 (x28 - 1))) then (some false) else (impl_IsInstrument.l0 k x26 x27 (wrap64 (x28 + 1)) x233000 x233001)) else (none)) else (none)) else (impl_IsInstrument.l0 k x26 x27 (wrap64 (x28 + 1)) x233000 x233001)) else (some false))) else (none)) else (none)) else (some true)
end
def impl_IsInstrument.f (k : Nat) (l0_0 : List Int) (a0_1 : Int) : Option (Bool) := if (l0_0.length : Int) < 1 then (impl_IsInstrument.j0 k true l0_0 a0_1) else (if (l0_0.length : Int) > 20 then (impl_IsInstrument.j0 k true l0_0 a0_1) else (if a0_1 < 1 then (impl_IsInstrument.j0 k true l0_0 a0_1) else (impl_IsInstrument.j0 k (decide (a0_1 > 20)) l0_0 a0_1)))
instance impl_IsInstrument.lp0 {k : Nat} {r : Bool} {Q : Wr → Prop} {p0 : List Int} {p1 : Int} {p3 : List Int} {p4 : Int} {x28_2 : Int} : Lp (impl_IsInstrument.l0 k p0 p1 x28_2 p3 p4 = some r) Q (fun k => ∀ {x28_2 : Int}, impl_IsInstrument.l0 k p0 p1 x28_2 p3 p4 = some r → Q [(56, .p (.c (.v (.int .i64 x28_2))))]) k [(56, .p (.c (.v (.int .i64 x28_2))))] := ⟨fun j h => j h⟩
set_option maxRecDepth 20000 in
set_option maxHeartbeats 2000000 in
theorem impl_IsInstrument.con (k : Nat) (l0_0 : List Int) (a0_1 : Int) (r : Bool) (H : impl_IsInstrument.f k l0_0 a0_1 = some r) : Con Tryz.prog 24 [.p (.ag [.sl (.int .i64) l0_0, .v (.int .i64 a0_1)])] (.p (.c (.v (.bool r)))) := by
  refine Con.mk' (fn := Tryz.f24) Tryz.func24 rfl (by kernel_rfl) rfl rfl rfl fun X w0 gs hF => ?_
  unfold impl_IsInstrument.f at H
  exact auto
instance impl_IsInstrument.ctr {k : Nat} {l0_0 : List Int} {a0_1 : Int} {r : Bool} : Ctr (impl_IsInstrument.f k l0_0 a0_1 = some r) (Con Tryz.prog 24 [.p (.ag [.sl (.int .i64) l0_0, .v (.int .i64 a0_1)])] (.p (.c (.v (.bool r))))) := ⟨impl_IsInstrument.con _ _ _ _⟩
end Go.Proofs.YtlhhjdlaljmppaaGreat.T
