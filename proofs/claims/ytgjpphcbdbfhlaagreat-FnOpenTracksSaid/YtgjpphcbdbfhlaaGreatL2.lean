/- BY EV: what the Go functions compute (read off the print), and that their calls come to it. No condition. -/
import Derived.Test.YtgjpphcbdbfhlaaGreatLEU
set_option linter.unusedVariables false
set_option linter.unusedSimpArgs false
namespace Go.Proofs.YtgjpphcbdbfhlaaGreat.L
open Go.RowKit Go.Proofs Go.Proofs.YtgjpphcbdbfhlaaGreatW.PrintWords Go.Proofs.YtgjpphcbdbfhlaaGreatW.PrintLast EV
/-! ### spec_l1Cur_next: function 88 -/
def spec_l1Cur_next.f (s0_0 : List Int) (s0_1 : Int) (s0_2 : Int) : Option (Int × Int × Int) := if s0_1 < (s0_0.length : Int) then (if 0 ≤ s0_1 then (if (wrap64 (s0_1 + 1)) ≤ (s0_0.length : Int) then (some (wrap64 (rd s0_0 s0_1), wrap64 (s0_1 + 1), IntKind.u64.wrap ((IntKind.u64.wrap ((IntKind.u64.wrap (s0_2 * 6364136223846793005)) + (IntKind.u64.wrap (wrap64 (rd s0_0 s0_1))))) + 1442695040888963407))) else (some (wrap64 (Go.bits .and .u64 ((IntKind.u64.wrap ((IntKind.u64.wrap ((IntKind.u64.wrap (s0_2 * 6364136223846793005)) + (IntKind.u64.wrap (wrap64 (rd s0_0 s0_1))))) + 1442695040888963407)) / 1099511627776) 255), wrap64 (s0_1 + 1), IntKind.u64.wrap ((IntKind.u64.wrap ((IntKind.u64.wrap (s0_2 * 6364136223846793005)) + (IntKind.u64.wrap (wrap64 (rd s0_0 s0_1))))) + 1442695040888963407)))) else (none)) else (if (wrap64 (s0_1 + 1)) ≤ (s0_0.length : Int) then (some (0, wrap64 (s0_1 + 1), IntKind.u64.wrap ((IntKind.u64.wrap ((IntKind.u64.wrap (s0_2 * 6364136223846793005)) + 0)) + 1442695040888963407))) else (some (wrap64 (Go.bits .and .u64 ((IntKind.u64.wrap ((IntKind.u64.wrap ((IntKind.u64.wrap (s0_2 * 6364136223846793005)) + 0)) + 1442695040888963407)) / 1099511627776) 255), wrap64 (s0_1 + 1), IntKind.u64.wrap ((IntKind.u64.wrap ((IntKind.u64.wrap (s0_2 * 6364136223846793005)) + 0)) + 1442695040888963407))))
set_option maxRecDepth 20000 in
set_option maxHeartbeats 2000000 in
theorem spec_l1Cur_next.con (s0_0 : List Int) (s0_1 : Int) (s0_2 : Int) (r1 : Int) (r2 : Int) (r3 : Int) (H : spec_l1Cur_next.f s0_0 s0_1 s0_2 = some (r1, r2, r3)) : Con Tryz.prog 88 [.p (.ob 70 [.sl (.int .u8) s0_0, .v (.int .i64 s0_1), .v (.int .u64 s0_2)])] (.p (.c (.v (.int .i64 r1)))) [(0, .ob 70 [.sl (.int .u8) s0_0, .v (.int .i64 r2), .v (.int .u64 r3)])] := by
  refine Con.mk' (fn := Tryz.f88) Tryz.func88 rfl (by kernel_rfl) rfl rfl rfl fun X w0 gs hF => ?_
  unfold spec_l1Cur_next.f at H
  exact auto
instance spec_l1Cur_next.ctr {s0_0 : List Int} {s0_1 : Int} {s0_2 : Int} {t_ : (Int) × (Int) × (Int)} : Ctr (spec_l1Cur_next.f s0_0 s0_1 s0_2 = some t_) (Con Tryz.prog 88 [.p (.ob 70 [.sl (.int .u8) s0_0, .v (.int .i64 s0_1), .v (.int .u64 s0_2)])] (.p (.c (.v (.int .i64 t_.1)))) [(0, .ob 70 [.sl (.int .u8) s0_0, .v (.int .i64 t_.2.1), .v (.int .u64 t_.2.2)])]) := ⟨fun h => spec_l1Cur_next.con _ _ _ (t_.1) (t_.2.1) (t_.2.2) h⟩
/-! ### spec_l1Cur_pick: function 47 -/
def spec_l1Cur_pick.f (s0_0 : List Int) (s0_1 : Int) (s0_2 : Int) (a1 : Int) : Option (Int × Int × Int) := if a1 ≤ 1 then (some (0, s0_1, s0_2)) else ((spec_l1Cur_next.f s0_0 s0_1 s0_2).bind fun bt102 => (if a1 > 200 then ((spec_l1Cur_next.f s0_0 bt102.2.1 bt102.2.2).bind fun bt105 => (if a1 = 0 then (none) else (some (Int.tmod (wrap64 ((wrap64 (bt102.1 * 256)) + bt105.1)) a1, bt105.2.1, bt105.2.2)))) else (if a1 = 0 then (none) else (some (Int.tmod bt102.1 a1, bt102.2.1, bt102.2.2)))))
set_option maxRecDepth 20000 in
set_option maxHeartbeats 2000000 in
theorem spec_l1Cur_pick.con (s0_0 : List Int) (s0_1 : Int) (s0_2 : Int) (a1 : Int) (r1 : Int) (r2 : Int) (r3 : Int) (H : spec_l1Cur_pick.f s0_0 s0_1 s0_2 a1 = some (r1, r2, r3)) : Con Tryz.prog 47 [.p (.ob 70 [.sl (.int .u8) s0_0, .v (.int .i64 s0_1), .v (.int .u64 s0_2)]), .p (.c (.v (.int .i64 a1)))] (.p (.c (.v (.int .i64 r1)))) [(0, .ob 70 [.sl (.int .u8) s0_0, .v (.int .i64 r2), .v (.int .u64 r3)])] := by
  refine Con.mk' (fn := Tryz.f47) Tryz.func47 rfl (by kernel_rfl) rfl rfl rfl fun X w0 gs hF => ?_
  unfold spec_l1Cur_pick.f at H
  exact auto
instance spec_l1Cur_pick.ctr {s0_0 : List Int} {s0_1 : Int} {s0_2 : Int} {a1 : Int} {t_ : (Int) × (Int) × (Int)} : Ctr (spec_l1Cur_pick.f s0_0 s0_1 s0_2 a1 = some t_) (Con Tryz.prog 47 [.p (.ob 70 [.sl (.int .u8) s0_0, .v (.int .i64 s0_1), .v (.int .u64 s0_2)]), .p (.c (.v (.int .i64 a1)))] (.p (.c (.v (.int .i64 t_.1)))) [(0, .ob 70 [.sl (.int .u8) s0_0, .v (.int .i64 t_.2.1), .v (.int .u64 t_.2.2)])]) := ⟨fun h => spec_l1Cur_pick.con _ _ _ _ (t_.1) (t_.2.1) (t_.2.2) h⟩
/-! ### spec_l1Cur_among: function 46 -/
def spec_l1Cur_among.f (s0_0 : List Int) (s0_1 : Int) (s0_2 : Int) (l1 : List Int) : Option (Int × Int × Int) := (spec_l1Cur_pick.f s0_0 s0_1 s0_2 (l1.length : Int)).bind fun bt108 => (if 0 ≤ bt108.1 then (if bt108.1 < (l1.length : Int) then (some (rd l1 bt108.1, bt108.2.1, bt108.2.2)) else (none)) else (none))
set_option maxRecDepth 20000 in
set_option maxHeartbeats 2000000 in
theorem spec_l1Cur_among.con (s0_0 : List Int) (s0_1 : Int) (s0_2 : Int) (l1 : List Int) (r1 : Int) (r2 : Int) (r3 : Int) (H : spec_l1Cur_among.f s0_0 s0_1 s0_2 l1 = some (r1, r2, r3)) : Con Tryz.prog 46 [.p (.ob 70 [.sl (.int .u8) s0_0, .v (.int .i64 s0_1), .v (.int .u64 s0_2)]), .p (.c (.sl (.int .i64) l1))] (.p (.c (.v (.int .i64 r1)))) [(0, .ob 70 [.sl (.int .u8) s0_0, .v (.int .i64 r2), .v (.int .u64 r3)])] := by
  refine Con.mk' (fn := Tryz.f46) Tryz.func46 rfl (by kernel_rfl) rfl rfl rfl fun X w0 gs hF => ?_
  unfold spec_l1Cur_among.f at H
  exact auto
instance spec_l1Cur_among.ctr {s0_0 : List Int} {s0_1 : Int} {s0_2 : Int} {l1 : List Int} {t_ : (Int) × (Int) × (Int)} : Ctr (spec_l1Cur_among.f s0_0 s0_1 s0_2 l1 = some t_) (Con Tryz.prog 46 [.p (.ob 70 [.sl (.int .u8) s0_0, .v (.int .i64 s0_1), .v (.int .u64 s0_2)]), .p (.c (.sl (.int .i64) l1))] (.p (.c (.v (.int .i64 t_.1)))) [(0, .ob 70 [.sl (.int .u8) s0_0, .v (.int .i64 t_.2.1), .v (.int .u64 t_.2.2)])]) := ⟨fun h => spec_l1Cur_among.con _ _ _ _ (t_.1) (t_.2.1) (t_.2.2) h⟩
/-! ### spec_l1Cur_one: function 40 -/
def spec_l1Cur_one.f (s0_0 : List Int) (s0_1 : Int) (s0_2 : Int) (a1 : Int) : Option (Bool × Int × Int) := (spec_l1Cur_pick.f s0_0 s0_1 s0_2 a1).bind fun bt112 => (some ((bt112.1 == 0), bt112.2.1, bt112.2.2))
set_option maxRecDepth 20000 in
set_option maxHeartbeats 2000000 in
theorem spec_l1Cur_one.con (s0_0 : List Int) (s0_1 : Int) (s0_2 : Int) (a1 : Int) (r1 : Bool) (r2 : Int) (r3 : Int) (H : spec_l1Cur_one.f s0_0 s0_1 s0_2 a1 = some (r1, r2, r3)) : Con Tryz.prog 40 [.p (.ob 70 [.sl (.int .u8) s0_0, .v (.int .i64 s0_1), .v (.int .u64 s0_2)]), .p (.c (.v (.int .i64 a1)))] (.p (.c (.v (.bool r1)))) [(0, .ob 70 [.sl (.int .u8) s0_0, .v (.int .i64 r2), .v (.int .u64 r3)])] := by
  refine Con.mk' (fn := Tryz.f40) Tryz.func40 rfl (by kernel_rfl) rfl rfl rfl fun X w0 gs hF => ?_
  unfold spec_l1Cur_one.f at H
  exact auto
instance spec_l1Cur_one.ctr {s0_0 : List Int} {s0_1 : Int} {s0_2 : Int} {a1 : Int} {t_ : (Bool) × (Int) × (Int)} : Ctr (spec_l1Cur_one.f s0_0 s0_1 s0_2 a1 = some t_) (Con Tryz.prog 40 [.p (.ob 70 [.sl (.int .u8) s0_0, .v (.int .i64 s0_1), .v (.int .u64 s0_2)]), .p (.c (.v (.int .i64 a1)))] (.p (.c (.v (.bool t_.1)))) [(0, .ob 70 [.sl (.int .u8) s0_0, .v (.int .i64 t_.2.1), .v (.int .u64 t_.2.2)])]) := ⟨fun h => spec_l1Cur_one.con _ _ _ _ (t_.1) (t_.2.1) (t_.2.2) h⟩
/-! ### spec_l1Put: function 103 -/
def spec_l1Put.l0 : Nat → List Int → Int → Int → Option (List Int)
  | 0, _, _, _ => none
  | k + 1, x0, x1, x5 => if x5 < (x0.length : Int) then (if 0 ≤ x5 then (if (rd x0 x5) < x1 then (spec_l1Put.l0 k x0 x1 (wrap64 (x5 + 1))) else (if (rd x0 x5) = x1 then (some x0) else ((some (([] : List Int) : List Int)).bind fun y117 => (if x5 ≤ (x0.length : Int) then ((some (x0.take (x5 : Int).toNat : List Int)).bind fun y120 => (if y117.length + y120.length < 17592186044416 then ((some (y117 ++ y120 : List Int)).bind fun y124 => (if y124.length < 17592186044416 then ((some (y124 ++ [x1] : List Int)).bind fun y127 => ((some (x0.drop (x5 : Int).toNat : List Int)).bind fun y130 => (if y127.length + y130.length < 17592186044416 then (some (y127 ++ y130)) else (none)))) else (none))) else (none))) else (none))))) else (none)) else ((some (([] : List Int) : List Int)).bind fun y137 => (if 0 ≤ x5 then (if x5 ≤ (x0.length : Int) then ((some (x0.take (x5 : Int).toNat : List Int)).bind fun y140 => (if y137.length + y140.length < 17592186044416 then ((some (y137 ++ y140 : List Int)).bind fun y144 => (if y144.length < 17592186044416 then ((some (y144 ++ [x1] : List Int)).bind fun y147 => ((some (x0.drop (x5 : Int).toNat : List Int)).bind fun y150 => (if y147.length + y150.length < 17592186044416 then (some (y147 ++ y150)) else (none)))) else (none))) else (none))) else (none)) else (none)))
def spec_l1Put.f (k : Nat) (l0 : List Int) (a1 : Int) : Option (List Int) := spec_l1Put.l0 k l0 a1 0
instance spec_l1Put.lp0 {k : Nat} {r : List Int} {Q : Wr → Prop} {p0 : List Int} {p1 : Int} {x5_1 : Int} : Lp (spec_l1Put.l0 k p0 p1 x5_1 = some r) Q (fun k => ∀ {x5_1 : Int}, spec_l1Put.l0 k p0 p1 x5_1 = some r → Q [(10, .p (.c (.v (.int .i64 x5_1))))]) k [(10, .p (.c (.v (.int .i64 x5_1))))] := ⟨fun j h => j h⟩
set_option maxRecDepth 20000 in
set_option maxHeartbeats 2000000 in
theorem spec_l1Put.con (k : Nat) (l0 : List Int) (a1 : Int) (r : List Int) (H : spec_l1Put.f k l0 a1 = some r) : Con Tryz.prog 103 [.p (.c (.ow 3 (.int .i64) l0)), .p (.c (.v (.int .i64 a1)))] (.p (.c (.ow 3 (.int .i64) r))) := by
  refine Con.mk' (fn := Tryz.f103) Tryz.func103 rfl (by kernel_rfl) rfl rfl rfl fun X w0 gs hF => ?_
  unfold spec_l1Put.f at H
  exact auto
instance spec_l1Put.ctr {k : Nat} {l0 : List Int} {a1 : Int} {r : List Int} : Ctr (spec_l1Put.f k l0 a1 = some r) (Con Tryz.prog 103 [.p (.c (.ow 3 (.int .i64) l0)), .p (.c (.v (.int .i64 a1)))] (.p (.c (.ow 3 (.int .i64) r)))) := ⟨spec_l1Put.con _ _ _ _⟩
/-! ### spec_l1Cur_instrument: function 92 -/
mutual
def spec_l1Cur_instrument.l0 : Nat → List Int → Int → Int → List Int → Int → Int → List Int → Int → Option (List Int × Int × Int × Int)
  | 0, _, _, _, _, _, _, _, _ => none
  | k + 1, x10, x11, x12, x1000, x1001, x1002, x165000, x165001 => if x12 < x11 then (if 0 ≤ x12 then (if x12 < (x10.length : Int) then ((spec_l1Cur_one.f x1000 x1001 x1002 4).bind fun bt169 => (if bt169.1 = true then (spec_l1Cur_instrument.l0 k x10 x11 (wrap64 (x12 + 1)) x1000 bt169.2.1 bt169.2.2 x165000 x165001) else (if x165000.length < 17592186044416 then (spec_l1Cur_instrument.l0 k x10 x11 (wrap64 (x12 + 1)) x1000 bt169.2.1 bt169.2.2 (x165000 ++ [rd x10 x12]) x165001) else (none)))) else (none)) else (none)) else ((spec_l1Cur_one.f x1000 x1001 x1002 4).bind fun bt175 => (if bt175.1 = true then (spec_l1Cur_instrument.j1 k true x1000 bt175.2.1 bt175.2.2 x165000 x165001) else (spec_l1Cur_instrument.j1 k ((x165000.length : Int) == 0) x1000 bt175.2.1 bt175.2.2 x165000 x165001)))
def spec_l1Cur_instrument.j1 : Nat → Bool → List Int → Int → Int → List Int → Int → Option (List Int × Int × Int × Int)
  | 0, _, _, _, _, _, _ => none
  | k + 1, x33, x1000, x1001, x1002, x165000, x165001 => if x33 = true then ((spec_l1Cur_pick.f x1000 x1001 x1002 73).bind fun bt178 => ((spec_l1Cur_among.f x1000 bt178.2.1 bt178.2.2 (([24, 96, wrap64 (24 + bt178.1)] : List Int))).bind fun bt184 => ((spec_l1Put.f k x165000 bt184.1).bind fun t187 => (spec_l1Cur_instrument.j2 k x1000 bt184.2.1 bt184.2.2 t187 x165001)))) else (spec_l1Cur_instrument.j2 k x1000 x1001 x1002 x165000 x165001)
def spec_l1Cur_instrument.j2 : Nat → List Int → Int → Int → List Int → Int → Option (List Int × Int × Int × Int)
  | 0, _, _, _, _, _ => none
  | k + 1, x1000, x1001, x1002, x165000, x165001 => (spec_l1Cur_one.f x1000 x1001 x1002 12).bind fun bt190 => (if bt190.1 = true then (spec_l1Cur_instrument.j3 k x1000 bt190.2.1 bt190.2.2 (([60] : List Int)) x165001) else (spec_l1Cur_instrument.j3 k x1000 bt190.2.1 bt190.2.2 x165000 x165001))
def spec_l1Cur_instrument.j3 : Nat → List Int → Int → Int → List Int → Int → Option (List Int × Int × Int × Int)
  | 0, _, _, _, _, _ => none
  | k + 1, x1000, x1001, x1002, x165000, x165001 => (spec_l1Cur_one.f x1000 x1001 x1002 20).bind fun bt196 => (if bt196.1 = true then (spec_l1Cur_instrument.l1 k x1000 bt196.2.1 bt196.2.2 ([] : List Int) x165001) else (some (x165000, x165001, bt196.2.1, bt196.2.2)))
def spec_l1Cur_instrument.l1 : Nat → List Int → Int → Int → List Int → Int → Option (List Int × Int × Int × Int)
  | 0, _, _, _, _, _ => none
  | k + 1, x1000, x1001, x1002, x165000, x165001 => if (x165000.length : Int) < 20 then (if x165000.length < 17592186044416 then (spec_l1Cur_instrument.l1 k x1000 x1001 x1002 (x165000 ++ [wrap64 (48 + (x165000.length : Int))]) x165001) else (none)) else (some (x165000, x165001, x1001, x1002))
end
def spec_l1Cur_instrument.f (k : Nat) (s0_0 : List Int) (s0_1 : Int) (s0_2 : Int) : Option (List Int × Int × Int × Int) := (spec_l1Cur_among.f s0_0 s0_1 s0_2 (([1, 1, 2, 3, 4, 8, 20] : List Int))).bind fun bt161 => ((some (([48, 50, 52, 53, 55, 57, 59, 60, 62, 64, 65, 67, 69, 71, 72] : List Int) : List Int)).bind fun y165 => (spec_l1Cur_instrument.l0 k y165 (y165.length : Int) 0 s0_0 bt161.2.1 bt161.2.2 ([] : List Int) bt161.1))
instance spec_l1Cur_instrument.lp0 {k : Nat} {r : List Int × Int × Int × Int} {Q : Wr → Prop} {p0 : List Int} {p1 : Int} {p3 : List Int} {p7 : Int} {x12_1 : Int} {x1001_1 : Int} {x1002_1 : Int} {x165000_1 : List Int} : Lp (spec_l1Cur_instrument.l0 k p0 p1 x12_1 p3 x1001_1 x1002_1 x165000_1 p7 = some r) Q (fun k => ∀ {x12_1 : Int} {x1001_1 : Int} {x1002_1 : Int} {x165000_1 : List Int}, spec_l1Cur_instrument.l0 k p0 p1 x12_1 p3 x1001_1 x1002_1 x165000_1 p7 = some r → Q [(6, .p (.c (.bx 3 0))), (7, .mem 25 [.rp (Tryz.f92.ntmps + 3), .v (.int .i64 p7)]), (2 * (Tryz.f92.ntmps + 3) + 1, .row 3 (.int .i64) x165000_1), (24, .p (.c (.v (.int .i64 x12_1)))), (0, .p (.c (.bx (2 * Tryz.f92.ntmps) 0))), (2 * (2 * Tryz.f92.ntmps) + 1, .mem 70 [.sl (.int .u8) p3, .v (.int .i64 x1001_1), .v (.int .u64 x1002_1)])]) k [(6, .p (.c (.bx 3 0))), (7, .mem 25 [.rp (Tryz.f92.ntmps + 3), .v (.int .i64 p7)]), (2 * (Tryz.f92.ntmps + 3) + 1, .row 3 (.int .i64) x165000_1), (24, .p (.c (.v (.int .i64 x12_1)))), (0, .p (.c (.bx (2 * Tryz.f92.ntmps) 0))), (2 * (2 * Tryz.f92.ntmps) + 1, .mem 70 [.sl (.int .u8) p3, .v (.int .i64 x1001_1), .v (.int .u64 x1002_1)])] := ⟨fun j h => j h⟩
instance spec_l1Cur_instrument.lp1 {k : Nat} {r : List Int × Int × Int × Int} {Q : Wr → Prop} {p0 : List Int} {p1 : Int} {p2 : Int} {p4 : Int} {x165000_5 : List Int} : Lp (spec_l1Cur_instrument.l1 k p0 p1 p2 x165000_5 p4 = some r) Q (fun k => ∀ {x165000_5 : List Int}, spec_l1Cur_instrument.l1 k p0 p1 p2 x165000_5 p4 = some r → Q [(6, .p (.c (.bx 3 0))), (7, .mem 25 [.rp (Tryz.f92.ntmps + 4), .v (.int .i64 p4)]), (2 * (Tryz.f92.ntmps + 4) + 1, .row 3 (.int .i64) x165000_5)]) k [(6, .p (.c (.bx 3 0))), (7, .mem 25 [.rp (Tryz.f92.ntmps + 4), .v (.int .i64 p4)]), (2 * (Tryz.f92.ntmps + 4) + 1, .row 3 (.int .i64) x165000_5)] := ⟨fun j h => j h⟩
set_option maxRecDepth 20000 in
set_option maxHeartbeats 2000000 in
theorem spec_l1Cur_instrument.con (k : Nat) (s0_0 : List Int) (s0_1 : Int) (s0_2 : Int) (r1 : List Int) (r2 : Int) (r3 : Int) (r4 : Int) (H : spec_l1Cur_instrument.f k s0_0 s0_1 s0_2 = some (r1, r2, r3, r4)) : Con Tryz.prog 92 [.p (.ob 70 [.sl (.int .u8) s0_0, .v (.int .i64 s0_1), .v (.int .u64 s0_2)])] (.p (.ag [.ow 3 (.int .i64) r1, .v (.int .i64 r2)])) [(0, .ob 70 [.sl (.int .u8) s0_0, .v (.int .i64 r3), .v (.int .u64 r4)])] := by
  refine Con.mk' (fn := Tryz.f92) Tryz.func92 rfl (by kernel_rfl) rfl rfl rfl fun X w0 gs hF => ?_
  unfold spec_l1Cur_instrument.f at H
  exact auto
instance spec_l1Cur_instrument.ctr {k : Nat} {s0_0 : List Int} {s0_1 : Int} {s0_2 : Int} {t_ : (List Int) × (Int) × (Int) × (Int)} : Ctr (spec_l1Cur_instrument.f k s0_0 s0_1 s0_2 = some t_) (Con Tryz.prog 92 [.p (.ob 70 [.sl (.int .u8) s0_0, .v (.int .i64 s0_1), .v (.int .u64 s0_2)])] (.p (.ag [.ow 3 (.int .i64) t_.1, .v (.int .i64 t_.2.1)])) [(0, .ob 70 [.sl (.int .u8) s0_0, .v (.int .i64 t_.2.2.1), .v (.int .u64 t_.2.2.2)])]) := ⟨fun h => spec_l1Cur_instrument.con _ _ _ _ (t_.1) (t_.2.1) (t_.2.2.1) (t_.2.2.2) h⟩
/-! ### spec_l1Cur_anyInstrument: function 53 -/
def spec_l1Cur_anyInstrument.l0 : Nat → List Int → Int → Int → List Int → Int → Option (List Int × Int × Int × Int)
  | 0, _, _, _, _, _ => none
  | k + 1, x1000, x1001, x1002, x210000, x210001 => if (x210000.length : Int) < 21 then (if x210000.length < 17592186044416 then (spec_l1Cur_anyInstrument.l0 k x1000 x1001 x1002 (x210000 ++ [wrap64 (48 + (x210000.length : Int))]) x210001) else (none)) else (some (x210000, x210001, x1001, x1002))
def spec_l1Cur_anyInstrument.f (k : Nat) (s0_0 : List Int) (s0_1 : Int) (s0_2 : Int) : Option (List Int × Int × Int × Int) := (spec_l1Cur_instrument.f k s0_0 s0_1 s0_2).bind fun bt203 => ((spec_l1Cur_pick.f s0_0 bt203.2.2.1 bt203.2.2.2 30).bind fun bt210 => (if bt210.1 = 0 then ((spec_l1Cur_among.f s0_0 bt210.2.1 bt210.2.2 (([0, 21] : List Int))).bind fun bt216 => (some (bt203.1, bt216.1, bt216.2.1, bt216.2.2))) else (if bt210.1 = 1 then ((spec_l1Cur_pick.f s0_0 bt210.2.1 bt210.2.2 (bt203.1.length : Int)).bind fun bt219 => ((spec_l1Cur_among.f s0_0 bt219.2.1 bt219.2.2 (([23, 60, 97] : List Int))).bind fun bt225 => (if 0 ≤ bt219.1 then (if bt219.1 < (bt203.1.length : Int) then (some ((bt203.1.set (bt219.1 : Int).toNat bt225.1), bt203.2.1, bt225.2.1, bt225.2.2)) else (none)) else (none)))) else (if bt210.1 = 2 then (some (([] : List Int), bt203.2.1, bt210.2.1, bt210.2.2)) else (if bt210.1 = 3 then (spec_l1Cur_anyInstrument.l0 k s0_0 bt210.2.1 bt210.2.2 ([] : List Int) bt203.2.1) else (some (bt203.1, bt203.2.1, bt210.2.1, bt210.2.2)))))))
instance spec_l1Cur_anyInstrument.lp0 {k : Nat} {r : List Int × Int × Int × Int} {Q : Wr → Prop} {p0 : List Int} {p1 : Int} {p2 : Int} {p4 : Int} {x210000_1 : List Int} : Lp (spec_l1Cur_anyInstrument.l0 k p0 p1 p2 x210000_1 p4 = some r) Q (fun k => ∀ {x210000_1 : List Int}, spec_l1Cur_anyInstrument.l0 k p0 p1 p2 x210000_1 p4 = some r → Q [(6, .p (.c (.bx 3 0))), (7, .mem 25 [.rp (Tryz.f53.ntmps + 3), .v (.int .i64 p4)]), (2 * (Tryz.f53.ntmps + 3) + 1, .row 3 (.int .i64) x210000_1)]) k [(6, .p (.c (.bx 3 0))), (7, .mem 25 [.rp (Tryz.f53.ntmps + 3), .v (.int .i64 p4)]), (2 * (Tryz.f53.ntmps + 3) + 1, .row 3 (.int .i64) x210000_1)] := ⟨fun j h => j h⟩
set_option maxRecDepth 20000 in
set_option maxHeartbeats 2000000 in
theorem spec_l1Cur_anyInstrument.con (k : Nat) (s0_0 : List Int) (s0_1 : Int) (s0_2 : Int) (r1 : List Int) (r2 : Int) (r3 : Int) (r4 : Int) (H : spec_l1Cur_anyInstrument.f k s0_0 s0_1 s0_2 = some (r1, r2, r3, r4)) : Con Tryz.prog 53 [.p (.ob 70 [.sl (.int .u8) s0_0, .v (.int .i64 s0_1), .v (.int .u64 s0_2)])] (.p (.ag [.ow 3 (.int .i64) r1, .v (.int .i64 r2)])) [(0, .ob 70 [.sl (.int .u8) s0_0, .v (.int .i64 r3), .v (.int .u64 r4)])] := by
  refine Con.mk' (fn := Tryz.f53) Tryz.func53 rfl (by kernel_rfl) rfl rfl rfl fun X w0 gs hF => ?_
  unfold spec_l1Cur_anyInstrument.f at H
  exact auto
instance spec_l1Cur_anyInstrument.ctr {k : Nat} {s0_0 : List Int} {s0_1 : Int} {s0_2 : Int} {t_ : (List Int) × (Int) × (Int) × (Int)} : Ctr (spec_l1Cur_anyInstrument.f k s0_0 s0_1 s0_2 = some t_) (Con Tryz.prog 53 [.p (.ob 70 [.sl (.int .u8) s0_0, .v (.int .i64 s0_1), .v (.int .u64 s0_2)])] (.p (.ag [.ow 3 (.int .i64) t_.1, .v (.int .i64 t_.2.1)])) [(0, .ob 70 [.sl (.int .u8) s0_0, .v (.int .i64 t_.2.2.1), .v (.int .u64 t_.2.2.2)])]) := ⟨fun h => spec_l1Cur_anyInstrument.con _ _ _ _ (t_.1) (t_.2.1) (t_.2.2.1) (t_.2.2.2) h⟩
/-! ### impl_IsNote: function 55 -/
def impl_IsNote.f (a0_0 : Int) (a0_1 : Int) (a0_2 : Int) : Option (Bool) := if a0_0 ≥ 24 then (if a0_0 ≤ 96 then (if a0_1 ≥ 0 then (if a0_1 ≤ 999 then (if a0_2 ≥ 1 then (some (decide (a0_2 ≤ 99))) else (some false)) else (some false)) else (some false)) else (some false)) else (some false)
set_option maxRecDepth 20000 in
set_option maxHeartbeats 2000000 in
theorem impl_IsNote.con (a0_0 : Int) (a0_1 : Int) (a0_2 : Int) (r : Bool) (H : impl_IsNote.f a0_0 a0_1 a0_2 = some r) : Con Tryz.prog 55 [.p (.ag [.v (.int .i64 a0_0), .v (.int .i64 a0_1), .v (.int .i64 a0_2)])] (.p (.c (.v (.bool r)))) := by
  refine Con.mk' (fn := Tryz.f55) Tryz.func55 rfl (by kernel_rfl) rfl rfl rfl fun X w0 gs hF => ?_
  unfold impl_IsNote.f at H
  exact auto
instance impl_IsNote.ctr {a0_0 : Int} {a0_1 : Int} {a0_2 : Int} {r : Bool} : Ctr (impl_IsNote.f a0_0 a0_1 a0_2 = some r) (Con Tryz.prog 55 [.p (.ag [.v (.int .i64 a0_0), .v (.int .i64 a0_1), .v (.int .i64 a0_2)])] (.p (.c (.v (.bool r))))) := ⟨impl_IsNote.con _ _ _ _⟩
/-! ### impl_noteLess: function 83 -/
def impl_noteLess.f (a0_0 : Int) (a0_1 : Int) (a0_2 : Int) (a1_0 : Int) (a1_1 : Int) (a1_2 : Int) : Option (Bool) := if a0_1 = a1_1 then (some (decide (a0_0 < a1_0))) else (some (decide (a0_1 < a1_1)))
set_option maxRecDepth 20000 in
set_option maxHeartbeats 2000000 in
theorem impl_noteLess.con (a0_0 : Int) (a0_1 : Int) (a0_2 : Int) (a1_0 : Int) (a1_1 : Int) (a1_2 : Int) (r : Bool) (H : impl_noteLess.f a0_0 a0_1 a0_2 a1_0 a1_1 a1_2 = some r) : Con Tryz.prog 83 [.p (.ag [.v (.int .i64 a0_0), .v (.int .i64 a0_1), .v (.int .i64 a0_2)]), .p (.ag [.v (.int .i64 a1_0), .v (.int .i64 a1_1), .v (.int .i64 a1_2)])] (.p (.c (.v (.bool r)))) := by
  refine Con.mk' (fn := Tryz.f83) Tryz.func83 rfl (by kernel_rfl) rfl rfl rfl fun X w0 gs hF => ?_
  unfold impl_noteLess.f at H
  exact auto
instance impl_noteLess.ctr {a0_0 : Int} {a0_1 : Int} {a0_2 : Int} {a1_0 : Int} {a1_1 : Int} {a1_2 : Int} {r : Bool} : Ctr (impl_noteLess.f a0_0 a0_1 a0_2 a1_0 a1_1 a1_2 = some r) (Con Tryz.prog 83 [.p (.ag [.v (.int .i64 a0_0), .v (.int .i64 a0_1), .v (.int .i64 a0_2)]), .p (.ag [.v (.int .i64 a1_0), .v (.int .i64 a1_1), .v (.int .i64 a1_2)])] (.p (.c (.v (.bool r))))) := ⟨impl_noteLess.con _ _ _ _ _ _ _⟩
theorem impl_noteLess.calls (a0_0 : Int) (a0_1 : Int) (a0_2 : Int) (a1_0 : Int) (a1_1 : Int) (a1_2 : Int) (r : Bool) (w : World) (h : impl_noteLess.f a0_0 a0_1 a0_2 a1_0 a1_1 a1_2 = some r) :
    Calls Tryz.prog 83 #[.agg #[.int .i64 a0_0, .int .i64 a0_1, .int .i64 a0_2], .agg #[.int .i64 a1_0, .int .i64 a1_1, .int .i64 a1_2]] w fun e w' => e = .returned (.bool r) ∧ Below w.heap.size w w' :=
  (impl_noteLess.con a0_0 a0_1 a0_2 a1_0 a1_1 a1_2 r h).val rfl (show Args.relg (fun _ => False) w _ [.agg #[.int .i64 a0_0, .int .i64 a0_1, .int .i64 a0_2], .agg #[.int .i64 a1_0, .int .i64 a1_1, .int .i64 a1_2]] [.int .i64 a0_0, .int .i64 a0_1, .int .i64 a0_2, .int .i64 a1_0, .int .i64 a1_1, .int .i64 a1_2] from ⟨_, _, rfl, ⟨rfl, rfl, rfl, ⟨rfl, rfl, ⟨rfl, rfl, trivial⟩⟩⟩, ⟨_, _, rfl, ⟨rfl, rfl, rfl, ⟨rfl, rfl, ⟨rfl, rfl, trivial⟩⟩⟩, rfl⟩⟩)
/-! ### impl_noteEnd: function 84 -/
def impl_noteEnd.f (a0_0 : Int) (a0_1 : Int) (a0_2 : Int) : Option (Int) := some (wrap64 (a0_1 + a0_2))
set_option maxRecDepth 20000 in
set_option maxHeartbeats 2000000 in
theorem impl_noteEnd.con (a0_0 : Int) (a0_1 : Int) (a0_2 : Int) (r : Int) (H : impl_noteEnd.f a0_0 a0_1 a0_2 = some r) : Con Tryz.prog 84 [.p (.ag [.v (.int .i64 a0_0), .v (.int .i64 a0_1), .v (.int .i64 a0_2)])] (.p (.c (.v (.int .i64 r)))) := by
  refine Con.mk' (fn := Tryz.f84) Tryz.func84 rfl (by kernel_rfl) rfl rfl rfl fun X w0 gs hF => ?_
  unfold impl_noteEnd.f at H
  exact auto
instance impl_noteEnd.ctr {a0_0 : Int} {a0_1 : Int} {a0_2 : Int} {r : Int} : Ctr (impl_noteEnd.f a0_0 a0_1 a0_2 = some r) (Con Tryz.prog 84 [.p (.ag [.v (.int .i64 a0_0), .v (.int .i64 a0_1), .v (.int .i64 a0_2)])] (.p (.c (.v (.int .i64 r))))) := ⟨impl_noteEnd.con _ _ _ _⟩
end Go.Proofs.YtgjpphcbdbfhlaaGreat.L
