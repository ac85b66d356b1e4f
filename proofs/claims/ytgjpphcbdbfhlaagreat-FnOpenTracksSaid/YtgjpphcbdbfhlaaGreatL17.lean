/- BY EV: what the Go functions compute (read off the print), and that their calls come to it. No condition. -/
import Derived.Test.YtgjpphcbdbfhlaaGreatLEU
import Derived.Test.YtgjpphcbdbfhlaaGreatL2
import Derived.Test.YtgjpphcbdbfhlaaGreatL3
import Derived.Test.YtgjpphcbdbfhlaaGreatL4
import Derived.Test.YtgjpphcbdbfhlaaGreatL5
import Derived.Test.YtgjpphcbdbfhlaaGreatL6
import Derived.Test.YtgjpphcbdbfhlaaGreatLDF
set_option linter.unusedVariables false
set_option linter.unusedSimpArgs false
namespace Go.Proofs.YtgjpphcbdbfhlaaGreat.L
open Go.RowKit Go.Proofs Go.Proofs.YtgjpphcbdbfhlaaGreatW.PrintWords Go.Proofs.YtgjpphcbdbfhlaaGreatW.PrintLast EV
/-! ### spec_l1Cur_score: function 106 -/
mutual
def spec_l1Cur_score.l0 : Nat → List (S36) → Int → Int → List Int → Int → Int → Option ((List (S36)) × Int × Int)
  | 0, _, _, _, _, _, _ => none
  | k + 1, x3, x4, x5, x1000, x1001, x1002 => if (x3.length : Int) < x4 then (spec_l1Cur_score.j2 k x3 x4 x5 (decide (x5 < 90)) x1000 x1001 x1002) else (spec_l1Cur_score.j2 k x3 x4 x5 false x1000 x1001 x1002)
def spec_l1Cur_score.j2 : Nat → List (S36) → Int → Int → Bool → List Int → Int → Int → Option ((List (S36)) × Int × Int)
  | 0, _, _, _, _, _, _, _ => none
  | k + 1, x3, x4, x5, x20, x1000, x1001, x1002 => if x20 = true then ((spec_l1Cur_note.f x1000 x1001 x1002).bind fun bt303 => (if x4 = 30 then ((spec_l1Cur_pick.f x1000 bt303.2.2.2.1 bt303.2.2.2.2 9).bind fun bt309 => ((some (([] : List (S36)) : List (S36))).bind fun y312 => (if y312.length + x3.length < 5864062014805 then ((some (y312 ++ x3 : List (S36))).bind fun y315 => ((some (([(⟨wrap64 (48 + wrap64 (2 * Int.tmod (x3.length : Int) 10)), wrap64 (3 * (x3.length : Int)), wrap64 (1 + bt309.1)⟩ : S36)] : List (S36)) : List (S36))).bind fun y318 => (if y315.length + y318.length < 5864062014805 then ((spec_ntSorted.f k (y315 ++ y318)).bind fun bt324 => (if bt324.2 = true then (spec_l1Cur_score.l0 k bt324.1 x4 (wrap64 (x5 + 1)) x1000 bt309.2.1 bt309.2.2) else (spec_l1Cur_score.l0 k x3 x4 (wrap64 (x5 + 1)) x1000 bt309.2.1 bt309.2.2))) else (none)))) else (none)))) else ((some (([] : List (S36)) : List (S36))).bind fun y328 => (if y328.length + x3.length < 5864062014805 then ((some (y328 ++ x3 : List (S36))).bind fun y331 => ((some (([(⟨bt303.1, bt303.2.1, bt303.2.2.1⟩ : S36)] : List (S36)) : List (S36))).bind fun y334 => (if y331.length + y334.length < 5864062014805 then ((spec_ntSorted.f k (y331 ++ y334)).bind fun bt340 => (if bt340.2 = true then (spec_l1Cur_score.l0 k bt340.1 x4 (wrap64 (x5 + 1)) x1000 bt303.2.2.2.1 bt303.2.2.2.2) else (spec_l1Cur_score.l0 k x3 x4 (wrap64 (x5 + 1)) x1000 bt303.2.2.2.1 bt303.2.2.2.2))) else (none)))) else (none))))) else (some (x3, x1001, x1002))
end
def spec_l1Cur_score.f (k : Nat) (s0_0 : List Int) (s0_1 : Int) (s0_2 : Int) : Option ((List (S36)) × Int × Int) := (spec_l1Cur_pick.f s0_0 s0_1 s0_2 9).bind fun bt297 => ((spec_l1Cur_one.f s0_0 bt297.2.1 bt297.2.2 20).bind fun bt300 => (if bt300.1 = true then (spec_l1Cur_score.l0 k ([] : List (S36)) 30 0 s0_0 bt300.2.1 bt300.2.2) else (spec_l1Cur_score.l0 k ([] : List (S36)) bt297.1 0 s0_0 bt300.2.1 bt300.2.2)))
instance spec_l1Cur_score.lp0 {k : Nat} {r : (List (S36)) × Int × Int} {Q : Wr → Prop} {p1 : Int} {p3 : List Int} {x3_2 : List (S36)} {x5_2 : Int} {x1001_2 : Int} {x1002_2 : Int} : Lp (spec_l1Cur_score.l0 k x3_2 p1 x5_2 p3 x1001_2 x1002_2 = some r) Q (fun k => ∀ {x3_2 : List (S36)} {x5_2 : Int} {x1001_2 : Int} {x1002_2 : Int}, spec_l1Cur_score.l0 k x3_2 p1 x5_2 p3 x1001_2 x1002_2 = some r → Q [(6, .p (.c (.rp (Tryz.f106.ntmps + 3)))), (2 * (Tryz.f106.ntmps + 3) + 1, .row 36 K36 x3_2), (10, .p (.c (.v (.int .i64 x5_2)))), (0, .p (.c (.bx (2 * Tryz.f106.ntmps) 0))), (2 * (2 * Tryz.f106.ntmps) + 1, .mem 70 [.sl (.int .u8) p3, .v (.int .i64 x1001_2), .v (.int .u64 x1002_2)])]) k [(6, .p (.c (.rp (Tryz.f106.ntmps + 3)))), (2 * (Tryz.f106.ntmps + 3) + 1, .row 36 K36 x3_2), (10, .p (.c (.v (.int .i64 x5_2)))), (0, .p (.c (.bx (2 * Tryz.f106.ntmps) 0))), (2 * (2 * Tryz.f106.ntmps) + 1, .mem 70 [.sl (.int .u8) p3, .v (.int .i64 x1001_2), .v (.int .u64 x1002_2)])] := ⟨fun j h => j h⟩
set_option maxRecDepth 20000 in
set_option maxHeartbeats 2000000 in
theorem spec_l1Cur_score.con (k : Nat) (s0_0 : List Int) (s0_1 : Int) (s0_2 : Int) (r1 : List (S36)) (r2 : Int) (r3 : Int) (H : spec_l1Cur_score.f k s0_0 s0_1 s0_2 = some (r1, r2, r3)) : Con Tryz.prog 106 [.p (.ob 70 [.sl (.int .u8) s0_0, .v (.int .i64 s0_1), .v (.int .u64 s0_2)])] (.p (.c (.ow 36 K36 r1))) [(0, .ob 70 [.sl (.int .u8) s0_0, .v (.int .i64 r2), .v (.int .u64 r3)])] := by
  refine Con.mk' (fn := Tryz.f106) Tryz.func106 rfl (by kernel_rfl) rfl rfl rfl fun X w0 gs hF => ?_
  unfold spec_l1Cur_score.f at H
  exact auto
instance spec_l1Cur_score.ctr {k : Nat} {s0_0 : List Int} {s0_1 : Int} {s0_2 : Int} {t_ : (List (S36)) × (Int) × (Int)} : Ctr (spec_l1Cur_score.f k s0_0 s0_1 s0_2 = some t_) (Con Tryz.prog 106 [.p (.ob 70 [.sl (.int .u8) s0_0, .v (.int .i64 s0_1), .v (.int .u64 s0_2)])] (.p (.c (.ow 36 K36 t_.1))) [(0, .ob 70 [.sl (.int .u8) s0_0, .v (.int .i64 t_.2.1), .v (.int .u64 t_.2.2)])]) := ⟨fun h => spec_l1Cur_score.con _ _ _ _ (t_.1) (t_.2.1) (t_.2.2) h⟩
/-! ### impl_layOut: function 44 -/
def impl_layOut.l0 : Nat → List (S40) → List (S36) → Int → Int → List Int → Int → Option ((List (S40)) × Bool)
  | 0, _, _, _, _, _, _ => none
  | k + 1, x6, x16, x17, x18, x442000, x442001 => if x18 < x17 then (if 0 ≤ x18 then (if x18 < (x16.length : Int) then ((impl_holeFor.f k x442000 x442001 ((rd_T36 x16 x18).f0) ((rd_T36 x16 x18).f1) ((rd_T36 x16 x18).f2)).bind fun bt448 => (if bt448.2.2.2 = true then (if x6.length < 5864062014805 then (impl_layOut.l0 k (x6 ++ [(⟨bt448.1, bt448.2.1, bt448.2.2.1⟩ : S40)]) x16 x17 (wrap64 (x18 + 1)) x442000 x442001) else (none)) else (some (([] : List (S40)), false)))) else (none)) else (none)) else ((impl_sheetOf.f k x6).bind fun bt456 => (some (bt456.1, bt456.2)))
def impl_layOut.f (k : Nat) (l0_0 : List Int) (a0_1 : Int) (l1 : List (S36)) : Option ((List (S40)) × Bool) := (impl_canPlay.f k l0_0 a0_1 l1).bind fun t442 => (if t442 = true then (impl_layOut.l0 k (([] : List (S40))) l1 (l1.length : Int) 0 l0_0 a0_1) else (some (([] : List (S40)), false)))
instance impl_layOut.lp0 {k : Nat} {r : (List (S40)) × Bool} {Q : Wr → Prop} {p1 : List (S36)} {p2 : Int} {p4 : List Int} {p5 : Int} {x6_1 : List (S40)} {x18_1 : Int} : Lp (impl_layOut.l0 k x6_1 p1 p2 x18_1 p4 p5 = some r) Q (fun k => ∀ {x6_1 : List (S40)} {x18_1 : Int}, impl_layOut.l0 k x6_1 p1 p2 x18_1 p4 p5 = some r → Q [(12, .p (.c (.rp (Tryz.f44.ntmps + 6)))), (2 * (Tryz.f44.ntmps + 6) + 1, .row 40 K40 x6_1), (36, .p (.c (.v (.int .i64 x18_1))))]) k [(12, .p (.c (.rp (Tryz.f44.ntmps + 6)))), (2 * (Tryz.f44.ntmps + 6) + 1, .row 40 K40 x6_1), (36, .p (.c (.v (.int .i64 x18_1))))] := ⟨fun j h => j h⟩
set_option maxRecDepth 20000 in
set_option maxHeartbeats 2000000 in
theorem impl_layOut.con (k : Nat) (l0_0 : List Int) (a0_1 : Int) (l1 : List (S36)) (r1 : List (S40)) (r2 : Bool) (H : impl_layOut.f k l0_0 a0_1 l1 = some (r1, r2)) : Con Tryz.prog 44 [.p (.ag [.sl (.int .i64) l0_0, .v (.int .i64 a0_1)]), .p (.c (.sl K36 l1))] (.tp [.c (.ow 40 K40 r1), .c (.v (.bool r2))]) := by
  refine Con.mk' (fn := Tryz.f44) Tryz.func44 rfl (by kernel_rfl) rfl rfl rfl fun X w0 gs hF => ?_
  unfold impl_layOut.f at H
  exact auto
instance impl_layOut.ctr {k : Nat} {l0_0 : List Int} {a0_1 : Int} {l1 : List (S36)} {t_ : (List (S40)) × (Bool)} : Ctr (impl_layOut.f k l0_0 a0_1 l1 = some t_) (Con Tryz.prog 44 [.p (.ag [.sl (.int .i64) l0_0, .v (.int .i64 a0_1)]), .p (.c (.sl K36 l1))] (.tp [.c (.ow 40 K40 t_.1), .c (.v (.bool t_.2))])) := ⟨fun h => impl_layOut.con _ _ _ _ (t_.1) (t_.2) h⟩
/-! ### impl_LayOut: function 6 -/
def impl_LayOut.f (k : Nat) (l0_0 : List Int) (a0_1 : Int) (l1 : List (S36)) : Option ((List (S40)) × Bool) := (impl_IsInstrument.f k l0_0 a0_1).bind fun t461 => (if t461 = true then ((impl_IsScore.f k l1).bind fun t462 => (if t462 = true then ((impl_layOut.f k l0_0 a0_1 l1).bind fun bt463 => (some (bt463.1, bt463.2))) else (some (([] : List (S40)), false)))) else (some (([] : List (S40)), false)))
set_option maxRecDepth 20000 in
set_option maxHeartbeats 2000000 in
theorem impl_LayOut.con (k : Nat) (l0_0 : List Int) (a0_1 : Int) (l1 : List (S36)) (r1 : List (S40)) (r2 : Bool) (H : impl_LayOut.f k l0_0 a0_1 l1 = some (r1, r2)) : Con Tryz.prog 6 [.p (.ag [.sl (.int .i64) l0_0, .v (.int .i64 a0_1)]), .p (.c (.sl K36 l1))] (.tp [.c (.ow 40 K40 r1), .c (.v (.bool r2))]) := by
  refine Con.mk' (fn := Tryz.f6) Tryz.func6 rfl (by kernel_rfl) rfl rfl rfl fun X w0 gs hF => ?_
  unfold impl_LayOut.f at H
  exact auto
instance impl_LayOut.ctr {k : Nat} {l0_0 : List Int} {a0_1 : Int} {l1 : List (S36)} {t_ : (List (S40)) × (Bool)} : Ctr (impl_LayOut.f k l0_0 a0_1 l1 = some t_) (Con Tryz.prog 6 [.p (.ag [.sl (.int .i64) l0_0, .v (.int .i64 a0_1)]), .p (.c (.sl K36 l1))] (.tp [.c (.ow 40 K40 t_.1), .c (.v (.bool t_.2))])) := ⟨fun h => impl_LayOut.con _ _ _ _ (t_.1) (t_.2) h⟩
/-! ### spec_laHoles: function 45 -/
def spec_laHoles.l0 : Nat → Int → List (S40) → List (S36) → Int → Int → List Int → Int → Option ((List (S40)) × Bool)
  | 0, _, _, _, _, _, _, _ => none
  | k + 1, x2, x8, x17, x18, x19, x498000, x498001 => if x19 < x18 then (if 0 ≤ x19 then (if x19 < (x17.length : Int) then ((spec_laHole.f k x498000 x498001 ((rd_T36 x17 x19).f0) ((rd_T36 x17 x19).f1) ((rd_T36 x17 x19).f2)).bind fun bt501 => (if bt501.2.2.2 = true then (if x8.length < 5864062014805 then (spec_laHoles.l0 k x2 (x8 ++ [(⟨bt501.1, wrap64 (bt501.2.1 + x2), wrap64 (bt501.2.2.1 + x2)⟩ : S40)]) x17 x18 (wrap64 (x19 + 1)) x498000 x498001) else (none)) else (some (([] : List (S40)), false)))) else (none)) else (none)) else ((spec_shSorted.f k x8).bind fun bt509 => (some (bt509.1, bt509.2)))
def spec_laHoles.f (k : Nat) (l0_0 : List Int) (a0_1 : Int) (l1 : List (S36)) (a2 : Int) : Option ((List (S40)) × Bool) := (spec_inPlays.f k l0_0 a0_1 l1).bind fun t498 => (if t498 = true then (spec_laHoles.l0 k a2 ([] : List (S40)) l1 (l1.length : Int) 0 l0_0 a0_1) else (some (([] : List (S40)), false)))
instance spec_laHoles.lp0 {k : Nat} {r : (List (S40)) × Bool} {Q : Wr → Prop} {p0 : Int} {p2 : List (S36)} {p3 : Int} {p5 : List Int} {p6 : Int} {x8_1 : List (S40)} {x19_1 : Int} : Lp (spec_laHoles.l0 k p0 x8_1 p2 p3 x19_1 p5 p6 = some r) Q (fun k => ∀ {x8_1 : List (S40)} {x19_1 : Int}, spec_laHoles.l0 k p0 x8_1 p2 p3 x19_1 p5 p6 = some r → Q [(16, .p (.c (.rp (Tryz.f45.ntmps + 8)))), (2 * (Tryz.f45.ntmps + 8) + 1, .row 40 K40 x8_1), (38, .p (.c (.v (.int .i64 x19_1))))]) k [(16, .p (.c (.rp (Tryz.f45.ntmps + 8)))), (2 * (Tryz.f45.ntmps + 8) + 1, .row 40 K40 x8_1), (38, .p (.c (.v (.int .i64 x19_1))))] := ⟨fun j h => j h⟩
set_option maxRecDepth 20000 in
set_option maxHeartbeats 2000000 in
theorem spec_laHoles.con (k : Nat) (l0_0 : List Int) (a0_1 : Int) (l1 : List (S36)) (a2 : Int) (r1 : List (S40)) (r2 : Bool) (H : spec_laHoles.f k l0_0 a0_1 l1 a2 = some (r1, r2)) : Con Tryz.prog 45 [.p (.ag [.sl (.int .i64) l0_0, .v (.int .i64 a0_1)]), .p (.c (.sl K36 l1)), .p (.c (.v (.int .i64 a2)))] (.tp [.c (.ow 40 K40 r1), .c (.v (.bool r2))]) := by
  refine Con.mk' (fn := Tryz.f45) Tryz.func45 rfl (by kernel_rfl) rfl rfl rfl fun X w0 gs hF => ?_
  unfold spec_laHoles.f at H
  exact auto
instance spec_laHoles.ctr {k : Nat} {l0_0 : List Int} {a0_1 : Int} {l1 : List (S36)} {a2 : Int} {t_ : (List (S40)) × (Bool)} : Ctr (spec_laHoles.f k l0_0 a0_1 l1 a2 = some t_) (Con Tryz.prog 45 [.p (.ag [.sl (.int .i64) l0_0, .v (.int .i64 a0_1)]), .p (.c (.sl K36 l1)), .p (.c (.v (.int .i64 a2)))] (.tp [.c (.ow 40 K40 t_.1), .c (.v (.bool t_.2))])) := ⟨fun h => spec_laHoles.con _ _ _ _ _ (t_.1) (t_.2) h⟩
/-! ### spec_LayOut: function 7 -/
def spec_LayOut.f (k : Nat) (l0_0 : List Int) (a0_1 : Int) (l1 : List (S36)) : Option ((List (S40)) × Bool) := (spec_inAsked.f k l0_0 a0_1 l1).bind fun t514 => (if t514 = true then ((spec_laHoles.f k l0_0 a0_1 l1 0).bind fun bt515 => (some (bt515.1, bt515.2))) else (some (([] : List (S40)), false)))
set_option maxRecDepth 20000 in
set_option maxHeartbeats 2000000 in
theorem spec_LayOut.con (k : Nat) (l0_0 : List Int) (a0_1 : Int) (l1 : List (S36)) (r1 : List (S40)) (r2 : Bool) (H : spec_LayOut.f k l0_0 a0_1 l1 = some (r1, r2)) : Con Tryz.prog 7 [.p (.ag [.sl (.int .i64) l0_0, .v (.int .i64 a0_1)]), .p (.c (.sl K36 l1))] (.tp [.c (.ow 40 K40 r1), .c (.v (.bool r2))]) := by
  refine Con.mk' (fn := Tryz.f7) Tryz.func7 rfl (by kernel_rfl) rfl rfl rfl fun X w0 gs hF => ?_
  unfold spec_LayOut.f at H
  exact auto
instance spec_LayOut.ctr {k : Nat} {l0_0 : List Int} {a0_1 : Int} {l1 : List (S36)} {t_ : (List (S40)) × (Bool)} : Ctr (spec_LayOut.f k l0_0 a0_1 l1 = some t_) (Con Tryz.prog 7 [.p (.ag [.sl (.int .i64) l0_0, .v (.int .i64 a0_1)]), .p (.c (.sl K36 l1))] (.tp [.c (.ow 40 K40 t_.1), .c (.v (.bool t_.2))])) := ⟨fun h => spec_LayOut.con _ _ _ _ (t_.1) (t_.2) h⟩
/-! ### impl_moveSheet: function 51 -/
def impl_moveSheet.l0 : Nat → Int → List (S40) → Int → Int → Option ((List (S40)) × Bool)
  | 0, _, _, _, _ => none
  | k + 1, x1, x6, x11, x12 => if x12 < x11 then (if 0 ≤ x12 then (if x12 < (x6.length : Int) then ((some (x6.set (x12 : Int).toNat (⟨(rd_T40 x6 x12).f0, wrap64 (((rd_T40 x6 x12).f1) + x1), (rd_T40 x6 x12).f2⟩ : S40) : List (S40))).bind fun y526 => (impl_moveSheet.l0 k x1 (y526.set (x12 : Int).toNat (⟨(rd_T40 y526 x12).f0, (rd_T40 y526 x12).f1, wrap64 (((rd_T40 y526 x12).f2) + x1)⟩ : S40)) x11 (wrap64 (x12 + 1)))) else (none)) else (none)) else ((impl_sheetOf.f k x6).bind fun bt529 => (some (bt529.1, bt529.2)))
def impl_moveSheet.f (k : Nat) (l0 : List (S40)) (a1 : Int) : Option ((List (S40)) × Bool) := (impl_Hole_91.f l0).bind fun t522 => (impl_moveSheet.l0 k a1 t522 (t522.length : Int) 0)
instance impl_moveSheet.lp0 {k : Nat} {r : (List (S40)) × Bool} {Q : Wr → Prop} {p0 : Int} {p2 : Int} {x6_1 : List (S40)} {x12_1 : Int} : Lp (impl_moveSheet.l0 k p0 x6_1 p2 x12_1 = some r) Q (fun k => ∀ {x6_1 : List (S40)} {x12_1 : Int}, impl_moveSheet.l0 k p0 x6_1 p2 x12_1 = some r → Q [(12, .p (.c (.rp (Tryz.f51.ntmps + 6)))), (2 * (Tryz.f51.ntmps + 6) + 1, .row 40 K40 x6_1), (24, .p (.c (.v (.int .i64 x12_1))))]) k [(12, .p (.c (.rp (Tryz.f51.ntmps + 6)))), (2 * (Tryz.f51.ntmps + 6) + 1, .row 40 K40 x6_1), (24, .p (.c (.v (.int .i64 x12_1))))] := ⟨fun j h => j h⟩
set_option maxRecDepth 20000 in
set_option maxHeartbeats 2000000 in
theorem impl_moveSheet.con (k : Nat) (l0 : List (S40)) (a1 : Int) (r1 : List (S40)) (r2 : Bool) (H : impl_moveSheet.f k l0 a1 = some (r1, r2)) : Con Tryz.prog 51 [.p (.c (.sl K40 l0)), .p (.c (.v (.int .i64 a1)))] (.tp [.c (.ow 40 K40 r1), .c (.v (.bool r2))]) := by
  refine Con.mk' (fn := Tryz.f51) Tryz.func51 rfl (by kernel_rfl) rfl rfl rfl fun X w0 gs hF => ?_
  unfold impl_moveSheet.f at H
  exact auto
instance impl_moveSheet.ctr {k : Nat} {l0 : List (S40)} {a1 : Int} {t_ : (List (S40)) × (Bool)} : Ctr (impl_moveSheet.f k l0 a1 = some t_) (Con Tryz.prog 51 [.p (.c (.sl K40 l0)), .p (.c (.v (.int .i64 a1)))] (.tp [.c (.ow 40 K40 t_.1), .c (.v (.bool t_.2))])) := ⟨fun h => impl_moveSheet.con _ _ _ (t_.1) (t_.2) h⟩
/-! ### impl_LayOutFrom: function 9 -/
def impl_LayOutFrom.j0 : Nat → List (S36) → Int → Bool → List Int → Int → Option ((List (S40)) × Bool)
  | 0, _, _, _, _, _ => none
  | k + 1, x1, x2, x25, x534000, x534001 => if x25 = true then (some (([] : List (S40)), false)) else ((impl_layOut.f k x534000 x534001 x1).bind fun bt536 => (if bt536.2 = true then ((impl_moveSheet.f k bt536.1 x2).bind fun bt540 => (some (bt540.1, bt540.2))) else (some (([] : List (S40)), false))))
def impl_LayOutFrom.f (k : Nat) (l0_0 : List Int) (a0_1 : Int) (l1 : List (S36)) (a2 : Int) : Option ((List (S40)) × Bool) := (impl_IsInstrument.f k l0_0 a0_1).bind fun t534 => (if t534 = true then ((impl_IsScore.f k l1).bind fun t535 => (if t535 = true then (if a2 < 0 then (impl_LayOutFrom.j0 k l1 a2 true l0_0 a0_1) else (impl_LayOutFrom.j0 k l1 a2 (decide (a2 > 2000)) l0_0 a0_1)) else (impl_LayOutFrom.j0 k l1 a2 true l0_0 a0_1))) else (impl_LayOutFrom.j0 k l1 a2 true l0_0 a0_1))
set_option maxRecDepth 20000 in
set_option maxHeartbeats 2000000 in
theorem impl_LayOutFrom.con (k : Nat) (l0_0 : List Int) (a0_1 : Int) (l1 : List (S36)) (a2 : Int) (r1 : List (S40)) (r2 : Bool) (H : impl_LayOutFrom.f k l0_0 a0_1 l1 a2 = some (r1, r2)) : Con Tryz.prog 9 [.p (.ag [.sl (.int .i64) l0_0, .v (.int .i64 a0_1)]), .p (.c (.sl K36 l1)), .p (.c (.v (.int .i64 a2)))] (.tp [.c (.ow 40 K40 r1), .c (.v (.bool r2))]) := by
  refine Con.mk' (fn := Tryz.f9) Tryz.func9 rfl (by kernel_rfl) rfl rfl rfl fun X w0 gs hF => ?_
  unfold impl_LayOutFrom.f at H
  exact auto
instance impl_LayOutFrom.ctr {k : Nat} {l0_0 : List Int} {a0_1 : Int} {l1 : List (S36)} {a2 : Int} {t_ : (List (S40)) × (Bool)} : Ctr (impl_LayOutFrom.f k l0_0 a0_1 l1 a2 = some t_) (Con Tryz.prog 9 [.p (.ag [.sl (.int .i64) l0_0, .v (.int .i64 a0_1)]), .p (.c (.sl K36 l1)), .p (.c (.v (.int .i64 a2)))] (.tp [.c (.ow 40 K40 t_.1), .c (.v (.bool t_.2))])) := ⟨fun h => impl_LayOutFrom.con _ _ _ _ _ (t_.1) (t_.2) h⟩
/-! ### spec_LayOutFrom: function 10 -/
def spec_LayOutFrom.f (k : Nat) (l0_0 : List Int) (a0_1 : Int) (l1 : List (S36)) (a2 : Int) : Option ((List (S40)) × Bool) := (spec_inAsked.f k l0_0 a0_1 l1).bind fun t545 => (if t545 = true then ((spec_l1In.f a2 0 2000).bind fun t546 => (if t546 = true then ((spec_laHoles.f k l0_0 a0_1 l1 a2).bind fun bt547 => (some (bt547.1, bt547.2))) else (some (([] : List (S40)), false)))) else (some (([] : List (S40)), false)))
set_option maxRecDepth 20000 in
set_option maxHeartbeats 2000000 in
theorem spec_LayOutFrom.con (k : Nat) (l0_0 : List Int) (a0_1 : Int) (l1 : List (S36)) (a2 : Int) (r1 : List (S40)) (r2 : Bool) (H : spec_LayOutFrom.f k l0_0 a0_1 l1 a2 = some (r1, r2)) : Con Tryz.prog 10 [.p (.ag [.sl (.int .i64) l0_0, .v (.int .i64 a0_1)]), .p (.c (.sl K36 l1)), .p (.c (.v (.int .i64 a2)))] (.tp [.c (.ow 40 K40 r1), .c (.v (.bool r2))]) := by
  refine Con.mk' (fn := Tryz.f10) Tryz.func10 rfl (by kernel_rfl) rfl rfl rfl fun X w0 gs hF => ?_
  unfold spec_LayOutFrom.f at H
  exact auto
instance spec_LayOutFrom.ctr {k : Nat} {l0_0 : List Int} {a0_1 : Int} {l1 : List (S36)} {a2 : Int} {t_ : (List (S40)) × (Bool)} : Ctr (spec_LayOutFrom.f k l0_0 a0_1 l1 a2 = some t_) (Con Tryz.prog 10 [.p (.ag [.sl (.int .i64) l0_0, .v (.int .i64 a0_1)]), .p (.c (.sl K36 l1)), .p (.c (.v (.int .i64 a2)))] (.tp [.c (.ow 40 K40 t_.1), .c (.v (.bool t_.2))])) := ⟨fun h => spec_LayOutFrom.con _ _ _ _ _ (t_.1) (t_.2) h⟩
/-! ### spec_shWith: function 110 -/
def spec_shWith.f (k : Nat) (l0 : List (S40)) (a1_0 : Int) (a1_1 : Int) (a1_2 : Int) : Option ((List (S40)) × Bool) := (some (([] : List (S40)) : List (S40))).bind fun y598 => (if y598.length + l0.length < 5864062014805 then ((some (y598 ++ l0 : List (S40))).bind fun y601 => ((some (([(⟨a1_0, a1_1, a1_2⟩ : S40)] : List (S40)) : List (S40))).bind fun y604 => (if y601.length + y604.length < 5864062014805 then ((spec_shSorted.f k (y601 ++ y604)).bind fun bt610 => (some (bt610.1, bt610.2))) else (none)))) else (none))
set_option maxRecDepth 20000 in
set_option maxHeartbeats 2000000 in
theorem spec_shWith.con (k : Nat) (l0 : List (S40)) (a1_0 : Int) (a1_1 : Int) (a1_2 : Int) (r1 : List (S40)) (r2 : Bool) (H : spec_shWith.f k l0 a1_0 a1_1 a1_2 = some (r1, r2)) : Con Tryz.prog 110 [.p (.c (.sl K40 l0)), .p (.ag [.v (.int .i64 a1_0), .v (.int .i64 a1_1), .v (.int .i64 a1_2)])] (.tp [.c (.ow 40 K40 r1), .c (.v (.bool r2))]) := by
  refine Con.mk' (fn := Tryz.f110) Tryz.func110 rfl (by kernel_rfl) rfl rfl rfl fun X w0 gs hF => ?_
  unfold spec_shWith.f at H
  exact auto
instance spec_shWith.ctr {k : Nat} {l0 : List (S40)} {a1_0 : Int} {a1_1 : Int} {a1_2 : Int} {t_ : (List (S40)) × (Bool)} : Ctr (spec_shWith.f k l0 a1_0 a1_1 a1_2 = some t_) (Con Tryz.prog 110 [.p (.c (.sl K40 l0)), .p (.ag [.v (.int .i64 a1_0), .v (.int .i64 a1_1), .v (.int .i64 a1_2)])] (.tp [.c (.ow 40 K40 t_.1), .c (.v (.bool t_.2))])) := ⟨fun h => spec_shWith.con _ _ _ _ _ (t_.1) (t_.2) h⟩
/-! ### spec_l1Cur_sheet: function 97 -/
mutual
def spec_l1Cur_sheet.l0 : Nat → List (S40) → List Int → Int → Int → Option ((List (S40)) × Int × Int)
  | 0, _, _, _, _ => none
  | k + 1, x3, x1000, x1001, x1002 => if (x3.length : Int) < 60 then ((spec_l1Cur_pick.f x1000 x1001 x1002 5).bind fun bt645 => (if x3.length < 5864062014805 then (spec_l1Cur_sheet.l0 k (x3 ++ [(⟨wrap64 (3 * Int.tmod (x3.length : Int) 5), wrap64 (6 * (wrap64 (Int.tdiv (x3.length : Int) 5))), wrap64 ((wrap64 ((wrap64 (6 * (wrap64 (Int.tdiv (x3.length : Int) 5)))) + 1)) + bt645.1)⟩ : S40)]) x1000 bt645.2.1 bt645.2.2) else (none))) else (some (x3, x1001, x1002))
def spec_l1Cur_sheet.l1 : Nat → List (S40) → Int → Int → List Int → Int → Int → Option ((List (S40)) × Int × Int)
  | 0, _, _, _, _, _, _ => none
  | k + 1, x3, x5, x6, x1000, x1001, x1002 => if (x3.length : Int) < x5 then (spec_l1Cur_sheet.j2 k x3 x5 x6 (decide (x6 < 60)) x1000 x1001 x1002) else (spec_l1Cur_sheet.j2 k x3 x5 x6 false x1000 x1001 x1002)
def spec_l1Cur_sheet.j2 : Nat → List (S40) → Int → Int → Bool → List Int → Int → Int → Option ((List (S40)) × Int × Int)
  | 0, _, _, _, _, _, _, _ => none
  | k + 1, x3, x5, x6, x42, x1000, x1001, x1002 => if x42 = true then ((spec_l1Cur_hole.f x1000 x1001 x1002).bind fun bt654 => ((spec_shWith.f k x3 bt654.1 bt654.2.1 bt654.2.2.1).bind fun bt659 => (if bt659.2 = true then (spec_l1Cur_sheet.l1 k bt659.1 x5 (wrap64 (x6 + 1)) x1000 bt654.2.2.2.1 bt654.2.2.2.2) else (spec_l1Cur_sheet.l1 k x3 x5 (wrap64 (x6 + 1)) x1000 bt654.2.2.2.1 bt654.2.2.2.2)))) else (some (x3, x1001, x1002))
end
def spec_l1Cur_sheet.f (k : Nat) (s0_0 : List Int) (s0_1 : Int) (s0_2 : Int) : Option ((List (S40)) × Int × Int) := (spec_l1Cur_one.f s0_0 s0_1 s0_2 24).bind fun bt642 => (if bt642.1 = true then (spec_l1Cur_sheet.l0 k ([] : List (S40)) s0_0 bt642.2.1 bt642.2.2) else ((spec_l1Cur_pick.f s0_0 bt642.2.1 bt642.2.2 9).bind fun bt651 => (spec_l1Cur_sheet.l1 k ([] : List (S40)) bt651.1 0 s0_0 bt651.2.1 bt651.2.2)))
instance spec_l1Cur_sheet.lp0 {k : Nat} {r : (List (S40)) × Int × Int} {Q : Wr → Prop} {p1 : List Int} {x3_1 : List (S40)} {x1001_1 : Int} {x1002_1 : Int} : Lp (spec_l1Cur_sheet.l0 k x3_1 p1 x1001_1 x1002_1 = some r) Q (fun k => ∀ {x3_1 : List (S40)} {x1001_1 : Int} {x1002_1 : Int}, spec_l1Cur_sheet.l0 k x3_1 p1 x1001_1 x1002_1 = some r → Q [(6, .p (.c (.rp (Tryz.f97.ntmps + 3)))), (2 * (Tryz.f97.ntmps + 3) + 1, .row 40 K40 x3_1), (0, .p (.c (.bx (2 * Tryz.f97.ntmps) 0))), (2 * (2 * Tryz.f97.ntmps) + 1, .mem 70 [.sl (.int .u8) p1, .v (.int .i64 x1001_1), .v (.int .u64 x1002_1)])]) k [(6, .p (.c (.rp (Tryz.f97.ntmps + 3)))), (2 * (Tryz.f97.ntmps + 3) + 1, .row 40 K40 x3_1), (0, .p (.c (.bx (2 * Tryz.f97.ntmps) 0))), (2 * (2 * Tryz.f97.ntmps) + 1, .mem 70 [.sl (.int .u8) p1, .v (.int .i64 x1001_1), .v (.int .u64 x1002_1)])] := ⟨fun j h => j h⟩
instance spec_l1Cur_sheet.lp1 {k : Nat} {r : (List (S40)) × Int × Int} {Q : Wr → Prop} {p1 : Int} {p3 : List Int} {x3_1 : List (S40)} {x6_1 : Int} {x1001_1 : Int} {x1002_1 : Int} : Lp (spec_l1Cur_sheet.l1 k x3_1 p1 x6_1 p3 x1001_1 x1002_1 = some r) Q (fun k => ∀ {x3_1 : List (S40)} {x6_1 : Int} {x1001_1 : Int} {x1002_1 : Int}, spec_l1Cur_sheet.l1 k x3_1 p1 x6_1 p3 x1001_1 x1002_1 = some r → Q [(6, .p (.c (.rp (Tryz.f97.ntmps + 3)))), (2 * (Tryz.f97.ntmps + 3) + 1, .row 40 K40 x3_1), (12, .p (.c (.v (.int .i64 x6_1)))), (0, .p (.c (.bx (2 * Tryz.f97.ntmps) 0))), (2 * (2 * Tryz.f97.ntmps) + 1, .mem 70 [.sl (.int .u8) p3, .v (.int .i64 x1001_1), .v (.int .u64 x1002_1)])]) k [(6, .p (.c (.rp (Tryz.f97.ntmps + 3)))), (2 * (Tryz.f97.ntmps + 3) + 1, .row 40 K40 x3_1), (12, .p (.c (.v (.int .i64 x6_1)))), (0, .p (.c (.bx (2 * Tryz.f97.ntmps) 0))), (2 * (2 * Tryz.f97.ntmps) + 1, .mem 70 [.sl (.int .u8) p3, .v (.int .i64 x1001_1), .v (.int .u64 x1002_1)])] := ⟨fun j h => j h⟩
set_option maxRecDepth 20000 in
set_option maxHeartbeats 2000000 in
theorem spec_l1Cur_sheet.con (k : Nat) (s0_0 : List Int) (s0_1 : Int) (s0_2 : Int) (r1 : List (S40)) (r2 : Int) (r3 : Int) (H : spec_l1Cur_sheet.f k s0_0 s0_1 s0_2 = some (r1, r2, r3)) : Con Tryz.prog 97 [.p (.ob 70 [.sl (.int .u8) s0_0, .v (.int .i64 s0_1), .v (.int .u64 s0_2)])] (.p (.c (.ow 40 K40 r1))) [(0, .ob 70 [.sl (.int .u8) s0_0, .v (.int .i64 r2), .v (.int .u64 r3)])] := by
  refine Con.mk' (fn := Tryz.f97) Tryz.func97 rfl (by kernel_rfl) rfl rfl rfl fun X w0 gs hF => ?_
  unfold spec_l1Cur_sheet.f at H
  exact auto
instance spec_l1Cur_sheet.ctr {k : Nat} {s0_0 : List Int} {s0_1 : Int} {s0_2 : Int} {t_ : (List (S40)) × (Int) × (Int)} : Ctr (spec_l1Cur_sheet.f k s0_0 s0_1 s0_2 = some t_) (Con Tryz.prog 97 [.p (.ob 70 [.sl (.int .u8) s0_0, .v (.int .i64 s0_1), .v (.int .u64 s0_2)])] (.p (.c (.ow 40 K40 t_.1))) [(0, .ob 70 [.sl (.int .u8) s0_0, .v (.int .i64 t_.2.1), .v (.int .u64 t_.2.2)])]) := ⟨fun h => spec_l1Cur_sheet.con _ _ _ _ (t_.1) (t_.2.1) (t_.2.2) h⟩
end Go.Proofs.YtgjpphcbdbfhlaaGreat.L
