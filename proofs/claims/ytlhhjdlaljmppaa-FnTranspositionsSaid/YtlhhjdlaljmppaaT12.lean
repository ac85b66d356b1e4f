/- BY EV: what the Go functions compute (read off the print), and that their calls come to it. No condition. -/
import Derived.Test.YtlhhjdlaljmppaaTEU
import Derived.Test.YtlhhjdlaljmppaaT3
import Derived.Test.YtlhhjdlaljmppaaT4
import Derived.Test.YtlhhjdlaljmppaaT7
import Derived.Test.YtlhhjdlaljmppaaT8
import Derived.Test.YtlhhjdlaljmppaaT9
set_option linter.unusedVariables false
set_option linter.unusedSimpArgs false
namespace Go.Proofs.Ytlhhjdlaljmppaa.T
open Go.RowKit Go.Proofs Go.Proofs.YtlhhjdlaljmppaaW.PrintWords Go.Proofs.YtlhhjdlaljmppaaW.PrintLast EV
/-! ### spec_l1Cur_score: function 62 -/
mutual
def spec_l1Cur_score.l0 : Nat → List (S60) → Int → Int → List Int → Int → Int → Option ((List (S60)) × Int × Int)
  | 0, _, _, _, _, _, _ => none
  | k + 1, x3, x4, x5, x1000, x1001, x1002 => if (x3.length : Int) < x4 then (spec_l1Cur_score.j2 k x3 x4 x5 (decide (x5 < 90)) x1000 x1001 x1002) else (spec_l1Cur_score.j2 k x3 x4 x5 false x1000 x1001 x1002)
def spec_l1Cur_score.j2 : Nat → List (S60) → Int → Int → Bool → List Int → Int → Int → Option ((List (S60)) × Int × Int)
  | 0, _, _, _, _, _, _, _ => none
  | k + 1, x3, x4, x5, x20, x1000, x1001, x1002 => if x20 = true then ((spec_l1Cur_note.f x1000 x1001 x1002).bind fun bt303 => (if x4 = 30 then ((spec_l1Cur_pick.f x1000 bt303.2.2.2.1 bt303.2.2.2.2 9).bind fun bt309 => ((some (([] : List (S60)) : List (S60))).bind fun y312 => (if y312.length + x3.length < 5864062014805 then ((some (y312 ++ x3 : List (S60))).bind fun y315 => ((some (([(⟨wrap64 (48 + wrap64 (2 * Int.tmod (x3.length : Int) 10)), wrap64 (3 * (x3.length : Int)), wrap64 (1 + bt309.1)⟩ : S60)] : List (S60)) : List (S60))).bind fun y318 => (if y315.length + y318.length < 5864062014805 then ((spec_ntSorted.f k (y315 ++ y318)).bind fun bt324 => (if bt324.2 = true then (spec_l1Cur_score.l0 k bt324.1 x4 (wrap64 (x5 + 1)) x1000 bt309.2.1 bt309.2.2) else (spec_l1Cur_score.l0 k x3 x4 (wrap64 (x5 + 1)) x1000 bt309.2.1 bt309.2.2))) else (none)))) else (none)))) else ((some (([] : List (S60)) : List (S60))).bind fun y328 => (if y328.length + x3.length < 5864062014805 then ((some (y328 ++ x3 : List (S60))).bind fun y331 => ((some (([(⟨bt303.1, bt303.2.1, bt303.2.2.1⟩ : S60)] : List (S60)) : List (S60))).bind fun y334 => (if y331.length + y334.length < 5864062014805 then ((spec_ntSorted.f k (y331 ++ y334)).bind fun bt340 => (if bt340.2 = true then (spec_l1Cur_score.l0 k bt340.1 x4 (wrap64 (x5 + 1)) x1000 bt303.2.2.2.1 bt303.2.2.2.2) else (spec_l1Cur_score.l0 k x3 x4 (wrap64 (x5 + 1)) x1000 bt303.2.2.2.1 bt303.2.2.2.2))) else (none)))) else (none))))) else (some (x3, x1001, x1002))
end
def spec_l1Cur_score.f (k : Nat) (s0_0 : List Int) (s0_1 : Int) (s0_2 : Int) : Option ((List (S60)) × Int × Int) := (spec_l1Cur_pick.f s0_0 s0_1 s0_2 9).bind fun bt297 => ((spec_l1Cur_one.f s0_0 bt297.2.1 bt297.2.2 20).bind fun bt300 => (if bt300.1 = true then (spec_l1Cur_score.l0 k ([] : List (S60)) 30 0 s0_0 bt300.2.1 bt300.2.2) else (spec_l1Cur_score.l0 k ([] : List (S60)) bt297.1 0 s0_0 bt300.2.1 bt300.2.2)))
instance spec_l1Cur_score.lp0 {k : Nat} {r : (List (S60)) × Int × Int} {Q : Wr → Prop} {p1 : Int} {p3 : List Int} {x3_2 : List (S60)} {x5_2 : Int} {x1001_2 : Int} {x1002_2 : Int} : Lp (spec_l1Cur_score.l0 k x3_2 p1 x5_2 p3 x1001_2 x1002_2 = some r) Q (fun k => ∀ {x3_2 : List (S60)} {x5_2 : Int} {x1001_2 : Int} {x1002_2 : Int}, spec_l1Cur_score.l0 k x3_2 p1 x5_2 p3 x1001_2 x1002_2 = some r → Q [(6, .p (.c (.rp (Try.f62.ntmps + 3)))), (2 * (Try.f62.ntmps + 3) + 1, .row 60 K60 x3_2), (10, .p (.c (.v (.int .i64 x5_2)))), (0, .p (.c (.bx (2 * Try.f62.ntmps) 0))), (2 * (2 * Try.f62.ntmps) + 1, .mem 55 [.sl (.int .u8) p3, .v (.int .i64 x1001_2), .v (.int .u64 x1002_2)])]) k [(6, .p (.c (.rp (Try.f62.ntmps + 3)))), (2 * (Try.f62.ntmps + 3) + 1, .row 60 K60 x3_2), (10, .p (.c (.v (.int .i64 x5_2)))), (0, .p (.c (.bx (2 * Try.f62.ntmps) 0))), (2 * (2 * Try.f62.ntmps) + 1, .mem 55 [.sl (.int .u8) p3, .v (.int .i64 x1001_2), .v (.int .u64 x1002_2)])] := ⟨fun j h => j h⟩
set_option maxRecDepth 8000 in
set_option maxHeartbeats 2000000 in
theorem spec_l1Cur_score.con (k : Nat) (s0_0 : List Int) (s0_1 : Int) (s0_2 : Int) (r1 : List (S60)) (r2 : Int) (r3 : Int) (H : spec_l1Cur_score.f k s0_0 s0_1 s0_2 = some (r1, r2, r3)) : Con Try.prog 62 [.p (.ob 55 [.sl (.int .u8) s0_0, .v (.int .i64 s0_1), .v (.int .u64 s0_2)])] (.p (.c (.ow 60 K60 r1))) [(0, .ob 55 [.sl (.int .u8) s0_0, .v (.int .i64 r2), .v (.int .u64 r3)])] := by
  refine Con.mk' (fn := Try.f62) Try.func62 rfl (by kernel_rfl) rfl rfl rfl fun X w0 gs hF => ?_
  unfold spec_l1Cur_score.f at H
  exact auto
instance spec_l1Cur_score.ctr {k : Nat} {s0_0 : List Int} {s0_1 : Int} {s0_2 : Int} {t_ : (List (S60)) × (Int) × (Int)} : Ctr (spec_l1Cur_score.f k s0_0 s0_1 s0_2 = some t_) (Con Try.prog 62 [.p (.ob 55 [.sl (.int .u8) s0_0, .v (.int .i64 s0_1), .v (.int .u64 s0_2)])] (.p (.c (.ow 60 K60 t_.1))) [(0, .ob 55 [.sl (.int .u8) s0_0, .v (.int .i64 t_.2.1), .v (.int .u64 t_.2.2)])]) := ⟨fun h => spec_l1Cur_score.con _ _ _ _ (t_.1) (t_.2.1) (t_.2.2) h⟩
/-! ### impl_TransposeScore: function 17 -/
mutual
def impl_TransposeScore.j0 : Nat → List (S60) → Int → Bool → Option ((List (S60)) × Bool)
  | 0, _, _, _ => none
  | k + 1, x0, x1, x18 => if x18 = true then (some (([] : List (S60)), false)) else ((impl_Note.f x0).bind fun t439 => (impl_TransposeScore.l0 k x1 t439 (t439.length : Int) 0))
def impl_TransposeScore.l0 : Nat → Int → List (S60) → Int → Int → Option ((List (S60)) × Bool)
  | 0, _, _, _, _ => none
  | k + 1, x1, x6, x22, x23 => if x23 < x22 then (if 0 ≤ x23 then (if x23 < (x6.length : Int) then (impl_TransposeScore.l0 k x1 (x6.set (x23 : Int).toNat (⟨wrap64 (((rd_T60 x6 x23).f0) + x1), (rd_T60 x6 x23).f1, (rd_T60 x6 x23).f2⟩ : S60)) x22 (wrap64 (x23 + 1))) else (none)) else (none)) else ((impl_scoreOf.f k x6).bind fun bt444 => (some (bt444.1, bt444.2)))
end
def impl_TransposeScore.f (k : Nat) (l0 : List (S60)) (a1 : Int) : Option ((List (S60)) × Bool) := (impl_IsScore.f k l0).bind fun t438 => (if t438 = true then (if a1 < (-72) then (impl_TransposeScore.j0 k l0 a1 true) else (impl_TransposeScore.j0 k l0 a1 (decide (a1 > 72)))) else (impl_TransposeScore.j0 k l0 a1 true))
instance impl_TransposeScore.lp0 {k : Nat} {r : (List (S60)) × Bool} {Q : Wr → Prop} {p0 : Int} {p2 : Int} {x6_2 : List (S60)} {x23_2 : Int} : Lp (impl_TransposeScore.l0 k p0 x6_2 p2 x23_2 = some r) Q (fun k => ∀ {x6_2 : List (S60)} {x23_2 : Int}, impl_TransposeScore.l0 k p0 x6_2 p2 x23_2 = some r → Q [(12, .p (.c (.rp (Try.f17.ntmps + 6)))), (2 * (Try.f17.ntmps + 6) + 1, .row 60 K60 x6_2), (46, .p (.c (.v (.int .i64 x23_2))))]) k [(12, .p (.c (.rp (Try.f17.ntmps + 6)))), (2 * (Try.f17.ntmps + 6) + 1, .row 60 K60 x6_2), (46, .p (.c (.v (.int .i64 x23_2))))] := ⟨fun j h => j h⟩
set_option maxRecDepth 8000 in
set_option maxHeartbeats 2000000 in
theorem impl_TransposeScore.con (k : Nat) (l0 : List (S60)) (a1 : Int) (r1 : List (S60)) (r2 : Bool) (H : impl_TransposeScore.f k l0 a1 = some (r1, r2)) : Con Try.prog 17 [.p (.c (.sl K60 l0)), .p (.c (.v (.int .i64 a1)))] (.tp [.c (.ow 60 K60 r1), .c (.v (.bool r2))]) := by
  refine Con.mk' (fn := Try.f17) Try.func17 rfl (by kernel_rfl) rfl rfl rfl fun X w0 gs hF => ?_
  unfold impl_TransposeScore.f at H
  exact auto
instance impl_TransposeScore.ctr {k : Nat} {l0 : List (S60)} {a1 : Int} {t_ : (List (S60)) × (Bool)} : Ctr (impl_TransposeScore.f k l0 a1 = some t_) (Con Try.prog 17 [.p (.c (.sl K60 l0)), .p (.c (.v (.int .i64 a1)))] (.tp [.c (.ow 60 K60 t_.1), .c (.v (.bool t_.2))])) := ⟨fun h => impl_TransposeScore.con _ _ _ (t_.1) (t_.2) h⟩
end Go.Proofs.Ytlhhjdlaljmppaa.T
