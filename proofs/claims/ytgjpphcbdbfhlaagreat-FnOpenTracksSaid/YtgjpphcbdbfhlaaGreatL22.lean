/- BY EV: what the Go functions compute (read off the print), and that their calls come to it. No condition. -/
import Derived.Test.YtgjpphcbdbfhlaaGreatLEU
import Derived.Test.YtgjpphcbdbfhlaaGreatL2
import Derived.Test.YtgjpphcbdbfhlaaGreatL4
import Derived.Test.YtgjpphcbdbfhlaaGreatLDF
import Derived.Test.YtgjpphcbdbfhlaaGreatL19
set_option linter.unusedVariables false
set_option linter.unusedSimpArgs false
namespace Go.Proofs.YtgjpphcbdbfhlaaGreat.L
open Go.RowKit Go.Proofs Go.Proofs.YtgjpphcbdbfhlaaGreatW.PrintWords Go.Proofs.YtgjpphcbdbfhlaaGreatW.PrintLast EV
mutual
def spec_l1Cur_scoreFor.l0 : Nat → List (S36) → Int → Int → List Int → Int → List Int → Int → Int → List (S36) → Option (List Int × Int × List (S36) × Int × Int)
  | 0, _, _, _, _, _, _, _, _, _ => none
  | k + 1, x, le, i, ps, rep, q, s1, s2, mv => if i < le then (if 0 ≤ i then (if i < (x.length : Int) then ((spec_l1Cur_one.f q s1 s2 6).bind fun t4 => (if t4.1 = true then (spec_l1Cur_scoreFor.j1 k x le i ps rep q t4.2.1 t4.2.2 mv (rd_T36 x i).f0 (rd_T36 x i).f1 (rd_T36 x i).f2) else ((spec_l1Cur_pick.f q t4.2.1 t4.2.2 (ps.length : Int)).bind fun t5 => (if 0 ≤ t5.1 then (if t5.1 < (ps.length : Int) then (spec_l1Cur_scoreFor.j1 k x le i ps rep q t5.2.1 t5.2.2 mv (rd ps t5.1) (rd_T36 x i).f1 (rd_T36 x i).f2) else (none)) else (none))))) else (none)) else (none)) else (some (ps, rep, mv, s1, s2))
def spec_l1Cur_scoreFor.j1 : Nat → List (S36) → Int → Int → List Int → Int → List Int → Int → Int → List (S36) → Int → Int → Int → Option (List Int × Int × List (S36) × Int × Int)
  | 0, _, _, _, _, _, _, _, _, _, _, _, _ => none
  | k + 1, x, le, i, ps, rep, q, s1, s2, mv, y0, y1, y2 => if ([] : List (S36)).length + mv.length < 5864062014805 then (if (([] : List (S36)) ++ mv).length < 5864062014805 then ((spec_ntSorted.f k ((([] : List (S36)) ++ mv) ++ [(⟨y0, y1, y2⟩ : S36)])).bind fun t43 => (if t43.2 = true then (spec_l1Cur_scoreFor.l0 k x le (wrap64 (i + 1)) ps rep q s1 s2 t43.1) else (spec_l1Cur_scoreFor.l0 k x le (wrap64 (i + 1)) ps rep q s1 s2 mv))) else (none)) else (none)
end
def spec_l1Cur_scoreFor.f (k : Nat) (s0_0 : List Int) (s0_1 s0_2 : Int) : Option (List Int × Int × List (S36) × Int × Int) := (spec_l1Cur_anyInstrument.f k s0_0 s0_1 s0_2).bind fun t1 => ((spec_l1Cur_anyScore.f k s0_0 t1.2.2.1 t1.2.2.2).bind fun t2 => ((spec_inAsked.f k t1.1 t1.2.1 t2.1).bind fun t3 => (if t3 = true then ((spec_l1Cur_one.f s0_0 t2.2.1 t2.2.2 4).bind fun t4 => (if t4.1 = true then (some (t1.1, t1.2.1, t2.1, t4.2.1, t4.2.2)) else (spec_l1Cur_scoreFor.l0 k t2.1 (t2.1.length : Int) 0 t1.1 t1.2.1 s0_0 t4.2.1 t4.2.2 ([] : List (S36))))) else (some (t1.1, t1.2.1, t2.1, t2.2.1, t2.2.2)))))
instance spec_l1Cur_scoreFor.lp0 {k : Nat} {r : List Int × Int × List (S36) × Int × Int} {Q : Wr → Prop} {x : List (S36)} {le : Int} {rep : Int} {ps : List Int} {q : List Int} {i : Int} {s1 : Int} {s2 : Int} {mv : List (S36)} : Lp (spec_l1Cur_scoreFor.l0 k x le i ps rep q s1 s2 mv = some r) Q (fun k => ∀ {i : Int} {s1 : Int} {s2 : Int} {mv : List (S36)}, spec_l1Cur_scoreFor.l0 k x le i ps rep q s1 s2 mv = some r → Q [(0, .p (.c (.bx (2 * Tryz.f38.ntmps) 0))), (2 * (2 * Tryz.f38.ntmps) + 1, .mem 70 [.sl (.int .u8) q, .v (.int .i64 s1), .v (.int .u64 s2)]), (12, .p (.c (.rp (Tryz.f38.ntmps + 6)))), (2 * (Tryz.f38.ntmps + 6) + 1, .row 36 K36 mv), (54, .p (.c (.v (.int .i64 i))))]) k [(0, .p (.c (.bx (2 * Tryz.f38.ntmps) 0))), (2 * (2 * Tryz.f38.ntmps) + 1, .mem 70 [.sl (.int .u8) q, .v (.int .i64 s1), .v (.int .u64 s2)]), (12, .p (.c (.rp (Tryz.f38.ntmps + 6)))), (2 * (Tryz.f38.ntmps + 6) + 1, .row 36 K36 mv), (54, .p (.c (.v (.int .i64 i))))] := ⟨fun j h => j h⟩
set_option maxRecDepth 40000 in
set_option maxHeartbeats 4000000 in
theorem spec_l1Cur_scoreFor.con (k : Nat) (s0_0 : List Int) (s0_1 : Int) (s0_2 : Int) (r1 : List Int) (r2 : Int) (r3 : List (S36)) (r4 : Int) (r5 : Int) (H : spec_l1Cur_scoreFor.f k s0_0 s0_1 s0_2 = some (r1, r2, r3, r4, r5)) : Con Tryz.prog 38 [.p (.ob 70 [.sl (.int .u8) s0_0, .v (.int .i64 s0_1), .v (.int .u64 s0_2)])] (.tp [.ag [.ow 3 (.int .i64) r1, .v (.int .i64 r2)], .c (.ow 36 K36 r3)]) [(0, .ob 70 [.sl (.int .u8) s0_0, .v (.int .i64 r4), .v (.int .u64 r5)])] := by
  refine Con.mk' (fn := Tryz.f38) Tryz.func38 rfl (by kernel_rfl) rfl rfl rfl fun X w0 gs hF => ?_
  unfold spec_l1Cur_scoreFor.f at H
  exact auto
instance spec_l1Cur_scoreFor.ctr {k : Nat} {s0_0 : List Int} {s0_1 : Int} {s0_2 : Int} {t_ : List Int × Int × List (S36) × Int × Int} : Ctr (spec_l1Cur_scoreFor.f k s0_0 s0_1 s0_2 = some t_) (Con Tryz.prog 38 [.p (.ob 70 [.sl (.int .u8) s0_0, .v (.int .i64 s0_1), .v (.int .u64 s0_2)])] (.tp [.ag [.ow 3 (.int .i64) t_.1, .v (.int .i64 t_.2.1)], .c (.ow 36 K36 t_.2.2.1)]) [(0, .ob 70 [.sl (.int .u8) s0_0, .v (.int .i64 t_.2.2.2.1), .v (.int .u64 t_.2.2.2.2)])]) := ⟨fun h => spec_l1Cur_scoreFor.con _ _ _ _ _ _ _ _ _ h⟩

end Go.Proofs.YtgjpphcbdbfhlaaGreat.L
