/- BY EV: what the Go functions compute (read off the print), and that their calls come to it. No condition. -/
import Derived.Test.YtgjpphcbdbfhlaaGreatLEU
import Derived.Test.YtgjpphcbdbfhlaaGreatL2
import Derived.Test.YtgjpphcbdbfhlaaGreatL17
set_option linter.unusedVariables false
set_option linter.unusedSimpArgs false
namespace Go.Proofs.YtgjpphcbdbfhlaaGreat.L
open Go.RowKit Go.Proofs Go.Proofs.YtgjpphcbdbfhlaaGreatW.PrintWords Go.Proofs.YtgjpphcbdbfhlaaGreatW.PrintLast EV
def spec_l1Cur_anyScore.l0 : Nat → Int → Int → List (S36) → Option (List (S36) × Int × Int)
  | 0, _, _, _ => none
  | k + 1, s1, s2, x3 => if (x3.length : Int) < 31 then (if x3.length < 5864062014805 then (spec_l1Cur_anyScore.l0 k s1 s2 (x3 ++ [(⟨60, wrap64 (2 * (x3.length : Int)), 1⟩ : S36)])) else (none)) else (some (x3, s1, s2))
def spec_l1Cur_anyScore.f (k : Nat) (s0_0 : List Int) (s0_1 s0_2 : Int) : Option (List (S36) × Int × Int) := (spec_l1Cur_score.f k s0_0 s0_1 s0_2).bind fun t4 => (if (t4.1.length : Int) > 0 then ((spec_l1Cur_pick.f s0_0 t4.2.1 t4.2.2 (t4.1.length : Int)).bind fun t5 => (if 0 ≤ t5.1 then (if t5.1 < (t4.1.length : Int) then ((spec_l1Cur_pick.f s0_0 t5.2.1 t5.2.2 36).bind fun t6 => (if t6.1 = 0 then ((spec_l1Cur_among.f s0_0 t6.2.1 t6.2.2 [23, 24, 96, 97]).bind fun t7 => (some (t4.1.set (t5.1 : Int).toNat (⟨t7.1, (rd_T36 t4.1 t5.1).f1, (rd_T36 t4.1 t5.1).f2⟩ : S36), t7.2.1, t7.2.2))) else (if t6.1 = 1 then ((spec_l1Cur_among.f s0_0 t6.2.1 t6.2.2 [-1, 0, 999, 1000]).bind fun t7 => (some (t4.1.set (t5.1 : Int).toNat (⟨(rd_T36 t4.1 t5.1).f0, t7.1, (rd_T36 t4.1 t5.1).f2⟩ : S36), t7.2.1, t7.2.2))) else (if t6.1 = 2 then ((spec_l1Cur_among.f s0_0 t6.2.1 t6.2.2 [0, 99, 100]).bind fun t7 => (some (t4.1.set (t5.1 : Int).toNat (⟨(rd_T36 t4.1 t5.1).f0, (rd_T36 t4.1 t5.1).f1, t7.1⟩ : S36), t7.2.1, t7.2.2))) else (if t6.1 = 3 then (if t4.1.length < 5864062014805 then (some (t4.1 ++ [(⟨(rd_T36 t4.1 0).f0, (rd_T36 t4.1 0).f1, (rd_T36 t4.1 0).f2⟩ : S36)], t6.2.1, t6.2.2)) else (none)) else (if t6.1 = 4 then (spec_l1Cur_anyScore.l0 k t6.2.1 t6.2.2 ([] : List (S36))) else (some (t4.1, t6.2.1, t6.2.2)))))))) else (none)) else (none))) else (some (t4.1, t4.2.1, t4.2.2)))
instance spec_l1Cur_anyScore.lp0 {k : Nat} {r : List (S36) × Int × Int} {Q : Wr → Prop} {s1 : Int} {s2 : Int} {x3 : List (S36)} : Lp (spec_l1Cur_anyScore.l0 k s1 s2 x3 = some r) Q (fun k => ∀ {x3 : List (S36)}, spec_l1Cur_anyScore.l0 k s1 s2 x3 = some r → Q [(6, .p (.c (.rp (Tryz.f78.ntmps + 3)))), (2 * (Tryz.f78.ntmps + 3) + 1, .row 36 K36 x3)]) k [(6, .p (.c (.rp (Tryz.f78.ntmps + 3)))), (2 * (Tryz.f78.ntmps + 3) + 1, .row 36 K36 x3)] := ⟨fun j h => j h⟩
set_option maxRecDepth 40000 in
set_option maxHeartbeats 4000000 in
theorem spec_l1Cur_anyScore.con (k : Nat) (s0_0 : List Int) (s0_1 : Int) (s0_2 : Int) (r1 : List (S36)) (r2 : Int) (r3 : Int) (H : spec_l1Cur_anyScore.f k s0_0 s0_1 s0_2 = some (r1, r2, r3)) : Con Tryz.prog 78 [.p (.ob 70 [.sl (.int .u8) s0_0, .v (.int .i64 s0_1), .v (.int .u64 s0_2)])] (.p (.c (.ow 36 K36 r1))) [(0, .ob 70 [.sl (.int .u8) s0_0, .v (.int .i64 r2), .v (.int .u64 r3)])] := by
  refine Con.mk' (fn := Tryz.f78) Tryz.func78 rfl (by kernel_rfl) rfl rfl rfl fun X w0 gs hF => ?_
  unfold spec_l1Cur_anyScore.f at H
  exact auto
instance spec_l1Cur_anyScore.ctr {k : Nat} {s0_0 : List Int} {s0_1 : Int} {s0_2 : Int} {t_ : List (S36) × Int × Int} : Ctr (spec_l1Cur_anyScore.f k s0_0 s0_1 s0_2 = some t_) (Con Tryz.prog 78 [.p (.ob 70 [.sl (.int .u8) s0_0, .v (.int .i64 s0_1), .v (.int .u64 s0_2)])] (.p (.c (.ow 36 K36 t_.1))) [(0, .ob 70 [.sl (.int .u8) s0_0, .v (.int .i64 t_.2.1), .v (.int .u64 t_.2.2)])]) := ⟨fun h => spec_l1Cur_anyScore.con _ _ _ _ _ _ _ h⟩

end Go.Proofs.YtgjpphcbdbfhlaaGreat.L
