/- BY EV: what the Go functions compute (read off the print), and that their calls come to it. No condition. -/
import Derived.Test.YtgjpphcbdbfhlaaGreatLEU
import Derived.Test.YtgjpphcbdbfhlaaGreatL2
import Derived.Test.YtgjpphcbdbfhlaaGreatL4
import Derived.Test.YtgjpphcbdbfhlaaGreatL17
import Derived.Test.YtgjpphcbdbfhlaaGreatL18
import Derived.Test.YtgjpphcbdbfhlaaGreatL22
set_option linter.unusedVariables false
set_option linter.unusedSimpArgs false
namespace Go.Proofs.YtgjpphcbdbfhlaaGreat.L
open Go.RowKit Go.Proofs Go.Proofs.YtgjpphcbdbfhlaaGreatW.PrintWords Go.Proofs.YtgjpphcbdbfhlaaGreatW.PrintLast EV
def spec_l1Cur_laidOut.f (k : Nat) (s0_0 : List Int) (s0_1 s0_2 : Int) : Option (List Int × Int × List (S40) × Int × Int) := ((spec_l1Cur_scoreFor.f k s0_0 s0_1 s0_2).bind fun t1 => ((spec_inAsked.f k t1.1 t1.2.1 t1.2.2.1).bind fun t2 => (if t2 = true then ((spec_l1Cur_one.f s0_0 t1.2.2.2.1 t1.2.2.2.2 8).bind fun t3 => (if t3.1 = true then ((spec_l1Cur_anySheet.f k s0_0 t3.2.1 t3.2.2).bind fun t4 => (some (t1.1, t1.2.1, t4.1, t4.2.1, t4.2.2))) else ((spec_inPart.f k t1.1 t1.2.1 t1.2.2.1).bind fun t4 => ((spec_laHoles.f k t1.1 t1.2.1 t4 0).bind fun t5 => (if t5.2 = true then (if (t5.1.length : Int) > 0 then ((spec_l1Cur_pick.f s0_0 t3.2.1 t3.2.2 (t5.1.length : Int)).bind fun t6 => (if 0 ≤ t6.1 then (if t6.1 < (t5.1.length : Int) then ((spec_l1Cur_pick.f s0_0 t6.2.1 t6.2.2 12).bind fun t7 => (if t7.1 = 0 then ((spec_l1Cur_among.f s0_0 t7.2.1 t7.2.2 [0, wrap64 ((t1.1.length : Int) - 1), (t1.1.length : Int), 19, 20]).bind fun t8 => (some (t1.1, t1.2.1, t5.1.set (t6.1 : Int).toNat (⟨t8.1, (rd_T40 t5.1 t6.1).f1, (rd_T40 t5.1 t6.1).f2⟩ : S40), t8.2.1, t8.2.2))) else (if t7.1 = 1 then (some (t1.1, t1.2.1, t5.1.set (t6.1 : Int).toNat (⟨(rd_T40 t5.1 t6.1).f0, (rd_T40 t5.1 t6.1).f1, wrap64 ((rd_T40 t5.1 t6.1).f2 + 1)⟩ : S40), t7.2.1, t7.2.2)) else (if t7.1 = 2 then (some (t1.1, t1.2.1, t5.1.set (t6.1 : Int).toNat (⟨(rd_T40 t5.1 t6.1).f0, wrap64 ((rd_T40 t5.1 t6.1).f1 + 1), (rd_T40 t5.1 t6.1).f2⟩ : S40), t7.2.1, t7.2.2)) else (some (t1.1, t1.2.1, t5.1, t7.2.1, t7.2.2)))))) else (none)) else (none))) else (some (t1.1, t1.2.1, t5.1, t3.2.1, t3.2.2))) else ((spec_l1Cur_sheet.f k s0_0 t3.2.1 t3.2.2).bind fun t6 => (some (t1.1, t1.2.1, t6.1, t6.2.1, t6.2.2)))))))) else ((spec_l1Cur_anySheet.f k s0_0 t1.2.2.2.1 t1.2.2.2.2).bind fun t4 => (some (t1.1, t1.2.1, t4.1, t4.2.1, t4.2.2))))))
set_option maxRecDepth 40000 in
set_option maxHeartbeats 8000000 in
theorem spec_l1Cur_laidOut.con (k : Nat) (s0_0 : List Int) (s0_1 : Int) (s0_2 : Int) (r1 : List Int) (r2 : Int) (r3 : List (S40)) (r4 : Int) (r5 : Int) (H : spec_l1Cur_laidOut.f k s0_0 s0_1 s0_2 = some (r1, r2, r3, r4, r5)) : Con Tryz.prog 60 [.p (.ob 70 [.sl (.int .u8) s0_0, .v (.int .i64 s0_1), .v (.int .u64 s0_2)])] (.tp [.ag [.ow 3 (.int .i64) r1, .v (.int .i64 r2)], .c (.ow 40 K40 r3)]) [(0, .ob 70 [.sl (.int .u8) s0_0, .v (.int .i64 r4), .v (.int .u64 r5)])] := by
  refine Con.mk' (fn := Tryz.f60) Tryz.func60 rfl (by kernel_rfl) rfl rfl rfl fun X w0 gs hF => ?_
  unfold spec_l1Cur_laidOut.f at H
  exact auto
instance spec_l1Cur_laidOut.ctr {k : Nat} {s0_0 : List Int} {s0_1 : Int} {s0_2 : Int} {t_ : (List Int) × Int × (List (S40)) × Int × Int} : Ctr (spec_l1Cur_laidOut.f k s0_0 s0_1 s0_2 = some t_) (Con Tryz.prog 60 [.p (.ob 70 [.sl (.int .u8) s0_0, .v (.int .i64 s0_1), .v (.int .u64 s0_2)])] (.tp [.ag [.ow 3 (.int .i64) t_.1, .v (.int .i64 t_.2.1)], .c (.ow 40 K40 t_.2.2.1)]) [(0, .ob 70 [.sl (.int .u8) s0_0, .v (.int .i64 t_.2.2.2.1), .v (.int .u64 t_.2.2.2.2)])]) := ⟨fun h => spec_l1Cur_laidOut.con _ _ _ _ _ _ _ _ _ h⟩

end Go.Proofs.YtgjpphcbdbfhlaaGreat.L
