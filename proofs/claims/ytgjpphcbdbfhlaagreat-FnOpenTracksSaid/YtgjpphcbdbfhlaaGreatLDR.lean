import Derived.Test.YtgjpphcbdbfhlaaGreatLEU
import Derived.Test.YtgjpphcbdbfhlaaGreatL2
import Derived.Test.YtgjpphcbdbfhlaaGreatL18
import Derived.Test.YtgjpphcbdbfhlaaGreatL4
import Derived.Test.YtgjpphcbdbfhlaaGreatL22
import Derived.Test.YtgjpphcbdbfhlaaGreatL3
import Derived.Test.YtgjpphcbdbfhlaaGreatL6
import Derived.Test.YtgjpphcbdbfhlaaGreatL25
section
/- BY EV: what the Go functions compute (read off the print), and that their calls come to it. No condition. -/
set_option linter.unusedVariables false
set_option linter.unusedSimpArgs false
namespace Go.Proofs.YtgjpphcbdbfhlaaGreat.L
open Go.RowKit Go.Proofs Go.Proofs.YtgjpphcbdbfhlaaGreatW.PrintWords Go.Proofs.YtgjpphcbdbfhlaaGreatW.PrintLast EV
def spec_DrawOpenTime.j0 : Nat → List Int → Int → Int → List (S40) → Option (List (S40) × Int)
  | 0, _, _, _, _ => none
  | k + 1, q, a, s, l => (spec_l1Cur_among.f q a s [20, -1]).bind fun u1 => ((spec_l1Cur_among.f q u1.2.1 u1.2.2 [0, 3, 19, u1.1]).bind fun u2 => (some (l, u2.1)))
def spec_DrawOpenTime.f (k : Nat) (l0 : List Int) : Option (List (S40) × Int) := (spec_l1Cur_anySheet.f k l0 0 0).bind fun t1 => (if (t1.1.length : Int) > 0 then ((spec_l1Cur_one.f l0 t1.2.1 t1.2.2 2).bind fun t2 => (if t2.1 = true then ((spec_l1Cur_pick.f l0 t2.2.1 t2.2.2 (t1.1.length : Int)).bind fun t3 => (if 0 ≤ t3.1 then (if t3.1 < (t1.1.length : Int) then (some (t1.1, (rd_T40 t1.1 t3.1).f0)) else (none)) else (none))) else (spec_DrawOpenTime.j0 k l0 t2.2.1 t2.2.2 t1.1))) else (spec_DrawOpenTime.j0 k l0 t1.2.1 t1.2.2 t1.1))
set_option maxRecDepth 40000 in
set_option maxHeartbeats 8000000 in
theorem spec_DrawOpenTime.con (k : Nat) (l0 : List Int) (r1 : List (S40)) (r2 : Int) (H : spec_DrawOpenTime.f k l0 = some (r1, r2)) : Con Tryz.prog 30 [.p (.c (.sl (.int .u8) l0))] (.tp [.c (.ow 40 K40 r1), .c (.v (.int .i64 r2))]) := by
  refine Con.mk' (fn := Tryz.f30) Tryz.func30 rfl (by kernel_rfl) rfl rfl rfl fun X w0 gs hF => ?_
  unfold spec_DrawOpenTime.f at H
  exact auto
instance spec_DrawOpenTime.ctr {k : Nat} {l0 : List Int} {t_ : (List (S40)) × Int} : Ctr (spec_DrawOpenTime.f k l0 = some t_) (Con Tryz.prog 30 [.p (.c (.sl (.int .u8) l0))] (.tp [.c (.ow 40 K40 t_.1), .c (.v (.int .i64 t_.2))])) := ⟨fun h => spec_DrawOpenTime.con _ _ _ _ h⟩

end Go.Proofs.YtgjpphcbdbfhlaaGreat.L
end
section
/- BY EV: what the Go functions compute (read off the print), and that their calls come to it. No condition. -/
set_option linter.unusedVariables false
set_option linter.unusedSimpArgs false
namespace Go.Proofs.YtgjpphcbdbfhlaaGreat.L
open Go.RowKit Go.Proofs Go.Proofs.YtgjpphcbdbfhlaaGreatW.PrintWords Go.Proofs.YtgjpphcbdbfhlaaGreatW.PrintLast EV
def spec_DrawCrowdedSteps.f (k : Nat) (l0 : List Int) : Option (List (S40) × Int) := (spec_l1Cur_anySheet.f k l0 0 0).bind fun t1 => ((spec_l1Cur_among.f l0 t1.2.1 t1.2.2 [21, -1]).bind fun t2 => ((spec_l1Cur_among.f l0 t2.2.1 t2.2.2 [0, 1, 2, 3, 20, t2.1]).bind fun t3 => (some (t1.1, t3.1))))
set_option maxRecDepth 40000 in
set_option maxHeartbeats 8000000 in
theorem spec_DrawCrowdedSteps.con (k : Nat) (l0 : List Int) (r1 : List (S40)) (r2 : Int) (H : spec_DrawCrowdedSteps.f k l0 = some (r1, r2)) : Con Tryz.prog 33 [.p (.c (.sl (.int .u8) l0))] (.tp [.c (.ow 40 K40 r1), .c (.v (.int .i64 r2))]) := by
  refine Con.mk' (fn := Tryz.f33) Tryz.func33 rfl (by kernel_rfl) rfl rfl rfl fun X w0 gs hF => ?_
  unfold spec_DrawCrowdedSteps.f at H
  exact auto
instance spec_DrawCrowdedSteps.ctr {k : Nat} {l0 : List Int} {t_ : (List (S40)) × Int} : Ctr (spec_DrawCrowdedSteps.f k l0 = some t_) (Con Tryz.prog 33 [.p (.c (.sl (.int .u8) l0))] (.tp [.c (.ow 40 K40 t_.1), .c (.v (.int .i64 t_.2))])) := ⟨fun h => spec_DrawCrowdedSteps.con _ _ _ _ h⟩

end Go.Proofs.YtgjpphcbdbfhlaaGreat.L
end
section
/- BY EV: what the Go functions compute (read off the print), and that their calls come to it. No condition. -/
set_option linter.unusedVariables false
set_option linter.unusedSimpArgs false
namespace Go.Proofs.YtgjpphcbdbfhlaaGreat.L
open Go.RowKit Go.Proofs Go.Proofs.YtgjpphcbdbfhlaaGreatW.PrintWords Go.Proofs.YtgjpphcbdbfhlaaGreatW.PrintLast EV
def spec_DrawLayOut.f (k : Nat) (l0 : List Int) : Option (List Int × Int × List (S36)) := (spec_l1Cur_scoreFor.f k l0 0 0).bind fun t1 => ((spec_inAsked.f k t1.1 t1.2.1 t1.2.2.1).bind fun t2 => (if t2 = true then ((spec_l1Cur_one.f l0 t1.2.2.2.1 t1.2.2.2.2 3).bind fun t3 => (if t3.1 = true then (some (t1.1, t1.2.1, t1.2.2.1)) else ((spec_inPart.f k t1.1 t1.2.1 t1.2.2.1).bind fun t4 => (some (t1.1, t1.2.1, t4))))) else (some (t1.1, t1.2.1, t1.2.2.1))))
set_option maxRecDepth 40000 in
set_option maxHeartbeats 8000000 in
theorem spec_DrawLayOut.con (k : Nat) (l0 : List Int) (r1 : List Int) (r2 : Int) (r3 : List (S36)) (H : spec_DrawLayOut.f k l0 = some (r1, r2, r3)) : Con Tryz.prog 5 [.p (.c (.sl (.int .u8) l0))] (.tp [.ag [.ow 3 (.int .i64) r1, .v (.int .i64 r2)], .c (.ow 36 K36 r3)]) := by
  refine Con.mk' (fn := Tryz.f5) Tryz.func5 rfl (by kernel_rfl) rfl rfl rfl fun X w0 gs hF => ?_
  unfold spec_DrawLayOut.f at H
  exact auto
instance spec_DrawLayOut.ctr {k : Nat} {l0 : List Int} {t_ : (List Int) × Int × (List (S36))} : Ctr (spec_DrawLayOut.f k l0 = some t_) (Con Tryz.prog 5 [.p (.c (.sl (.int .u8) l0))] (.tp [.ag [.ow 3 (.int .i64) t_.1, .v (.int .i64 t_.2.1)], .c (.ow 36 K36 t_.2.2)])) := ⟨fun h => spec_DrawLayOut.con _ _ _ _ _ h⟩

end Go.Proofs.YtgjpphcbdbfhlaaGreat.L
end
section
/- BY EV: what the Go functions compute (read off the print), and that their calls come to it. No condition. -/
set_option linter.unusedVariables false
set_option linter.unusedSimpArgs false
namespace Go.Proofs.YtgjpphcbdbfhlaaGreat.L
open Go.RowKit Go.Proofs Go.Proofs.YtgjpphcbdbfhlaaGreatW.PrintWords Go.Proofs.YtgjpphcbdbfhlaaGreatW.PrintLast EV
def spec_DrawLayOutFrom.j0 : Nat → List Int → Int → Int → List Int → Int → List (S36) → Option (List Int × Int × List (S36) × Int)
  | 0, _, _, _, _, _, _ => none
  | k + 1, q, a, s, ps, rep, l => (spec_l1Cur_pick.f q a s 60).bind fun u1 => ((spec_l1Cur_among.f q u1.2.1 u1.2.2 [2001, -1]).bind fun u2 => ((spec_l1Cur_among.f q u2.2.1 u2.2.2 [0, 1, 10, u1.1, 2000, u2.1]).bind fun u3 => ((spec_ntGood.f k l).bind fun u4 => (if u4 = true then ((spec_l1Cur_one.f q u3.2.1 u3.2.2 4).bind fun u5 => (if u5.1 = true then ((spec_ntEnd.f k l).bind fun u6 => ((spec_l1Cur_pick.f q u5.2.1 u5.2.2 2).bind fun u7 => ((spec_l1Most.f 0 (wrap64 (wrap64 (2001 - wrap64 (2 * u6)) + u7.1))).bind fun u8 => (some (ps, rep, l, u8))))) else (some (ps, rep, l, u3.1)))) else (some (ps, rep, l, u3.1))))))
def spec_DrawLayOutFrom.f (k : Nat) (l0 : List Int) : Option (List Int × Int × List (S36) × Int) := (spec_l1Cur_scoreFor.f k l0 0 0).bind fun t1 => ((spec_inAsked.f k t1.1 t1.2.1 t1.2.2.1).bind fun t2 => (if t2 = true then ((spec_l1Cur_one.f l0 t1.2.2.2.1 t1.2.2.2.2 4).bind fun t3 => (if t3.1 = true then (spec_DrawLayOutFrom.j0 k l0 t3.2.1 t3.2.2 t1.1 t1.2.1 t1.2.2.1) else ((spec_inPart.f k t1.1 t1.2.1 t1.2.2.1).bind fun t4 => (spec_DrawLayOutFrom.j0 k l0 t3.2.1 t3.2.2 t1.1 t1.2.1 t4)))) else (spec_DrawLayOutFrom.j0 k l0 t1.2.2.2.1 t1.2.2.2.2 t1.1 t1.2.1 t1.2.2.1)))
set_option maxRecDepth 40000 in
set_option maxHeartbeats 8000000 in
theorem spec_DrawLayOutFrom.con (k : Nat) (l0 : List Int) (r1 : List Int) (r2 : Int) (r3 : List (S36)) (r4 : Int) (H : spec_DrawLayOutFrom.f k l0 = some (r1, r2, r3, r4)) : Con Tryz.prog 8 [.p (.c (.sl (.int .u8) l0))] (.tp [.ag [.ow 3 (.int .i64) r1, .v (.int .i64 r2)], .c (.ow 36 K36 r3), .c (.v (.int .i64 r4))]) := by
  refine Con.mk' (fn := Tryz.f8) Tryz.func8 rfl (by kernel_rfl) rfl rfl rfl fun X w0 gs hF => ?_
  unfold spec_DrawLayOutFrom.f at H
  exact auto
instance spec_DrawLayOutFrom.ctr {k : Nat} {l0 : List Int} {t_ : (List Int) × Int × (List (S36)) × Int} : Ctr (spec_DrawLayOutFrom.f k l0 = some t_) (Con Tryz.prog 8 [.p (.c (.sl (.int .u8) l0))] (.tp [.ag [.ow 3 (.int .i64) t_.1, .v (.int .i64 t_.2.1)], .c (.ow 36 K36 t_.2.2.1), .c (.v (.int .i64 t_.2.2.2))])) := ⟨fun h => spec_DrawLayOutFrom.con _ _ _ _ _ _ h⟩

end Go.Proofs.YtgjpphcbdbfhlaaGreat.L
end
section
/- BY EV: what the Go functions compute (read off the print), and that their calls come to it. No condition. -/
set_option linter.unusedVariables false
set_option linter.unusedSimpArgs false
namespace Go.Proofs.YtgjpphcbdbfhlaaGreat.L
open Go.RowKit Go.Proofs Go.Proofs.YtgjpphcbdbfhlaaGreatW.PrintWords Go.Proofs.YtgjpphcbdbfhlaaGreatW.PrintLast EV
def spec_DrawNoteFor.j0 : Nat → List Int → Int → Int → List Int → Int → Option (List Int × Int × Int × Int × Int)
  | 0, _, _, _, _, _ => none
  | k + 1, q, a, s, ps, rep => (spec_l1Cur_pick.f q a s 40).bind fun u1 => ((spec_l1Cur_pick.f q u1.2.1 u1.2.2 4).bind fun u2 => ((spec_l1Cur_among.f q u2.2.1 u2.2.2 [0, 1, 2, 197, 199]).bind fun u3 => (some (ps, rep, u2.1, wrap64 (2 * u1.1), wrap64 (wrap64 (2 * u1.1) + u3.1)))))
def spec_DrawNoteFor.f (k : Nat) (l0 : List Int) : Option (List Int × Int × Int × Int × Int) := (spec_l1Cur_laidOut.f k l0 0 0).bind fun t1 => (if (t1.2.2.1.length : Int) > 0 then ((spec_l1Cur_one.f l0 t1.2.2.2.1 t1.2.2.2.2 6).bind fun t2 => (if t2.1 = true then (spec_DrawNoteFor.j0 k l0 t2.2.1 t2.2.2 t1.1 t1.2.1) else ((spec_l1Cur_pick.f l0 t2.2.1 t2.2.2 (t1.2.2.1.length : Int)).bind fun t3 => (if 0 ≤ t3.1 then (if t3.1 < (t1.2.2.1.length : Int) then (some (t1.1, t1.2.1, (rd_T40 t1.2.2.1 t3.1).f0, (rd_T40 t1.2.2.1 t3.1).f1, (rd_T40 t1.2.2.1 t3.1).f2)) else (none)) else (none))))) else (spec_DrawNoteFor.j0 k l0 t1.2.2.2.1 t1.2.2.2.2 t1.1 t1.2.1))
set_option maxRecDepth 40000 in
set_option maxHeartbeats 8000000 in
theorem spec_DrawNoteFor.con (k : Nat) (l0 : List Int) (r1 : List Int) (r2 : Int) (r3 : Int) (r4 : Int) (r5 : Int) (H : spec_DrawNoteFor.f k l0 = some (r1, r2, r3, r4, r5)) : Con Tryz.prog 14 [.p (.c (.sl (.int .u8) l0))] (.tp [.ag [.ow 3 (.int .i64) r1, .v (.int .i64 r2)], .ag [.v (.int .i64 r3), .v (.int .i64 r4), .v (.int .i64 r5)]]) := by
  refine Con.mk' (fn := Tryz.f14) Tryz.func14 rfl (by kernel_rfl) rfl rfl rfl fun X w0 gs hF => ?_
  unfold spec_DrawNoteFor.f at H
  exact auto
instance spec_DrawNoteFor.ctr {k : Nat} {l0 : List Int} {t_ : (List Int) × Int × Int × Int × Int} : Ctr (spec_DrawNoteFor.f k l0 = some t_) (Con Tryz.prog 14 [.p (.c (.sl (.int .u8) l0))] (.tp [.ag [.ow 3 (.int .i64) t_.1, .v (.int .i64 t_.2.1)], .ag [.v (.int .i64 t_.2.2.1), .v (.int .i64 t_.2.2.2.1), .v (.int .i64 t_.2.2.2.2)]])) := ⟨fun h => spec_DrawNoteFor.con _ _ _ _ _ _ _ h⟩

end Go.Proofs.YtgjpphcbdbfhlaaGreat.L
end
section
/- BY EV: what the Go functions compute (read off the print), and that their calls come to it. No condition. -/
set_option linter.unusedVariables false
set_option linter.unusedSimpArgs false
namespace Go.Proofs.YtgjpphcbdbfhlaaGreat.L
open Go.RowKit Go.Proofs Go.Proofs.YtgjpphcbdbfhlaaGreatW.PrintWords Go.Proofs.YtgjpphcbdbfhlaaGreatW.PrintLast EV
def spec_DrawReadBack.f (k : Nat) (l0 : List Int) : Option (List Int × Int × List (S40)) := (spec_l1Cur_laidOut.f k l0 0 0).bind fun t => (some (t.1, t.2.1, t.2.2.1))
set_option maxRecDepth 40000 in
set_option maxHeartbeats 8000000 in
theorem spec_DrawReadBack.con (k : Nat) (l0 : List Int) (r1 : List Int) (r2 : Int) (r3 : List (S40)) (H : spec_DrawReadBack.f k l0 = some (r1, r2, r3)) : Con Tryz.prog 23 [.p (.c (.sl (.int .u8) l0))] (.tp [.ag [.ow 3 (.int .i64) r1, .v (.int .i64 r2)], .c (.ow 40 K40 r3)]) := by
  refine Con.mk' (fn := Tryz.f23) Tryz.func23 rfl (by kernel_rfl) rfl rfl rfl fun X w0 gs hF => ?_
  unfold spec_DrawReadBack.f at H
  exact auto
instance spec_DrawReadBack.ctr {k : Nat} {l0 : List Int} {t_ : (List Int) × Int × (List (S40))} : Ctr (spec_DrawReadBack.f k l0 = some t_) (Con Tryz.prog 23 [.p (.c (.sl (.int .u8) l0))] (.tp [.ag [.ow 3 (.int .i64) t_.1, .v (.int .i64 t_.2.1)], .c (.ow 40 K40 t_.2.2)])) := ⟨fun h => spec_DrawReadBack.con _ _ _ _ _ h⟩

end Go.Proofs.YtgjpphcbdbfhlaaGreat.L
end
