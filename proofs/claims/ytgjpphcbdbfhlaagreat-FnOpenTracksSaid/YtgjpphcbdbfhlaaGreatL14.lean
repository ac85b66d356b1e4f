/- BY EV: what the Go functions compute (read off the print), and that their calls come to it. No condition. -/
import Derived.Test.YtgjpphcbdbfhlaaGreatLEU
import Derived.Test.YtgjpphcbdbfhlaaGreatL2
import Derived.Test.YtgjpphcbdbfhlaaGreatL6
set_option linter.unusedVariables false
set_option linter.unusedSimpArgs false
namespace Go.Proofs.YtgjpphcbdbfhlaaGreat.L
open Go.RowKit Go.Proofs Go.Proofs.YtgjpphcbdbfhlaaGreatW.PrintWords Go.Proofs.YtgjpphcbdbfhlaaGreatW.PrintLast EV
def spec_DrawHoleFor.j0 : Nat → List Int → Int → Int → List Int → Int → Int → Int → Int → Option (List Int × Int × Int × Int × Int)
  | 0, _, _, _, _, _, _, _, _ => none
  | k + 1, q, a, s, ps, rep, p, b, d => (spec_l1Cur_one.f q a s 8).bind fun t5 => (if t5.1 = true then ((spec_l1Cur_pick.f q t5.2.1 t5.2.2 2).bind fun t6 => (some (ps, rep, p, wrap64 (901 + t6.1), 99))) else (some (ps, rep, p, b, d)))
def spec_DrawHoleFor.f (k : Nat) (l0 : List Int) : Option (List Int × Int × Int × Int × Int) := (spec_l1Cur_anyInstrument.f k l0 0 0).bind fun t1 => ((spec_l1Cur_anyNote.f l0 t1.2.2.1 t1.2.2.2).bind fun t2 => (if (t1.1.length : Int) > 0 then ((spec_l1Cur_one.f l0 t2.2.2.2.1 t2.2.2.2.2 4).bind fun t3 => (if t3.1 = true then (spec_DrawHoleFor.j0 k l0 t3.2.1 t3.2.2 t1.1 t1.2.1 t2.1 t2.2.1 t2.2.2.1) else ((spec_l1Cur_pick.f l0 t3.2.1 t3.2.2 (t1.1.length : Int)).bind fun t4 => (if 0 ≤ t4.1 then (if t4.1 < (t1.1.length : Int) then (spec_DrawHoleFor.j0 k l0 t4.2.1 t4.2.2 t1.1 t1.2.1 (rd t1.1 t4.1) t2.2.1 t2.2.2.1) else (none)) else (none))))) else (spec_DrawHoleFor.j0 k l0 t2.2.2.2.1 t2.2.2.2.2 t1.1 t1.2.1 t2.1 t2.2.1 t2.2.2.1)))
set_option maxRecDepth 40000 in
set_option maxHeartbeats 8000000 in
theorem spec_DrawHoleFor.con (k : Nat) (l0 : List Int) (r1 : List Int) (r2 : Int) (r3 : Int) (r4 : Int) (r5 : Int) (H : spec_DrawHoleFor.f k l0 = some (r1, r2, r3, r4, r5)) : Con Tryz.prog 11 [.p (.c (.sl (.int .u8) l0))] (.tp [.ag [.ow 3 (.int .i64) r1, .v (.int .i64 r2)], .ag [.v (.int .i64 r3), .v (.int .i64 r4), .v (.int .i64 r5)]]) := by
  refine Con.mk' (fn := Tryz.f11) Tryz.func11 rfl (by kernel_rfl) rfl rfl rfl fun X w0 gs hF => ?_
  unfold spec_DrawHoleFor.f at H
  exact auto
instance spec_DrawHoleFor.ctr {k : Nat} {l0 : List Int} {t_ : (List Int) × Int × Int × Int × Int} : Ctr (spec_DrawHoleFor.f k l0 = some t_) (Con Tryz.prog 11 [.p (.c (.sl (.int .u8) l0))] (.tp [.ag [.ow 3 (.int .i64) t_.1, .v (.int .i64 t_.2.1)], .ag [.v (.int .i64 t_.2.2.1), .v (.int .i64 t_.2.2.2.1), .v (.int .i64 t_.2.2.2.2)]])) := ⟨fun h => spec_DrawHoleFor.con _ _ _ _ _ _ _ h⟩

end Go.Proofs.YtgjpphcbdbfhlaaGreat.L
