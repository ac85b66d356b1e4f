/- BY EV: what the Go functions compute (read off the print), and that their calls come to it. No condition. -/
import Derived.Test.YthgemodkebahoaaAEU
import Derived.Test.YthgemodkebahoaaA2
import Derived.Test.YthgemodkebahoaaA9
set_option linter.unusedVariables false
set_option linter.unusedSimpArgs false
namespace Go.Proofs.Ythgemodkebahoaa.A
open Go.RowKit Go.Proofs Go.Proofs.YthgemodkebahoaaW.PrintWords Go.Proofs.YthgemodkebahoaaW.PrintLast EV
mutual
def spec_l1Cur_pins.l0 : Nat → List Int → Int → Int → Int → Int → List (S39) → Option (List (S39) × Int × Int)
  | 0, _, _, _, _, _, _ => none
  | k + 1, q0, s1, s2, x4, x5, x3 => if (x3.length : Int) < x4 then (if x5 < 300 then ((spec_l1Cur_pin.f q0 s1 s2).bind fun t26 => (if x4 = 60 then (spec_l1Cur_pins.j1 k q0 t26.2.2.2.1 t26.2.2.2.2 x4 x5 x3 t26.1 (wrap64 (6 * Int.tmod x5 60)) (Int.tmod x5 4)) else (spec_l1Cur_pins.j1 k q0 t26.2.2.2.1 t26.2.2.2.2 x4 x5 x3 t26.1 t26.2.1 t26.2.2.1))) else (spec_l1Cur_pins.j2 k q0 s1 s2 x3)) else (spec_l1Cur_pins.j2 k q0 s1 s2 x3)
def spec_l1Cur_pins.j1 : Nat → List Int → Int → Int → Int → Int → List (S39) → Int → Int → Int → Option (List (S39) × Int × Int)
  | 0, _, _, _, _, _, _, _, _, _ => none
  | k + 1, q0, s1, s2, x4, x5, x3, y0, y1, y2 => if ([] : List (S39)).length + x3.length < 5864062014805 then (if (([] : List (S39)) ++ x3).length < 5864062014805 then ((spec_cySorted.f k ((([] : List (S39)) ++ x3) ++ [(⟨y0, y1, y2⟩ : S39)])).bind fun t43 => (if t43.2 = true then (spec_l1Cur_pins.l0 k q0 s1 s2 x4 (wrap64 (x5 + 1)) t43.1) else (spec_l1Cur_pins.l0 k q0 s1 s2 x4 (wrap64 (x5 + 1)) x3))) else (none)) else (none)
def spec_l1Cur_pins.j2 : Nat → List Int → Int → Int → List (S39) → Option (List (S39) × Int × Int)
  | 0, _, _, _, _ => none
  | k + 1, q0, s1, s2, x3 => if (x3.length : Int) > 0 then ((spec_l1Cur_pick.f q0 s1 s2 (x3.length : Int)).bind fun t55 => (if 0 ≤ t55.1 then (if t55.1 < (x3.length : Int) then ((spec_l1Cur_pick.f q0 t55.2.1 t55.2.2 36).bind fun t58 => (if t58.1 = 0 then ((spec_l1Cur_among.f q0 t58.2.1 t58.2.2 [-1, 19, 20]).bind fun t64 => (some (x3.set (t55.1 : Int).toNat (⟨t64.1, (rd_T39 x3 t55.1).f1, (rd_T39 x3 t55.1).f2⟩ : S39), t64.2.1, t64.2.2))) else (if t58.1 = 1 then ((spec_l1Cur_among.f q0 t58.2.1 t58.2.2 [-1, 359, 360]).bind fun t64 => (some (x3.set (t55.1 : Int).toNat (⟨(rd_T39 x3 t55.1).f0, t64.1, (rd_T39 x3 t55.1).f2⟩ : S39), t64.2.1, t64.2.2))) else (if t58.1 = 2 then ((spec_l1Cur_among.f q0 t58.2.1 t58.2.2 [-1, 3, 4]).bind fun t64 => (some (x3.set (t55.1 : Int).toNat (⟨(rd_T39 x3 t55.1).f0, (rd_T39 x3 t55.1).f1, t64.1⟩ : S39), t64.2.1, t64.2.2))) else (if t58.1 = 3 then (if x3.length < 5864062014805 then (some (x3 ++ [(⟨(rd_T39 x3 0).f0, (rd_T39 x3 0).f1, (rd_T39 x3 0).f2⟩ : S39)], t58.2.1, t58.2.2)) else (none)) else (if t58.1 = 4 then (spec_l1Cur_pins.l1 k t58.2.1 t58.2.2 x3 0) else (some (x3, t58.2.1, t58.2.2)))))))) else (none)) else (none))) else (some (x3, s1, s2))
def spec_l1Cur_pins.l1 : Nat → Int → Int → List (S39) → Int → Option (List (S39) × Int × Int)
  | 0, _, _, _, _ => none
  | k + 1, s1, s2, x3, x10 => if (x3.length : Int) < 61 then (if x3.length < 5864062014805 then (spec_l1Cur_pins.l1 k s1 s2 (x3 ++ [(⟨19, wrap64 (5 * x10), 3⟩ : S39)]) (wrap64 (x10 + 1))) else (none)) else (some (x3, s1, s2))
end
def spec_l1Cur_pins.f (k : Nat) (s0_0 : List Int) (s0_1 s0_2 : Int) : Option (List (S39) × Int × Int) := (spec_l1Cur_pick.f s0_0 s0_1 s0_2 9).bind fun t12 => ((spec_l1Cur_one.f s0_0 t12.2.1 t12.2.2 24).bind fun t14 => (if t14.1 = true then (spec_l1Cur_pins.l0 k s0_0 t14.2.1 t14.2.2 60 0 ([] : List (S39))) else (spec_l1Cur_pins.l0 k s0_0 t14.2.1 t14.2.2 t12.1 0 ([] : List (S39)))))
instance spec_l1Cur_pins.lp0 {k : Nat} {r : List (S39) × Int × Int} {Q : Wr → Prop} {q0 : List Int} {x4 : Int} {s1 s2 x5 : Int} {x3 : List (S39)} : Lp (spec_l1Cur_pins.l0 k q0 s1 s2 x4 x5 x3 = some r) Q (fun k => ∀ {s1 s2 x5 : Int} {x3 : List (S39)}, spec_l1Cur_pins.l0 k q0 s1 s2 x4 x5 x3 = some r → Q [(0, .p (.c (.bx (2 * Try.f30.ntmps) 0))), (2 * (2 * Try.f30.ntmps) + 1, .mem 53 [.sl (.int .u8) q0, .v (.int .i64 s1), .v (.int .u64 s2)]), (6, .p (.c (.rp (Try.f30.ntmps + 3)))), (2 * (Try.f30.ntmps + 3) + 1, .row 39 K39 x3), (10, .p (.c (.v (.int .i64 x5))))]) k [(0, .p (.c (.bx (2 * Try.f30.ntmps) 0))), (2 * (2 * Try.f30.ntmps) + 1, .mem 53 [.sl (.int .u8) q0, .v (.int .i64 s1), .v (.int .u64 s2)]), (6, .p (.c (.rp (Try.f30.ntmps + 3)))), (2 * (Try.f30.ntmps + 3) + 1, .row 39 K39 x3), (10, .p (.c (.v (.int .i64 x5))))] := ⟨fun j h => j h⟩
instance spec_l1Cur_pins.lp1 {k : Nat} {r : List (S39) × Int × Int} {Q : Wr → Prop} {s1 s2 : Int} {x10 : Int} {x3 : List (S39)} : Lp (spec_l1Cur_pins.l1 k s1 s2 x3 x10 = some r) Q (fun k => ∀ {x10 : Int} {x3 : List (S39)}, spec_l1Cur_pins.l1 k s1 s2 x3 x10 = some r → Q [(6, .p (.c (.rp (Try.f30.ntmps + 3)))), (2 * (Try.f30.ntmps + 3) + 1, .row 39 K39 x3), (20, .p (.c (.v (.int .i64 x10))))]) k [(6, .p (.c (.rp (Try.f30.ntmps + 3)))), (2 * (Try.f30.ntmps + 3) + 1, .row 39 K39 x3), (20, .p (.c (.v (.int .i64 x10))))] := ⟨fun j h => j h⟩
set_option maxRecDepth 40000 in
set_option maxHeartbeats 4000000 in
theorem spec_l1Cur_pins.con (k : Nat) (s0_0 : List Int) (s0_1 s0_2 : Int) (r1 : List (S39)) (r2 r3 : Int) (H : spec_l1Cur_pins.f k s0_0 s0_1 s0_2 = some (r1, r2, r3)) : Con Try.prog 30 [.p (.ob 53 [.sl (.int .u8) s0_0, .v (.int .i64 s0_1), .v (.int .u64 s0_2)])] (.p (.c (.ow 39 K39 r1))) [(0, .ob 53 [.sl (.int .u8) s0_0, .v (.int .i64 r2), .v (.int .u64 r3)])] := by
  refine Con.mk' (fn := Try.f30) Try.func30 rfl (by kernel_rfl) rfl rfl rfl fun X w0 gs hF => ?_
  unfold spec_l1Cur_pins.f at H
  exact auto
instance spec_l1Cur_pins.ctr {k : Nat} {s0_0 : List Int} {s0_1 s0_2 : Int} {t_ : List (S39) × Int × Int} : Ctr (spec_l1Cur_pins.f k s0_0 s0_1 s0_2 = some t_) (Con Try.prog 30 [.p (.ob 53 [.sl (.int .u8) s0_0, .v (.int .i64 s0_1), .v (.int .u64 s0_2)])] (.p (.c (.ow 39 K39 t_.1))) [(0, .ob 53 [.sl (.int .u8) s0_0, .v (.int .i64 t_.2.1), .v (.int .u64 t_.2.2)])]) := ⟨fun h => spec_l1Cur_pins.con _ _ _ _ _ _ _ h⟩

end Go.Proofs.Ythgemodkebahoaa.A
