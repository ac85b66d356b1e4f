/- BY EV: what the Go functions compute (read off the print), and that their calls come to it. No condition. -/
import Derived.Test.YthgemodkebahoaaAEU
import Derived.Test.YthgemodkebahoaaA2
import Derived.Test.YthgemodkebahoaaA3
import Derived.Test.YthgemodkebahoaaA4
import Derived.Test.YthgemodkebahoaaA5
import Derived.Test.YthgemodkebahoaaA7
import Derived.Test.YthgemodkebahoaaA8
import Derived.Test.YthgemodkebahoaaA9
set_option linter.unusedVariables false
set_option linter.unusedSimpArgs false
namespace Go.Proofs.Ythgemodkebahoaa.A
open Go.RowKit Go.Proofs Go.Proofs.YthgemodkebahoaaW.PrintWords Go.Proofs.YthgemodkebahoaaW.PrintLast EV
/-! ### impl_turnTune: function 34 -/
def impl_turnTune.l0 : Nat → Int → Int → List (S39) → Int → Int → Option ((List (S39)) × Bool)
  | 0, _, _, _, _, _ => none
  | k + 1, x1, x2, x8, x13, x14 => if x14 < x13 then (if 0 ≤ x14 then (if x14 < (x8.length : Int) then (if ((rd_T39 x8 x14).f2) = x1 then (impl_turnTune.l0 k x1 x2 (x8.set (x14 : Int).toNat (⟨(rd_T39 x8 x14).f0, Int.tmod (wrap64 (((rd_T39 x8 x14).f1) + x2)) 360, (rd_T39 x8 x14).f2⟩ : S39)) x13 (wrap64 (x14 + 1))) else (impl_turnTune.l0 k x1 x2 x8 x13 (wrap64 (x14 + 1)))) else (none)) else (none)) else ((impl_pinsOf.f k x8).bind fun bt241 => (some (bt241.1, bt241.2)))
def impl_turnTune.f (k : Nat) (l0 : List (S39)) (a1 : Int) (a2 : Int) : Option ((List (S39)) × Bool) := (impl_Pin.f l0).bind fun t235 => (impl_turnTune.l0 k a1 a2 t235 (t235.length : Int) 0)
instance impl_turnTune.lp0 {k : Nat} {r : (List (S39)) × Bool} {Q : Wr → Prop} {p0 : Int} {p1 : Int} {p3 : Int} {x8_1 : List (S39)} {x14_1 : Int} : Lp (impl_turnTune.l0 k p0 p1 x8_1 p3 x14_1 = some r) Q (fun k => ∀ {x8_1 : List (S39)} {x14_1 : Int}, impl_turnTune.l0 k p0 p1 x8_1 p3 x14_1 = some r → Q [(16, .p (.c (.rp (Try.f34.ntmps + 8)))), (2 * (Try.f34.ntmps + 8) + 1, .row 39 K39 x8_1), (28, .p (.c (.v (.int .i64 x14_1))))]) k [(16, .p (.c (.rp (Try.f34.ntmps + 8)))), (2 * (Try.f34.ntmps + 8) + 1, .row 39 K39 x8_1), (28, .p (.c (.v (.int .i64 x14_1))))] := ⟨fun j h => j h⟩
set_option maxRecDepth 8000 in
set_option maxHeartbeats 2000000 in
theorem impl_turnTune.con (k : Nat) (l0 : List (S39)) (a1 : Int) (a2 : Int) (r1 : List (S39)) (r2 : Bool) (H : impl_turnTune.f k l0 a1 a2 = some (r1, r2)) : Con Try.prog 34 [.p (.c (.sl K39 l0)), .p (.c (.v (.int .i64 a1))), .p (.c (.v (.int .i64 a2)))] (.tp [.c (.ow 39 K39 r1), .c (.v (.bool r2))]) := by
  refine Con.mk' (fn := Try.f34) Try.func34 rfl (by kernel_rfl) rfl rfl rfl fun X w0 gs hF => ?_
  unfold impl_turnTune.f at H
  exact auto
instance impl_turnTune.ctr {k : Nat} {l0 : List (S39)} {a1 : Int} {a2 : Int} {t_ : (List (S39)) × (Bool)} : Ctr (impl_turnTune.f k l0 a1 a2 = some t_) (Con Try.prog 34 [.p (.c (.sl K39 l0)), .p (.c (.v (.int .i64 a1))), .p (.c (.v (.int .i64 a2)))] (.tp [.c (.ow 39 K39 t_.1), .c (.v (.bool t_.2))])) := ⟨fun h => impl_turnTune.con _ _ _ _ (t_.1) (t_.2) h⟩
/-! ### impl_BestTurn: function 10 -/
mutual
def impl_BestTurn.j0 : Nat → List (S39) → Int → Int → Bool → Option (Int × Bool)
  | 0, _, _, _, _ => none
  | k + 1, x0, x1, x2, x23 => if x23 = true then (some (0, false)) else (impl_BestTurn.l0 k x0 x1 x2 0)
def impl_BestTurn.l0 : Nat → List (S39) → Int → Int → Int → Option (Int × Bool)
  | 0, _, _, _, _ => none
  | k + 1, x0, x1, x2, x8 => if x8 < 360 then ((impl_turnTune.f k x0 x1 x8).bind fun bt248 => ((impl_nearPins.f k bt248.1 x2).bind fun t252 => (if (t252.length : Int) = 0 then (some (x8, true)) else (impl_BestTurn.l0 k x0 x1 x2 (wrap64 (x8 + 1)))))) else (some (0, false))
end
def impl_BestTurn.f (k : Nat) (l0 : List (S39)) (a1 : Int) (a2 : Int) : Option (Int × Bool) := (impl_ArePins.f k l0).bind fun t245 => (if t245 = true then ((impl_isShift.f a1).bind fun t246 => (if t246 = true then ((impl_isGap.f a2).bind fun t247 => (impl_BestTurn.j0 k l0 a1 a2 (!t247))) else (impl_BestTurn.j0 k l0 a1 a2 true))) else (impl_BestTurn.j0 k l0 a1 a2 true))
instance impl_BestTurn.lp0 {k : Nat} {r : Int × Bool} {Q : Wr → Prop} {p0 : List (S39)} {p1 : Int} {p2 : Int} {x8_2 : Int} : Lp (impl_BestTurn.l0 k p0 p1 p2 x8_2 = some r) Q (fun k => ∀ {x8_2 : Int}, impl_BestTurn.l0 k p0 p1 p2 x8_2 = some r → Q [(16, .p (.c (.v (.int .i64 x8_2))))]) k [(16, .p (.c (.v (.int .i64 x8_2))))] := ⟨fun j h => j h⟩
set_option maxRecDepth 8000 in
set_option maxHeartbeats 2000000 in
theorem impl_BestTurn.con (k : Nat) (l0 : List (S39)) (a1 : Int) (a2 : Int) (r1 : Int) (r2 : Bool) (H : impl_BestTurn.f k l0 a1 a2 = some (r1, r2)) : Con Try.prog 10 [.p (.c (.sl K39 l0)), .p (.c (.v (.int .i64 a1))), .p (.c (.v (.int .i64 a2)))] (.tp [.c (.v (.int .i64 r1)), .c (.v (.bool r2))]) := by
  refine Con.mk' (fn := Try.f10) Try.func10 rfl (by kernel_rfl) rfl rfl rfl fun X w0 gs hF => ?_
  unfold impl_BestTurn.f at H
  exact auto
instance impl_BestTurn.ctr {k : Nat} {l0 : List (S39)} {a1 : Int} {a2 : Int} {t_ : (Int) × (Bool)} : Ctr (impl_BestTurn.f k l0 a1 a2 = some t_) (Con Try.prog 10 [.p (.c (.sl K39 l0)), .p (.c (.v (.int .i64 a1))), .p (.c (.v (.int .i64 a2)))] (.tp [.c (.v (.int .i64 t_.1)), .c (.v (.bool t_.2))])) := ⟨fun h => impl_BestTurn.con _ _ _ _ (t_.1) (t_.2) h⟩
/-! ### spec_cyTurn: function 37 -/
def spec_cyTurn.l0 : Nat → Int → Int → List (S39) → List (S39) → Int → Int → Option ((List (S39)))
  | 0, _, _, _, _, _, _ => none
  | k + 1, x1, x2, x7, x12, x13, x14 => if x14 < x13 then (if 0 ≤ x14 then (if x14 < (x12.length : Int) then (if ((rd_T39 x12 x14).f2) = x1 then (if x7.length < 5864062014805 then (spec_cyTurn.l0 k x1 x2 (x7 ++ [(⟨(rd_T39 x12 x14).f0, Int.tmod (wrap64 (((rd_T39 x12 x14).f1) + x2)) 360, (rd_T39 x12 x14).f2⟩ : S39)]) x12 x13 (wrap64 (x14 + 1))) else (none)) else (if x7.length < 5864062014805 then (spec_cyTurn.l0 k x1 x2 (x7 ++ [(⟨(rd_T39 x12 x14).f0, (rd_T39 x12 x14).f1, (rd_T39 x12 x14).f2⟩ : S39)]) x12 x13 (wrap64 (x14 + 1))) else (none))) else (none)) else (none)) else ((spec_cySorted.f k x7).bind fun bt264 => (some bt264.1))
def spec_cyTurn.f (k : Nat) (l0 : List (S39)) (a1 : Int) (a2 : Int) : Option ((List (S39))) := spec_cyTurn.l0 k a1 a2 ([] : List (S39)) l0 (l0.length : Int) 0
instance spec_cyTurn.lp0 {k : Nat} {r : (List (S39))} {Q : Wr → Prop} {p0 : Int} {p1 : Int} {p3 : List (S39)} {p4 : Int} {x7_1 : List (S39)} {x14_1 : Int} : Lp (spec_cyTurn.l0 k p0 p1 x7_1 p3 p4 x14_1 = some r) Q (fun k => ∀ {x7_1 : List (S39)} {x14_1 : Int}, spec_cyTurn.l0 k p0 p1 x7_1 p3 p4 x14_1 = some r → Q [(14, .p (.c (.rp (Try.f37.ntmps + 7)))), (2 * (Try.f37.ntmps + 7) + 1, .row 39 K39 x7_1), (28, .p (.c (.v (.int .i64 x14_1))))]) k [(14, .p (.c (.rp (Try.f37.ntmps + 7)))), (2 * (Try.f37.ntmps + 7) + 1, .row 39 K39 x7_1), (28, .p (.c (.v (.int .i64 x14_1))))] := ⟨fun j h => j h⟩
set_option maxRecDepth 8000 in
set_option maxHeartbeats 2000000 in
theorem spec_cyTurn.con (k : Nat) (l0 : List (S39)) (a1 : Int) (a2 : Int) (r : List (S39)) (H : spec_cyTurn.f k l0 a1 a2 = some r) : Con Try.prog 37 [.p (.c (.sl K39 l0)), .p (.c (.v (.int .i64 a1))), .p (.c (.v (.int .i64 a2)))] (.p (.c (.ow 39 K39 r))) := by
  refine Con.mk' (fn := Try.f37) Try.func37 rfl (by kernel_rfl) rfl rfl rfl fun X w0 gs hF => ?_
  unfold spec_cyTurn.f at H
  exact auto
instance spec_cyTurn.ctr {k : Nat} {l0 : List (S39)} {a1 : Int} {a2 : Int} {r : List (S39)} : Ctr (spec_cyTurn.f k l0 a1 a2 = some r) (Con Try.prog 37 [.p (.c (.sl K39 l0)), .p (.c (.v (.int .i64 a1))), .p (.c (.v (.int .i64 a2)))] (.p (.c (.ow 39 K39 r)))) := ⟨spec_cyTurn.con _ _ _ _ _⟩
/-! ### spec_BestTurn: function 11 -/
mutual
def spec_BestTurn.j0 : Nat → List (S39) → Int → Int → Bool → Option (Int × Bool)
  | 0, _, _, _, _ => none
  | k + 1, x0, x1, x2, x21 => if x21 = true then (some (0, false)) else (spec_BestTurn.l0 k x0 x1 x2 0)
def spec_BestTurn.l0 : Nat → List (S39) → Int → Int → Int → Option (Int × Bool)
  | 0, _, _, _, _ => none
  | k + 1, x0, x1, x2, x8 => if x8 < 360 then ((spec_cyTurn.f k x0 x1 x8).bind fun t271 => ((spec_cyPairs.f k t271 x2).bind fun t274 => (if (t274.length : Int) = 0 then (some (x8, true)) else (spec_BestTurn.l0 k x0 x1 x2 (wrap64 (x8 + 1)))))) else (some (0, false))
end
def spec_BestTurn.f (k : Nat) (l0 : List (S39)) (a1 : Int) (a2 : Int) : Option (Int × Bool) := (spec_cyGood.f k l0).bind fun t268 => (if t268 = true then ((spec_cyShift.f a1).bind fun t269 => (if t269 = true then ((spec_cyGap.f a2).bind fun t270 => (spec_BestTurn.j0 k l0 a1 a2 (!t270))) else (spec_BestTurn.j0 k l0 a1 a2 true))) else (spec_BestTurn.j0 k l0 a1 a2 true))
instance spec_BestTurn.lp0 {k : Nat} {r : Int × Bool} {Q : Wr → Prop} {p0 : List (S39)} {p1 : Int} {p2 : Int} {x8_2 : Int} : Lp (spec_BestTurn.l0 k p0 p1 p2 x8_2 = some r) Q (fun k => ∀ {x8_2 : Int}, spec_BestTurn.l0 k p0 p1 p2 x8_2 = some r → Q [(16, .p (.c (.v (.int .i64 x8_2))))]) k [(16, .p (.c (.v (.int .i64 x8_2))))] := ⟨fun j h => j h⟩
set_option maxRecDepth 8000 in
set_option maxHeartbeats 2000000 in
theorem spec_BestTurn.con (k : Nat) (l0 : List (S39)) (a1 : Int) (a2 : Int) (r1 : Int) (r2 : Bool) (H : spec_BestTurn.f k l0 a1 a2 = some (r1, r2)) : Con Try.prog 11 [.p (.c (.sl K39 l0)), .p (.c (.v (.int .i64 a1))), .p (.c (.v (.int .i64 a2)))] (.tp [.c (.v (.int .i64 r1)), .c (.v (.bool r2))]) := by
  refine Con.mk' (fn := Try.f11) Try.func11 rfl (by kernel_rfl) rfl rfl rfl fun X w0 gs hF => ?_
  unfold spec_BestTurn.f at H
  exact auto
instance spec_BestTurn.ctr {k : Nat} {l0 : List (S39)} {a1 : Int} {a2 : Int} {t_ : (Int) × (Bool)} : Ctr (spec_BestTurn.f k l0 a1 a2 = some t_) (Con Try.prog 11 [.p (.c (.sl K39 l0)), .p (.c (.v (.int .i64 a1))), .p (.c (.v (.int .i64 a2)))] (.tp [.c (.v (.int .i64 t_.1)), .c (.v (.bool t_.2))])) := ⟨fun h => spec_BestTurn.con _ _ _ _ (t_.1) (t_.2) h⟩
/-! ### impl_TurnTune: function 12 -/
def impl_TurnTune.f (k : Nat) (l0 : List (S39)) (a1 : Int) (a2 : Int) : Option ((List (S39)) × Bool) := (impl_ArePins.f k l0).bind fun t277 => (if t277 = true then ((impl_isShift.f a1).bind fun t278 => (if t278 = true then (if a2 < 0 then (some (([] : List (S39)), false)) else (if a2 ≥ 360 then (some (([] : List (S39)), false)) else ((impl_turnTune.f k l0 a1 a2).bind fun bt279 => (some (bt279.1, bt279.2))))) else (some (([] : List (S39)), false)))) else (some (([] : List (S39)), false)))
set_option maxRecDepth 8000 in
set_option maxHeartbeats 2000000 in
theorem impl_TurnTune.con (k : Nat) (l0 : List (S39)) (a1 : Int) (a2 : Int) (r1 : List (S39)) (r2 : Bool) (H : impl_TurnTune.f k l0 a1 a2 = some (r1, r2)) : Con Try.prog 12 [.p (.c (.sl K39 l0)), .p (.c (.v (.int .i64 a1))), .p (.c (.v (.int .i64 a2)))] (.tp [.c (.ow 39 K39 r1), .c (.v (.bool r2))]) := by
  refine Con.mk' (fn := Try.f12) Try.func12 rfl (by kernel_rfl) rfl rfl rfl fun X w0 gs hF => ?_
  unfold impl_TurnTune.f at H
  exact auto
instance impl_TurnTune.ctr {k : Nat} {l0 : List (S39)} {a1 : Int} {a2 : Int} {t_ : (List (S39)) × (Bool)} : Ctr (impl_TurnTune.f k l0 a1 a2 = some t_) (Con Try.prog 12 [.p (.c (.sl K39 l0)), .p (.c (.v (.int .i64 a1))), .p (.c (.v (.int .i64 a2)))] (.tp [.c (.ow 39 K39 t_.1), .c (.v (.bool t_.2))])) := ⟨fun h => impl_TurnTune.con _ _ _ _ (t_.1) (t_.2) h⟩
/-! ### impl_AddPin: function 16 -/
def impl_AddPin.j0 : Nat → List (S39) → Bool → Int → Int → Int → Option ((List (S39)) × Bool)
  | 0, _, _, _, _, _ => none
  | k + 1, x0, x13, x304000, x304001, x304002 => if x13 = true then (some (([] : List (S39)), false)) else ((impl_Pin.f x0).bind fun t306 => ((some (([(⟨x304000, x304001, x304002⟩ : S39)] : List (S39)) : List (S39))).bind fun y309 => (if t306.length + y309.length < 5864062014805 then ((impl_pinsOf.f k (t306 ++ y309)).bind fun bt315 => (some (bt315.1, bt315.2))) else (none))))
def impl_AddPin.f (k : Nat) (l0 : List (S39)) (a1_0 : Int) (a1_1 : Int) (a1_2 : Int) : Option ((List (S39)) × Bool) := (impl_ArePins.f k l0).bind fun t304 => (if t304 = true then ((impl_isPin.f a1_0 a1_1 a1_2).bind fun t305 => (impl_AddPin.j0 k l0 (!t305) a1_0 a1_1 a1_2)) else (impl_AddPin.j0 k l0 true a1_0 a1_1 a1_2))
set_option maxRecDepth 8000 in
set_option maxHeartbeats 2000000 in
theorem impl_AddPin.con (k : Nat) (l0 : List (S39)) (a1_0 : Int) (a1_1 : Int) (a1_2 : Int) (r1 : List (S39)) (r2 : Bool) (H : impl_AddPin.f k l0 a1_0 a1_1 a1_2 = some (r1, r2)) : Con Try.prog 16 [.p (.c (.sl K39 l0)), .p (.ag [.v (.int .i64 a1_0), .v (.int .i64 a1_1), .v (.int .i64 a1_2)])] (.tp [.c (.ow 39 K39 r1), .c (.v (.bool r2))]) := by
  refine Con.mk' (fn := Try.f16) Try.func16 rfl (by kernel_rfl) rfl rfl rfl fun X w0 gs hF => ?_
  unfold impl_AddPin.f at H
  exact auto
instance impl_AddPin.ctr {k : Nat} {l0 : List (S39)} {a1_0 : Int} {a1_1 : Int} {a1_2 : Int} {t_ : (List (S39)) × (Bool)} : Ctr (impl_AddPin.f k l0 a1_0 a1_1 a1_2 = some t_) (Con Try.prog 16 [.p (.c (.sl K39 l0)), .p (.ag [.v (.int .i64 a1_0), .v (.int .i64 a1_1), .v (.int .i64 a1_2)])] (.tp [.c (.ow 39 K39 t_.1), .c (.v (.bool t_.2))])) := ⟨fun h => impl_AddPin.con _ _ _ _ _ (t_.1) (t_.2) h⟩
/-! ### spec_AddPin: function 17 -/
def spec_AddPin.f (k : Nat) (l0 : List (S39)) (a1_0 : Int) (a1_1 : Int) (a1_2 : Int) : Option ((List (S39)) × Bool) := (spec_cyGood.f k l0).bind fun t320 => (if t320 = true then ((spec_cyPin.f a1_0 a1_1 a1_2).bind fun t321 => (if t321 = true then ((some (([] : List (S39)) : List (S39))).bind fun y322 => (if y322.length + l0.length < 5864062014805 then ((some (y322 ++ l0 : List (S39))).bind fun y325 => ((some (([(⟨a1_0, a1_1, a1_2⟩ : S39)] : List (S39)) : List (S39))).bind fun y328 => (if y325.length + y328.length < 5864062014805 then ((spec_cySorted.f k (y325 ++ y328)).bind fun bt334 => (some (bt334.1, bt334.2))) else (none)))) else (none))) else (some (([] : List (S39)), false)))) else (some (([] : List (S39)), false)))
set_option maxRecDepth 8000 in
set_option maxHeartbeats 2000000 in
theorem spec_AddPin.con (k : Nat) (l0 : List (S39)) (a1_0 : Int) (a1_1 : Int) (a1_2 : Int) (r1 : List (S39)) (r2 : Bool) (H : spec_AddPin.f k l0 a1_0 a1_1 a1_2 = some (r1, r2)) : Con Try.prog 17 [.p (.c (.sl K39 l0)), .p (.ag [.v (.int .i64 a1_0), .v (.int .i64 a1_1), .v (.int .i64 a1_2)])] (.tp [.c (.ow 39 K39 r1), .c (.v (.bool r2))]) := by
  refine Con.mk' (fn := Try.f17) Try.func17 rfl (by kernel_rfl) rfl rfl rfl fun X w0 gs hF => ?_
  unfold spec_AddPin.f at H
  exact auto
instance spec_AddPin.ctr {k : Nat} {l0 : List (S39)} {a1_0 : Int} {a1_1 : Int} {a1_2 : Int} {t_ : (List (S39)) × (Bool)} : Ctr (spec_AddPin.f k l0 a1_0 a1_1 a1_2 = some t_) (Con Try.prog 17 [.p (.c (.sl K39 l0)), .p (.ag [.v (.int .i64 a1_0), .v (.int .i64 a1_1), .v (.int .i64 a1_2)])] (.tp [.c (.ow 39 K39 t_.1), .c (.v (.bool t_.2))])) := ⟨fun h => spec_AddPin.con _ _ _ _ _ (t_.1) (t_.2) h⟩
end Go.Proofs.Ythgemodkebahoaa.A
