/- BY EV: what the Go functions compute (read off the print), and that their calls come to it. No condition. -/
import Derived.Test.YtlhhjdlaljmppaaTEU
import Derived.Test.YtlhhjdlaljmppaaT4
import Derived.Test.YtlhhjdlaljmppaaT5
import Derived.Test.YtlhhjdlaljmppaaT6
set_option linter.unusedVariables false
set_option linter.unusedSimpArgs false
namespace Go.Proofs.Ytlhhjdlaljmppaa.T
open Go.RowKit Go.Proofs Go.Proofs.YtlhhjdlaljmppaaW.PrintWords Go.Proofs.YtlhhjdlaljmppaaW.PrintLast EV
/-! ### spec_trBy: function 33 -/
def spec_trBy.f (a0 : Int) : Option (Bool) := (spec_l1In.f a0 (-24) 24).bind fun t432 => (some t432)
set_option maxRecDepth 8000 in
set_option maxHeartbeats 2000000 in
theorem spec_trBy.con (a0 : Int) (r : Bool) (H : spec_trBy.f a0 = some r) : Con Try.prog 33 [.p (.c (.v (.int .i64 a0)))] (.p (.c (.v (.bool r)))) := by
  refine Con.mk' (fn := Try.f33) Try.func33 rfl (by kernel_rfl) rfl rfl rfl fun X w0 gs hF => ?_
  unfold spec_trBy.f at H
  exact auto
instance spec_trBy.ctr {a0 : Int} {r : Bool} : Ctr (spec_trBy.f a0 = some r) (Con Try.prog 33 [.p (.c (.v (.int .i64 a0)))] (.p (.c (.v (.bool r))))) := ⟨spec_trBy.con _ _⟩
/-! ### spec_TransposeLoss: function 16 -/
def spec_TransposeLoss.f (k : Nat) (l0_0 : List Int) (a0_1 : Int) (l1 : List (S60)) (a2 : Int) : Option (Int × Bool) := (spec_inAsked.f k l0_0 a0_1 l1).bind fun t434 => (if t434 = true then ((spec_trBy.f a2).bind fun t435 => (if t435 = true then ((spec_trLoss.f k l0_0 a0_1 l1 a2).bind fun t436 => (some (t436, true))) else (some (0, false)))) else (some (0, false)))
set_option maxRecDepth 8000 in
set_option maxHeartbeats 2000000 in
theorem spec_TransposeLoss.con (k : Nat) (l0_0 : List Int) (a0_1 : Int) (l1 : List (S60)) (a2 : Int) (r1 : Int) (r2 : Bool) (H : spec_TransposeLoss.f k l0_0 a0_1 l1 a2 = some (r1, r2)) : Con Try.prog 16 [.p (.ag [.sl (.int .i64) l0_0, .v (.int .i64 a0_1)]), .p (.c (.sl K60 l1)), .p (.c (.v (.int .i64 a2)))] (.tp [.c (.v (.int .i64 r1)), .c (.v (.bool r2))]) := by
  refine Con.mk' (fn := Try.f16) Try.func16 rfl (by kernel_rfl) rfl rfl rfl fun X w0 gs hF => ?_
  unfold spec_TransposeLoss.f at H
  exact auto
instance spec_TransposeLoss.ctr {k : Nat} {l0_0 : List Int} {a0_1 : Int} {l1 : List (S60)} {a2 : Int} {t_ : (Int) × (Bool)} : Ctr (spec_TransposeLoss.f k l0_0 a0_1 l1 a2 = some t_) (Con Try.prog 16 [.p (.ag [.sl (.int .i64) l0_0, .v (.int .i64 a0_1)]), .p (.c (.sl K60 l1)), .p (.c (.v (.int .i64 a2)))] (.tp [.c (.v (.int .i64 t_.1)), .c (.v (.bool t_.2))])) := ⟨fun h => spec_TransposeLoss.con _ _ _ _ _ (t_.1) (t_.2) h⟩
/-! ### impl_scoreOf: function 35 -/
def impl_scoreOf.f (k : Nat) (l0 : List (S60)) : Option ((List (S60)) × Bool) := (impl_IsScore.f k l0).bind fun t437 => (if t437 = true then (some (l0, true)) else (some (([] : List (S60)), false)))
set_option maxRecDepth 8000 in
set_option maxHeartbeats 2000000 in
theorem impl_scoreOf.con (k : Nat) (l0 : List (S60)) (r1 : List (S60)) (r2 : Bool) (H : impl_scoreOf.f k l0 = some (r1, r2)) : Con Try.prog 35 [.p (.c (.ow 60 K60 l0))] (.tp [.c (.ow 60 K60 r1), .c (.v (.bool r2))]) := by
  refine Con.mk' (fn := Try.f35) Try.func35 rfl (by kernel_rfl) rfl rfl rfl fun X w0 gs hF => ?_
  unfold impl_scoreOf.f at H
  exact auto
instance impl_scoreOf.ctr {k : Nat} {l0 : List (S60)} {t_ : (List (S60)) × (Bool)} : Ctr (impl_scoreOf.f k l0 = some t_) (Con Try.prog 35 [.p (.c (.ow 60 K60 l0))] (.tp [.c (.ow 60 K60 t_.1), .c (.v (.bool t_.2))])) := ⟨fun h => impl_scoreOf.con _ _ (t_.1) (t_.2) h⟩
/-! ### spec_TransposeScore: function 18 -/
def spec_TransposeScore.f (k : Nat) (l0 : List (S60)) (a1 : Int) : Option ((List (S60)) × Bool) := (spec_ntGood.f k l0).bind fun t448 => (if t448 = true then ((spec_l1In.f a1 (-72) 72).bind fun t449 => (if t449 = true then ((spec_ntChanged.f k l0 a1 0).bind fun bt450 => (some (bt450.1, bt450.2))) else (some (([] : List (S60)), false)))) else (some (([] : List (S60)), false)))
set_option maxRecDepth 8000 in
set_option maxHeartbeats 2000000 in
theorem spec_TransposeScore.con (k : Nat) (l0 : List (S60)) (a1 : Int) (r1 : List (S60)) (r2 : Bool) (H : spec_TransposeScore.f k l0 a1 = some (r1, r2)) : Con Try.prog 18 [.p (.c (.sl K60 l0)), .p (.c (.v (.int .i64 a1)))] (.tp [.c (.ow 60 K60 r1), .c (.v (.bool r2))]) := by
  refine Con.mk' (fn := Try.f18) Try.func18 rfl (by kernel_rfl) rfl rfl rfl fun X w0 gs hF => ?_
  unfold spec_TransposeScore.f at H
  exact auto
instance spec_TransposeScore.ctr {k : Nat} {l0 : List (S60)} {a1 : Int} {t_ : (List (S60)) × (Bool)} : Ctr (spec_TransposeScore.f k l0 a1 = some t_) (Con Try.prog 18 [.p (.c (.sl K60 l0)), .p (.c (.v (.int .i64 a1)))] (.tp [.c (.ow 60 K60 t_.1), .c (.v (.bool t_.2))])) := ⟨fun h => spec_TransposeScore.con _ _ _ (t_.1) (t_.2) h⟩
end Go.Proofs.Ytlhhjdlaljmppaa.T
