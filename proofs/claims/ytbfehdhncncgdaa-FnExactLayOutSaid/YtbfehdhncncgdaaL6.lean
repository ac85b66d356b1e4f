/- BY EV: what the Go functions compute (read off the print), and that their calls come to it. No condition. -/
import Derived.Test.YtbfehdhncncgdaaLEU
set_option linter.unusedVariables false
set_option linter.unusedSimpArgs false
namespace Go.Proofs.Ytbfehdhncncgdaa.L
open Go.RowKit Go.Proofs Go.Proofs.YtbfehdhncncgdaaW.PrintWords Go.Proofs.YtbfehdhncncgdaaW.PrintLast EV
/-! ### laws_markHoleS: function 18 -/
def laws_markHoleS.l0 : Nat → List (S64) → Int → Int → Option (Int × (List (S64)))
  | 0, _, _, _ => none
  | k + 1, x0, x1, x5 => if x5 < (x0.length : Int) then (if 0 ≤ x5 then ((some (x0.set (x5 : Int).toNat (⟨x1, (rd_T64 x0 x5).f1, (rd_T64 x0 x5).f2⟩ : S64) : List (S64))).bind fun y383 => ((some (y383.set (x5 : Int).toNat (⟨(rd_T64 y383 x5).f0, wrap64 (x1 + 1), (rd_T64 y383 x5).f2⟩ : S64) : List (S64))).bind fun y384 => (laws_markHoleS.l0 k (y384.set (x5 : Int).toNat (⟨(rd_T64 y384 x5).f0, (rd_T64 y384 x5).f1, wrap64 ((wrap64 (x1 + 1)) + 1)⟩ : S64)) (wrap64 ((wrap64 ((wrap64 (x1 + 1)) + 1)) + 1)) (wrap64 (x5 + 1))))) else (none)) else (some (x1, x0))
def laws_markHoleS.f (k : Nat) (l0 : List (S64)) (a1 : Int) : Option (Int × (List (S64))) := laws_markHoleS.l0 k l0 a1 0
instance laws_markHoleS.lp0 {k : Nat} {r : Int × (List (S64))} {Q : Wr → Prop}  {x0_1 : List (S64)} {x1_1 : Int} {x5_1 : Int} : Lp (laws_markHoleS.l0 k x0_1 x1_1 x5_1 = some r) Q (fun k => ∀ {x0_1 : List (S64)} {x1_1 : Int} {x5_1 : Int}, laws_markHoleS.l0 k x0_1 x1_1 x5_1 = some r → Q [(0, .p (.c (.rp (2 * Try.f18.ntmps + 0)))), (2 * (2 * Try.f18.ntmps + 0) + 1, .row 64 K64 x0_1), (2, .p (.c (.v (.int .i64 x1_1)))), (10, .p (.c (.v (.int .i64 x5_1))))]) k [(0, .p (.c (.rp (2 * Try.f18.ntmps + 0)))), (2 * (2 * Try.f18.ntmps + 0) + 1, .row 64 K64 x0_1), (2, .p (.c (.v (.int .i64 x1_1)))), (10, .p (.c (.v (.int .i64 x5_1))))] := ⟨fun j h => j h⟩
set_option maxRecDepth 8000 in
set_option maxHeartbeats 2000000 in
theorem laws_markHoleS.con (k : Nat) (l0 : List (S64)) (a1 : Int) (r1 : Int) (r2 : List (S64)) (H : laws_markHoleS.f k l0 a1 = some (r1, r2)) : Con Try.prog 18 [.p (.c (.ow 64 K64 l0)), .p (.c (.v (.int .i64 a1)))] (.p (.c (.v (.int .i64 r1)))) [(0, .c (.ow 64 K64 r2))] := by
  refine Con.mk' (fn := Try.f18) Try.func18 rfl (by kernel_rfl) rfl rfl rfl fun X w0 gs hF => ?_
  unfold laws_markHoleS.f at H
  exact auto
instance laws_markHoleS.ctr {k : Nat} {l0 : List (S64)} {a1 : Int} {t_ : (Int) × (List (S64))} : Ctr (laws_markHoleS.f k l0 a1 = some t_) (Con Try.prog 18 [.p (.c (.ow 64 K64 l0)), .p (.c (.v (.int .i64 a1)))] (.p (.c (.v (.int .i64 t_.1)))) [(0, .c (.ow 64 K64 t_.2))]) := ⟨fun h => laws_markHoleS.con _ _ _ (t_.1) (t_.2) h⟩
/-! ### laws_heldHoleS: function 19 -/
def laws_heldHoleS.l0 : Nat → List (S64) → Int → Int → Option (Int)
  | 0, _, _, _ => none
  | k + 1, x0, x1, x5 => if x5 < (x0.length : Int) then (if 0 ≤ x5 then (if ((rd_T64 x0 x5).f0) = x1 then (if ((rd_T64 x0 x5).f1) = (wrap64 (x1 + 1)) then (if ((rd_T64 x0 x5).f2) = (wrap64 ((wrap64 (x1 + 1)) + 1)) then (laws_heldHoleS.l0 k x0 (wrap64 ((wrap64 ((wrap64 (x1 + 1)) + 1)) + 1)) (wrap64 (x5 + 1))) else (some (-1))) else (some (-1))) else (some (-1))) else (none)) else (some x1)
def laws_heldHoleS.f (k : Nat) (l0 : List (S64)) (a1 : Int) : Option (Int) := laws_heldHoleS.l0 k l0 a1 0
instance laws_heldHoleS.lp0 {k : Nat} {r : Int} {Q : Wr → Prop} {p0 : List (S64)} {x1_1 : Int} {x5_1 : Int} : Lp (laws_heldHoleS.l0 k p0 x1_1 x5_1 = some r) Q (fun k => ∀ {x1_1 : Int} {x5_1 : Int}, laws_heldHoleS.l0 k p0 x1_1 x5_1 = some r → Q [(2, .p (.c (.v (.int .i64 x1_1)))), (10, .p (.c (.v (.int .i64 x5_1))))]) k [(2, .p (.c (.v (.int .i64 x1_1)))), (10, .p (.c (.v (.int .i64 x5_1))))] := ⟨fun j h => j h⟩
set_option maxRecDepth 8000 in
set_option maxHeartbeats 2000000 in
theorem laws_heldHoleS.con (k : Nat) (l0 : List (S64)) (a1 : Int) (r : Int) (H : laws_heldHoleS.f k l0 a1 = some r) : Con Try.prog 19 [.p (.c (.sl K64 l0)), .p (.c (.v (.int .i64 a1)))] (.p (.c (.v (.int .i64 r)))) := by
  refine Con.mk' (fn := Try.f19) Try.func19 rfl (by kernel_rfl) rfl rfl rfl fun X w0 gs hF => ?_
  unfold laws_heldHoleS.f at H
  exact auto
instance laws_heldHoleS.ctr {k : Nat} {l0 : List (S64)} {a1 : Int} {r : Int} : Ctr (laws_heldHoleS.f k l0 a1 = some r) (Con Try.prog 19 [.p (.c (.sl K64 l0)), .p (.c (.v (.int .i64 a1)))] (.p (.c (.v (.int .i64 r))))) := ⟨laws_heldHoleS.con _ _ _ _⟩
end Go.Proofs.Ytbfehdhncncgdaa.L
