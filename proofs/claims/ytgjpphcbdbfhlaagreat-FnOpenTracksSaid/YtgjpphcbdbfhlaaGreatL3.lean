/- BY EV: what the Go functions compute (read off the print), and that their calls come to it. No condition. -/
import Derived.Test.YtgjpphcbdbfhlaaGreatLEU
import Derived.Test.YtgjpphcbdbfhlaaGreatL2
set_option linter.unusedVariables false
set_option linter.unusedSimpArgs false
namespace Go.Proofs.YtgjpphcbdbfhlaaGreat.L
open Go.RowKit Go.Proofs Go.Proofs.YtgjpphcbdbfhlaaGreatW.PrintWords Go.Proofs.YtgjpphcbdbfhlaaGreatW.PrintLast EV
/-! ### impl_IsScore: function 43 -/
mutual
def impl_IsScore.l0 : Nat → List (S36) → List (S36) → Int → Int → Option (Bool)
  | 0, _, _, _, _ => none
  | k + 1, x0, x10, x11, x12 => if x12 < x11 then (if 0 ≤ x12 then (if x12 < (x10.length : Int) then ((impl_IsNote.f ((rd_T36 x10 x12).f0) ((rd_T36 x10 x12).f1) ((rd_T36 x10 x12).f2)).bind fun t238 => (if t238 = true then (if x12 > 0 then (if 0 ≤ (wrap64 (x12 - 1)) then (if (wrap64 (x12 - 1)) < (x0.length : Int) then ((impl_noteLess.f ((rd_T36 x0 (wrap64 (x12 - 1))).f0) ((rd_T36 x0 (wrap64 (x12 - 1))).f1) ((rd_T36 x0 (wrap64 (x12 - 1))).f2) ((rd_T36 x10 x12).f0) ((rd_T36 x10 x12).f1) ((rd_T36 x10 x12).f2)).bind fun t240 => (impl_IsScore.j1 k x0 x12 x10 x11 x12 (!t240) ((rd_T36 x10 x12).f0) ((rd_T36 x10 x12).f1) ((rd_T36 x10 x12).f2))) else (none)) else (none)) else (impl_IsScore.j1 k x0 x12 x10 x11 x12 false ((rd_T36 x10 x12).f0) ((rd_T36 x10 x12).f1) ((rd_T36 x10 x12).f2))) else (impl_IsScore.j1 k x0 x12 x10 x11 x12 true ((rd_T36 x10 x12).f0) ((rd_T36 x10 x12).f1) ((rd_T36 x10 x12).f2)))) else (none)) else (none)) else (some true)
def impl_IsScore.j1 : Nat → List (S36) → Int → List (S36) → Int → Int → Bool → Int → Int → Int → Option (Bool)
  | 0, _, _, _, _, _, _, _, _, _ => none
  | k + 1, x0, x3, x10, x11, x12, x33, x238000, x238001, x238002 => if x33 = true then (some false) else (if 0 ≤ x3 then (if x3 ≤ (x0.length : Int) then ((some (x0.take (x3 : Int).toNat : List (S36))).bind fun y241 => (impl_IsScore.l1 k x0 x10 x11 x12 y241 (y241.length : Int) 0 x238000 x238001 x238002)) else (none)) else (none))
def impl_IsScore.l1 : Nat → List (S36) → List (S36) → Int → Int → List (S36) → Int → Int → Int → Int → Int → Option (Bool)
  | 0, _, _, _, _, _, _, _, _, _, _ => none
  | k + 1, x0, x10, x11, x12, x36, x37, x38, x238000, x238001, x238002 => if x38 < x37 then (if 0 ≤ x38 then (if x38 < (x36.length : Int) then (if ((rd_T36 x36 x38).f0) = x238000 then ((impl_noteEnd.f ((rd_T36 x36 x38).f0) ((rd_T36 x36 x38).f1) ((rd_T36 x36 x38).f2)).bind fun t247 => (if t247 > x238001 then (some false) else (impl_IsScore.l1 k x0 x10 x11 x12 x36 x37 (wrap64 (x38 + 1)) x238000 x238001 x238002))) else (impl_IsScore.l1 k x0 x10 x11 x12 x36 x37 (wrap64 (x38 + 1)) x238000 x238001 x238002)) else (none)) else (none)) else (impl_IsScore.l0 k x0 x10 x11 (wrap64 (x12 + 1)))
end
def impl_IsScore.f (k : Nat) (l0 : List (S36)) : Option (Bool) := if (l0.length : Int) > 30 then (some false) else (impl_IsScore.l0 k l0 l0 (l0.length : Int) 0)
instance impl_IsScore.lp0 {k : Nat} {r : Bool} {Q : Wr → Prop} {p0 : List (S36)} {p1 : List (S36)} {p2 : Int} {x12_1 : Int} : Lp (impl_IsScore.l0 k p0 p1 p2 x12_1 = some r) Q (fun k => ∀ {x12_1 : Int}, impl_IsScore.l0 k p0 p1 p2 x12_1 = some r → Q [(24, .p (.c (.v (.int .i64 x12_1))))]) k [(24, .p (.c (.v (.int .i64 x12_1))))] := ⟨fun j h => j h⟩
instance impl_IsScore.lp1 {k : Nat} {r : Bool} {Q : Wr → Prop} {p0 : List (S36)} {p1 : List (S36)} {p2 : Int} {p3 : Int} {p4 : List (S36)} {p5 : Int} {p7 : Int} {p8 : Int} {p9 : Int} {x38_3 : Int} : Lp (impl_IsScore.l1 k p0 p1 p2 p3 p4 p5 x38_3 p7 p8 p9 = some r) Q (fun k => ∀ {x38_3 : Int}, impl_IsScore.l1 k p0 p1 p2 p3 p4 p5 x38_3 p7 p8 p9 = some r → Q [(76, .p (.c (.v (.int .i64 x38_3))))]) k [(76, .p (.c (.v (.int .i64 x38_3))))] := ⟨fun j h => j h⟩
set_option maxRecDepth 20000 in
set_option maxHeartbeats 2000000 in
theorem impl_IsScore.con (k : Nat) (l0 : List (S36)) (r : Bool) (H : impl_IsScore.f k l0 = some r) : Con Tryz.prog 43 [.p (.c (.sl K36 l0))] (.p (.c (.v (.bool r)))) := by
  refine Con.mk' (fn := Tryz.f43) Tryz.func43 rfl (by kernel_rfl) rfl rfl rfl fun X w0 gs hF => ?_
  unfold impl_IsScore.f at H
  exact auto
instance impl_IsScore.ctr {k : Nat} {l0 : List (S36)} {r : Bool} : Ctr (impl_IsScore.f k l0 = some r) (Con Tryz.prog 43 [.p (.c (.sl K36 l0))] (.p (.c (.v (.bool r))))) := ⟨impl_IsScore.con _ _ _⟩
theorem impl_IsScore.calls (k : Nat) (A0 : Option Addr) (c0 : Nat) (l0 : List (S36)) (r : Bool) (w : World) (hr0 : Kd.C k36 w A0 l0.length l0) (hc0 : l0.length ≤ c0) (h : impl_IsScore.f k l0 = some r) :
    Calls Tryz.prog 43 #[.slice A0 l0.length c0] w fun e w' => e = .returned (.bool r) ∧ Below w.heap.size w w' :=
  (impl_IsScore.con k l0 r h).val rfl (show Args.relg (fun _ => False) w _ [.slice A0 l0.length c0] [.slice A0 l0.length c0] from ⟨_, _, rfl, ⟨rfl, A0, c0, rfl, hc0, row_of_C rfl (fun _ h => h) hr0⟩, rfl⟩)
/-! ### spec_l1In: function 52 -/
def spec_l1In.f (a0 : Int) (a1 : Int) (a2 : Int) : Option (Bool) := if a0 ≥ a1 then (some (decide (a0 ≤ a2))) else (some false)
set_option maxRecDepth 20000 in
set_option maxHeartbeats 2000000 in
theorem spec_l1In.con (a0 : Int) (a1 : Int) (a2 : Int) (r : Bool) (H : spec_l1In.f a0 a1 a2 = some r) : Con Tryz.prog 52 [.p (.c (.v (.int .i64 a0))), .p (.c (.v (.int .i64 a1))), .p (.c (.v (.int .i64 a2)))] (.p (.c (.v (.bool r)))) := by
  refine Con.mk' (fn := Tryz.f52) Tryz.func52 rfl (by kernel_rfl) rfl rfl rfl fun X w0 gs hF => ?_
  unfold spec_l1In.f at H
  exact auto
instance spec_l1In.ctr {a0 : Int} {a1 : Int} {a2 : Int} {r : Bool} : Ctr (spec_l1In.f a0 a1 a2 = some r) (Con Tryz.prog 52 [.p (.c (.v (.int .i64 a0))), .p (.c (.v (.int .i64 a1))), .p (.c (.v (.int .i64 a2)))] (.p (.c (.v (.bool r))))) := ⟨spec_l1In.con _ _ _ _⟩
/-! ### spec_ntPitch: function 96 -/
def spec_ntPitch.f (a0 : Int) : Option (Bool) := (spec_l1In.f a0 24 96).bind fun t248 => (some t248)
set_option maxRecDepth 20000 in
set_option maxHeartbeats 2000000 in
theorem spec_ntPitch.con (a0 : Int) (r : Bool) (H : spec_ntPitch.f a0 = some r) : Con Tryz.prog 96 [.p (.c (.v (.int .i64 a0)))] (.p (.c (.v (.bool r)))) := by
  refine Con.mk' (fn := Tryz.f96) Tryz.func96 rfl (by kernel_rfl) rfl rfl rfl fun X w0 gs hF => ?_
  unfold spec_ntPitch.f at H
  exact auto
instance spec_ntPitch.ctr {a0 : Int} {r : Bool} : Ctr (spec_ntPitch.f a0 = some r) (Con Tryz.prog 96 [.p (.c (.v (.int .i64 a0)))] (.p (.c (.v (.bool r))))) := ⟨spec_ntPitch.con _ _⟩
/-! ### spec_ntNote: function 58 -/
def spec_ntNote.f (a0_0 : Int) (a0_1 : Int) (a0_2 : Int) : Option (Bool) := (spec_ntPitch.f a0_0).bind fun t250 => (if t250 = true then ((spec_l1In.f a0_1 0 999).bind fun t251 => (if t251 = true then ((spec_l1In.f a0_2 1 99).bind fun t252 => (some t252)) else (some false))) else (some false))
set_option maxRecDepth 20000 in
set_option maxHeartbeats 2000000 in
theorem spec_ntNote.con (a0_0 : Int) (a0_1 : Int) (a0_2 : Int) (r : Bool) (H : spec_ntNote.f a0_0 a0_1 a0_2 = some r) : Con Tryz.prog 58 [.p (.ag [.v (.int .i64 a0_0), .v (.int .i64 a0_1), .v (.int .i64 a0_2)])] (.p (.c (.v (.bool r)))) := by
  refine Con.mk' (fn := Tryz.f58) Tryz.func58 rfl (by kernel_rfl) rfl rfl rfl fun X w0 gs hF => ?_
  unfold spec_ntNote.f at H
  exact auto
instance spec_ntNote.ctr {a0_0 : Int} {a0_1 : Int} {a0_2 : Int} {r : Bool} : Ctr (spec_ntNote.f a0_0 a0_1 a0_2 = some r) (Con Tryz.prog 58 [.p (.ag [.v (.int .i64 a0_0), .v (.int .i64 a0_1), .v (.int .i64 a0_2)])] (.p (.c (.v (.bool r))))) := ⟨spec_ntNote.con _ _ _ _⟩
/-! ### spec_ntBefore: function 89 -/
def spec_ntBefore.f (a0_0 : Int) (a0_1 : Int) (a0_2 : Int) (a1_0 : Int) (a1_1 : Int) (a1_2 : Int) : Option (Bool) := if a0_1 < a1_1 then (some true) else (if a0_1 = a1_1 then (some (decide (a0_0 < a1_0))) else (some false))
set_option maxRecDepth 20000 in
set_option maxHeartbeats 2000000 in
theorem spec_ntBefore.con (a0_0 : Int) (a0_1 : Int) (a0_2 : Int) (a1_0 : Int) (a1_1 : Int) (a1_2 : Int) (r : Bool) (H : spec_ntBefore.f a0_0 a0_1 a0_2 a1_0 a1_1 a1_2 = some r) : Con Tryz.prog 89 [.p (.ag [.v (.int .i64 a0_0), .v (.int .i64 a0_1), .v (.int .i64 a0_2)]), .p (.ag [.v (.int .i64 a1_0), .v (.int .i64 a1_1), .v (.int .i64 a1_2)])] (.p (.c (.v (.bool r)))) := by
  refine Con.mk' (fn := Tryz.f89) Tryz.func89 rfl (by kernel_rfl) rfl rfl rfl fun X w0 gs hF => ?_
  unfold spec_ntBefore.f at H
  exact auto
instance spec_ntBefore.ctr {a0_0 : Int} {a0_1 : Int} {a0_2 : Int} {a1_0 : Int} {a1_1 : Int} {a1_2 : Int} {r : Bool} : Ctr (spec_ntBefore.f a0_0 a0_1 a0_2 a1_0 a1_1 a1_2 = some r) (Con Tryz.prog 89 [.p (.ag [.v (.int .i64 a0_0), .v (.int .i64 a0_1), .v (.int .i64 a0_2)]), .p (.ag [.v (.int .i64 a1_0), .v (.int .i64 a1_1), .v (.int .i64 a1_2)])] (.p (.c (.v (.bool r))))) := ⟨spec_ntBefore.con _ _ _ _ _ _ _⟩
theorem spec_ntBefore.calls (a0_0 : Int) (a0_1 : Int) (a0_2 : Int) (a1_0 : Int) (a1_1 : Int) (a1_2 : Int) (r : Bool) (w : World) (h : spec_ntBefore.f a0_0 a0_1 a0_2 a1_0 a1_1 a1_2 = some r) :
    Calls Tryz.prog 89 #[.agg #[.int .i64 a0_0, .int .i64 a0_1, .int .i64 a0_2], .agg #[.int .i64 a1_0, .int .i64 a1_1, .int .i64 a1_2]] w fun e w' => e = .returned (.bool r) ∧ Below w.heap.size w w' :=
  (spec_ntBefore.con a0_0 a0_1 a0_2 a1_0 a1_1 a1_2 r h).val rfl (show Args.relg (fun _ => False) w _ [.agg #[.int .i64 a0_0, .int .i64 a0_1, .int .i64 a0_2], .agg #[.int .i64 a1_0, .int .i64 a1_1, .int .i64 a1_2]] [.int .i64 a0_0, .int .i64 a0_1, .int .i64 a0_2, .int .i64 a1_0, .int .i64 a1_1, .int .i64 a1_2] from ⟨_, _, rfl, ⟨rfl, rfl, rfl, ⟨rfl, rfl, ⟨rfl, rfl, trivial⟩⟩⟩, ⟨_, _, rfl, ⟨rfl, rfl, rfl, ⟨rfl, rfl, ⟨rfl, rfl, trivial⟩⟩⟩, rfl⟩⟩)
/-! ### spec_ntMeet: function 90 -/
def spec_ntMeet.f (a0_0 : Int) (a0_1 : Int) (a0_2 : Int) (a1_0 : Int) (a1_1 : Int) (a1_2 : Int) : Option (Bool) := if a0_0 = a1_0 then (if a0_1 < (wrap64 (a1_1 + a1_2)) then (some (decide (a1_1 < (wrap64 (a0_1 + a0_2))))) else (some false)) else (some false)
set_option maxRecDepth 20000 in
set_option maxHeartbeats 2000000 in
theorem spec_ntMeet.con (a0_0 : Int) (a0_1 : Int) (a0_2 : Int) (a1_0 : Int) (a1_1 : Int) (a1_2 : Int) (r : Bool) (H : spec_ntMeet.f a0_0 a0_1 a0_2 a1_0 a1_1 a1_2 = some r) : Con Tryz.prog 90 [.p (.ag [.v (.int .i64 a0_0), .v (.int .i64 a0_1), .v (.int .i64 a0_2)]), .p (.ag [.v (.int .i64 a1_0), .v (.int .i64 a1_1), .v (.int .i64 a1_2)])] (.p (.c (.v (.bool r)))) := by
  refine Con.mk' (fn := Tryz.f90) Tryz.func90 rfl (by kernel_rfl) rfl rfl rfl fun X w0 gs hF => ?_
  unfold spec_ntMeet.f at H
  exact auto
instance spec_ntMeet.ctr {a0_0 : Int} {a0_1 : Int} {a0_2 : Int} {a1_0 : Int} {a1_1 : Int} {a1_2 : Int} {r : Bool} : Ctr (spec_ntMeet.f a0_0 a0_1 a0_2 a1_0 a1_1 a1_2 = some r) (Con Tryz.prog 90 [.p (.ag [.v (.int .i64 a0_0), .v (.int .i64 a0_1), .v (.int .i64 a0_2)]), .p (.ag [.v (.int .i64 a1_0), .v (.int .i64 a1_1), .v (.int .i64 a1_2)])] (.p (.c (.v (.bool r))))) := ⟨spec_ntMeet.con _ _ _ _ _ _ _⟩
/-! ### spec_ntGood: function 48 -/
mutual
def spec_ntGood.l0 : Nat → List (S36) → List (S36) → Int → Int → Option (Bool)
  | 0, _, _, _, _ => none
  | k + 1, x0, x7, x8, x9 => if x9 < x8 then (if 0 ≤ x9 then (if x9 < (x7.length : Int) then ((spec_ntNote.f ((rd_T36 x7 x9).f0) ((rd_T36 x7 x9).f1) ((rd_T36 x7 x9).f2)).bind fun t259 => (if t259 = true then (if x9 > 0 then (if 0 ≤ (wrap64 (x9 - 1)) then (if (wrap64 (x9 - 1)) < (x0.length : Int) then ((spec_ntBefore.f ((rd_T36 x0 (wrap64 (x9 - 1))).f0) ((rd_T36 x0 (wrap64 (x9 - 1))).f1) ((rd_T36 x0 (wrap64 (x9 - 1))).f2) ((rd_T36 x7 x9).f0) ((rd_T36 x7 x9).f1) ((rd_T36 x7 x9).f2)).bind fun t261 => (spec_ntGood.j1 k x0 x9 x7 x8 x9 (!t261) ((rd_T36 x7 x9).f0) ((rd_T36 x7 x9).f1) ((rd_T36 x7 x9).f2))) else (none)) else (none)) else (spec_ntGood.j1 k x0 x9 x7 x8 x9 false ((rd_T36 x7 x9).f0) ((rd_T36 x7 x9).f1) ((rd_T36 x7 x9).f2))) else (spec_ntGood.j1 k x0 x9 x7 x8 x9 true ((rd_T36 x7 x9).f0) ((rd_T36 x7 x9).f1) ((rd_T36 x7 x9).f2)))) else (none)) else (none)) else (some (decide ((x0.length : Int) ≤ 30)))
def spec_ntGood.j1 : Nat → List (S36) → Int → List (S36) → Int → Int → Bool → Int → Int → Int → Option (Bool)
  | 0, _, _, _, _, _, _, _, _, _ => none
  | k + 1, x0, x3, x7, x8, x9, x30, x259000, x259001, x259002 => if x30 = true then (some false) else (if 0 ≤ x3 then (if x3 ≤ (x0.length : Int) then ((some (x0.take (x3 : Int).toNat : List (S36))).bind fun y262 => (spec_ntGood.l1 k x0 x7 x8 x9 y262 (y262.length : Int) 0 x259000 x259001 x259002)) else (none)) else (none))
def spec_ntGood.l1 : Nat → List (S36) → List (S36) → Int → Int → List (S36) → Int → Int → Int → Int → Int → Option (Bool)
  | 0, _, _, _, _, _, _, _, _, _, _ => none
  | k + 1, x0, x7, x8, x9, x33, x34, x35, x259000, x259001, x259002 => if x35 < x34 then (if 0 ≤ x35 then (if x35 < (x33.length : Int) then ((spec_ntMeet.f x259000 x259001 x259002 ((rd_T36 x33 x35).f0) ((rd_T36 x33 x35).f1) ((rd_T36 x33 x35).f2)).bind fun t268 => (if t268 = true then (some false) else (spec_ntGood.l1 k x0 x7 x8 x9 x33 x34 (wrap64 (x35 + 1)) x259000 x259001 x259002))) else (none)) else (none)) else (spec_ntGood.l0 k x0 x7 x8 (wrap64 (x9 + 1)))
end
def spec_ntGood.f (k : Nat) (l0 : List (S36)) : Option (Bool) := spec_ntGood.l0 k l0 l0 (l0.length : Int) 0
instance spec_ntGood.lp0 {k : Nat} {r : Bool} {Q : Wr → Prop} {p0 : List (S36)} {p1 : List (S36)} {p2 : Int} {x9_1 : Int} : Lp (spec_ntGood.l0 k p0 p1 p2 x9_1 = some r) Q (fun k => ∀ {x9_1 : Int}, spec_ntGood.l0 k p0 p1 p2 x9_1 = some r → Q [(18, .p (.c (.v (.int .i64 x9_1))))]) k [(18, .p (.c (.v (.int .i64 x9_1))))] := ⟨fun j h => j h⟩
instance spec_ntGood.lp1 {k : Nat} {r : Bool} {Q : Wr → Prop} {p0 : List (S36)} {p1 : List (S36)} {p2 : Int} {p3 : Int} {p4 : List (S36)} {p5 : Int} {p7 : Int} {p8 : Int} {p9 : Int} {x35_3 : Int} : Lp (spec_ntGood.l1 k p0 p1 p2 p3 p4 p5 x35_3 p7 p8 p9 = some r) Q (fun k => ∀ {x35_3 : Int}, spec_ntGood.l1 k p0 p1 p2 p3 p4 p5 x35_3 p7 p8 p9 = some r → Q [(70, .p (.c (.v (.int .i64 x35_3))))]) k [(70, .p (.c (.v (.int .i64 x35_3))))] := ⟨fun j h => j h⟩
set_option maxRecDepth 20000 in
set_option maxHeartbeats 2000000 in
theorem spec_ntGood.con (k : Nat) (l0 : List (S36)) (r : Bool) (H : spec_ntGood.f k l0 = some r) : Con Tryz.prog 48 [.p (.c (.sl K36 l0))] (.p (.c (.v (.bool r)))) := by
  refine Con.mk' (fn := Tryz.f48) Tryz.func48 rfl (by kernel_rfl) rfl rfl rfl fun X w0 gs hF => ?_
  unfold spec_ntGood.f at H
  exact auto
instance spec_ntGood.ctr {k : Nat} {l0 : List (S36)} {r : Bool} : Ctr (spec_ntGood.f k l0 = some r) (Con Tryz.prog 48 [.p (.c (.sl K36 l0))] (.p (.c (.v (.bool r))))) := ⟨spec_ntGood.con _ _ _⟩
theorem spec_ntGood.calls (k : Nat) (A0 : Option Addr) (c0 : Nat) (l0 : List (S36)) (r : Bool) (w : World) (hr0 : Kd.C k36 w A0 l0.length l0) (hc0 : l0.length ≤ c0) (h : spec_ntGood.f k l0 = some r) :
    Calls Tryz.prog 48 #[.slice A0 l0.length c0] w fun e w' => e = .returned (.bool r) ∧ Below w.heap.size w w' :=
  (spec_ntGood.con k l0 r h).val rfl (show Args.relg (fun _ => False) w _ [.slice A0 l0.length c0] [.slice A0 l0.length c0] from ⟨_, _, rfl, ⟨rfl, A0, c0, rfl, hc0, row_of_C rfl (fun _ h => h) hr0⟩, rfl⟩)
/-! ### spec_l1Cur_note: function 93 -/
def spec_l1Cur_note.f (s0_0 : List Int) (s0_1 : Int) (s0_2 : Int) : Option (Int × Int × Int × Int × Int) := (spec_l1Cur_pick.f s0_0 s0_1 s0_2 73).bind fun bt270 => ((spec_l1Cur_among.f s0_0 bt270.2.1 bt270.2.2 (([48, 50, 52, 55, 60, 60, 62, 64, 67, 72, wrap64 (24 + bt270.1)] : List Int))).bind fun bt276 => ((spec_l1Cur_pick.f s0_0 bt276.2.1 bt276.2.2 40).bind fun bt279 => ((spec_l1Cur_pick.f s0_0 bt279.2.1 bt279.2.2 40).bind fun bt282 => ((spec_l1Cur_among.f s0_0 bt282.2.1 bt282.2.2 (([0, 2, 4, 8, bt279.1, bt282.1, 999] : List Int))).bind fun bt288 => ((spec_l1Cur_among.f s0_0 bt288.2.1 bt288.2.2 (([1, 2, 2, 4, 8, 99] : List Int))).bind fun bt294 => (some (bt276.1, bt288.1, bt294.1, bt294.2.1, bt294.2.2)))))))
set_option maxRecDepth 20000 in
set_option maxHeartbeats 2000000 in
theorem spec_l1Cur_note.con (s0_0 : List Int) (s0_1 : Int) (s0_2 : Int) (r1 : Int) (r2 : Int) (r3 : Int) (r4 : Int) (r5 : Int) (H : spec_l1Cur_note.f s0_0 s0_1 s0_2 = some (r1, r2, r3, r4, r5)) : Con Tryz.prog 93 [.p (.ob 70 [.sl (.int .u8) s0_0, .v (.int .i64 s0_1), .v (.int .u64 s0_2)])] (.p (.ag [.v (.int .i64 r1), .v (.int .i64 r2), .v (.int .i64 r3)])) [(0, .ob 70 [.sl (.int .u8) s0_0, .v (.int .i64 r4), .v (.int .u64 r5)])] := by
  refine Con.mk' (fn := Tryz.f93) Tryz.func93 rfl (by kernel_rfl) rfl rfl rfl fun X w0 gs hF => ?_
  unfold spec_l1Cur_note.f at H
  exact auto
instance spec_l1Cur_note.ctr {s0_0 : List Int} {s0_1 : Int} {s0_2 : Int} {t_ : (Int) × (Int) × (Int) × (Int) × (Int)} : Ctr (spec_l1Cur_note.f s0_0 s0_1 s0_2 = some t_) (Con Tryz.prog 93 [.p (.ob 70 [.sl (.int .u8) s0_0, .v (.int .i64 s0_1), .v (.int .u64 s0_2)])] (.p (.ag [.v (.int .i64 t_.1), .v (.int .i64 t_.2.1), .v (.int .i64 t_.2.2.1)])) [(0, .ob 70 [.sl (.int .u8) s0_0, .v (.int .i64 t_.2.2.2.1), .v (.int .u64 t_.2.2.2.2)])]) := ⟨fun h => spec_l1Cur_note.con _ _ _ (t_.1) (t_.2.1) (t_.2.2.1) (t_.2.2.2.1) (t_.2.2.2.2) h⟩
/-! ### spec_l1Rising: function 95 -/
def spec_l1Rising.l0 : Nat → List Int → Int → Int → List Int → Int → Int → Option (Bool)
  | 0, _, _, _, _, _, _ => none
  | k + 1, x0, x1, x2, x9, x10, x11 => if x11 < x10 then (if 0 ≤ x11 then (if x11 < (x9.length : Int) then ((spec_l1In.f (rd x9 x11) x1 x2).bind fun t345 => (if t345 = true then (if x11 > 0 then (if 0 ≤ (wrap64 (x11 - 1)) then (if (wrap64 (x11 - 1)) < (x0.length : Int) then (if (rd x0 (wrap64 (x11 - 1))) ≥ (rd x9 x11) then (some false) else (spec_l1Rising.l0 k x0 x1 x2 x9 x10 (wrap64 (x11 + 1)))) else (none)) else (none)) else (spec_l1Rising.l0 k x0 x1 x2 x9 x10 (wrap64 (x11 + 1)))) else (some false))) else (none)) else (none)) else (some true)
def spec_l1Rising.f (k : Nat) (l0 : List Int) (a1 : Int) (a2 : Int) : Option (Bool) := spec_l1Rising.l0 k l0 a1 a2 l0 (l0.length : Int) 0
instance spec_l1Rising.lp0 {k : Nat} {r : Bool} {Q : Wr → Prop} {p0 : List Int} {p1 : Int} {p2 : Int} {p3 : List Int} {p4 : Int} {x11_1 : Int} : Lp (spec_l1Rising.l0 k p0 p1 p2 p3 p4 x11_1 = some r) Q (fun k => ∀ {x11_1 : Int}, spec_l1Rising.l0 k p0 p1 p2 p3 p4 x11_1 = some r → Q [(22, .p (.c (.v (.int .i64 x11_1))))]) k [(22, .p (.c (.v (.int .i64 x11_1))))] := ⟨fun j h => j h⟩
set_option maxRecDepth 20000 in
set_option maxHeartbeats 2000000 in
theorem spec_l1Rising.con (k : Nat) (l0 : List Int) (a1 : Int) (a2 : Int) (r : Bool) (H : spec_l1Rising.f k l0 a1 a2 = some r) : Con Tryz.prog 95 [.p (.c (.sl (.int .i64) l0)), .p (.c (.v (.int .i64 a1))), .p (.c (.v (.int .i64 a2)))] (.p (.c (.v (.bool r)))) := by
  refine Con.mk' (fn := Tryz.f95) Tryz.func95 rfl (by kernel_rfl) rfl rfl rfl fun X w0 gs hF => ?_
  unfold spec_l1Rising.f at H
  exact auto
instance spec_l1Rising.ctr {k : Nat} {l0 : List Int} {a1 : Int} {a2 : Int} {r : Bool} : Ctr (spec_l1Rising.f k l0 a1 a2 = some r) (Con Tryz.prog 95 [.p (.c (.sl (.int .i64) l0)), .p (.c (.v (.int .i64 a1))), .p (.c (.v (.int .i64 a2)))] (.p (.c (.v (.bool r))))) := ⟨spec_l1Rising.con _ _ _ _ _⟩
/-! ### spec_inGood: function 57 -/
def spec_inGood.f (k : Nat) (l0_0 : List Int) (a0_1 : Int) : Option (Bool) := (spec_l1In.f (l0_0.length : Int) 1 20).bind fun t348 => (if t348 = true then ((spec_l1Rising.f k l0_0 24 96).bind fun t349 => (if t349 = true then ((spec_l1In.f a0_1 1 20).bind fun t350 => (some t350)) else (some false))) else (some false))
set_option maxRecDepth 20000 in
set_option maxHeartbeats 2000000 in
theorem spec_inGood.con (k : Nat) (l0_0 : List Int) (a0_1 : Int) (r : Bool) (H : spec_inGood.f k l0_0 a0_1 = some r) : Con Tryz.prog 57 [.p (.ag [.sl (.int .i64) l0_0, .v (.int .i64 a0_1)])] (.p (.c (.v (.bool r)))) := by
  refine Con.mk' (fn := Tryz.f57) Tryz.func57 rfl (by kernel_rfl) rfl rfl rfl fun X w0 gs hF => ?_
  unfold spec_inGood.f at H
  exact auto
instance spec_inGood.ctr {k : Nat} {l0_0 : List Int} {a0_1 : Int} {r : Bool} : Ctr (spec_inGood.f k l0_0 a0_1 = some r) (Con Tryz.prog 57 [.p (.ag [.sl (.int .i64) l0_0, .v (.int .i64 a0_1)])] (.p (.c (.v (.bool r))))) := ⟨spec_inGood.con _ _ _ _⟩
end Go.Proofs.YtgjpphcbdbfhlaaGreat.L
