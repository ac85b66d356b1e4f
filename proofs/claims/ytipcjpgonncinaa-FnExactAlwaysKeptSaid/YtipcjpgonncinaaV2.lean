/- BY EV: what the Go functions compute (read off the print), and that their calls come to it. No condition. -/
import Derived.Test.YtipcjpgonncinaaVEU
import Derived.Test.YtipcjpgonncinaaV1
set_option linter.unusedVariables false
set_option linter.unusedSimpArgs false
namespace Go.Proofs.Ytipcjpgonncinaa.V
open Go.RowKit Go.Proofs Go.Proofs.YtipcjpgonncinaaW.PrintWords Go.Proofs.YtipcjpgonncinaaW.PrintLast EV
/-! ### laws_eqInstrument: function 15 -/
def laws_eqInstrument.f (k : Nat) (l0_0 : List Int) (a0_1 : Int) (l1_0 : List Int) (a1_1 : Int) : Option (Bool) := (laws_eqIntS.f k l0_0 l1_0).bind fun t134 => (if t134 = true then (if a0_1 = a1_1 then (some true) else (some false)) else (some false))
set_option maxRecDepth 8000 in
set_option maxHeartbeats 2000000 in
theorem laws_eqInstrument.con (k : Nat) (l0_0 : List Int) (a0_1 : Int) (l1_0 : List Int) (a1_1 : Int) (r : Bool) (H : laws_eqInstrument.f k l0_0 a0_1 l1_0 a1_1 = some r) : Con Try.prog 15 [.p (.ag [.sl (.int .i64) l0_0, .v (.int .i64 a0_1)]), .p (.ag [.sl (.int .i64) l1_0, .v (.int .i64 a1_1)])] (.p (.c (.v (.bool r)))) := by
  refine Con.mk' (fn := Try.f15) Try.func15 rfl (by kernel_rfl) rfl rfl rfl fun X w0 gs hF => ?_
  unfold laws_eqInstrument.f at H
  exact auto
instance laws_eqInstrument.ctr {k : Nat} {l0_0 : List Int} {a0_1 : Int} {l1_0 : List Int} {a1_1 : Int} {r : Bool} : Ctr (laws_eqInstrument.f k l0_0 a0_1 l1_0 a1_1 = some r) (Con Try.prog 15 [.p (.ag [.sl (.int .i64) l0_0, .v (.int .i64 a0_1)]), .p (.ag [.sl (.int .i64) l1_0, .v (.int .i64 a1_1)])] (.p (.c (.v (.bool r))))) := ⟨laws_eqInstrument.con _ _ _ _ _ _⟩
/-! ### spec_l1In: function 50 -/
def spec_l1In.f (a0 : Int) (a1 : Int) (a2 : Int) : Option (Bool) := if a0 ≥ a1 then (some (decide (a0 ≤ a2))) else (some false)
set_option maxRecDepth 8000 in
set_option maxHeartbeats 2000000 in
theorem spec_l1In.con (a0 : Int) (a1 : Int) (a2 : Int) (r : Bool) (H : spec_l1In.f a0 a1 a2 = some r) : Con Try.prog 50 [.p (.c (.v (.int .i64 a0))), .p (.c (.v (.int .i64 a1))), .p (.c (.v (.int .i64 a2)))] (.p (.c (.v (.bool r)))) := by
  refine Con.mk' (fn := Try.f50) Try.func50 rfl (by kernel_rfl) rfl rfl rfl fun X w0 gs hF => ?_
  unfold spec_l1In.f at H
  exact auto
instance spec_l1In.ctr {a0 : Int} {a1 : Int} {a2 : Int} {r : Bool} : Ctr (spec_l1In.f a0 a1 a2 = some r) (Con Try.prog 50 [.p (.c (.v (.int .i64 a0))), .p (.c (.v (.int .i64 a1))), .p (.c (.v (.int .i64 a2)))] (.p (.c (.v (.bool r))))) := ⟨spec_l1In.con _ _ _ _⟩
/-! ### spec_l1Rising: function 55 -/
def spec_l1Rising.l0 : Nat → List Int → Int → Int → List Int → Int → Int → Option (Bool)
  | 0, _, _, _, _, _, _ => none
  | k + 1, x0, x1, x2, x9, x10, x11 => if x11 < x10 then (if 0 ≤ x11 then (if x11 < (x9.length : Int) then ((spec_l1In.f (rd x9 x11) x1 x2).bind fun t136 => (if t136 = true then (if x11 > 0 then (if 0 ≤ (wrap64 (x11 - 1)) then (if (wrap64 (x11 - 1)) < (x0.length : Int) then (if (rd x0 (wrap64 (x11 - 1))) ≥ (rd x9 x11) then (some false) else (spec_l1Rising.l0 k x0 x1 x2 x9 x10 (wrap64 (x11 + 1)))) else (none)) else (none)) else (spec_l1Rising.l0 k x0 x1 x2 x9 x10 (wrap64 (x11 + 1)))) else (some false))) else (none)) else (none)) else (some true)
def spec_l1Rising.f (k : Nat) (l0 : List Int) (a1 : Int) (a2 : Int) : Option (Bool) := spec_l1Rising.l0 k l0 a1 a2 l0 (l0.length : Int) 0
instance spec_l1Rising.lp0 {k : Nat} {r : Bool} {Q : Wr → Prop} {p0 : List Int} {p1 : Int} {p2 : Int} {p3 : List Int} {p4 : Int} {x11_1 : Int} : Lp (spec_l1Rising.l0 k p0 p1 p2 p3 p4 x11_1 = some r) Q (fun k => ∀ {x11_1 : Int}, spec_l1Rising.l0 k p0 p1 p2 p3 p4 x11_1 = some r → Q [(22, .p (.c (.v (.int .i64 x11_1))))]) k [(22, .p (.c (.v (.int .i64 x11_1))))] := ⟨fun j h => j h⟩
set_option maxRecDepth 8000 in
set_option maxHeartbeats 2000000 in
theorem spec_l1Rising.con (k : Nat) (l0 : List Int) (a1 : Int) (a2 : Int) (r : Bool) (H : spec_l1Rising.f k l0 a1 a2 = some r) : Con Try.prog 55 [.p (.c (.sl (.int .i64) l0)), .p (.c (.v (.int .i64 a1))), .p (.c (.v (.int .i64 a2)))] (.p (.c (.v (.bool r)))) := by
  refine Con.mk' (fn := Try.f55) Try.func55 rfl (by kernel_rfl) rfl rfl rfl fun X w0 gs hF => ?_
  unfold spec_l1Rising.f at H
  exact auto
instance spec_l1Rising.ctr {k : Nat} {l0 : List Int} {a1 : Int} {a2 : Int} {r : Bool} : Ctr (spec_l1Rising.f k l0 a1 a2 = some r) (Con Try.prog 55 [.p (.c (.sl (.int .i64) l0)), .p (.c (.v (.int .i64 a1))), .p (.c (.v (.int .i64 a2)))] (.p (.c (.v (.bool r))))) := ⟨spec_l1Rising.con _ _ _ _ _⟩
/-! ### spec_inGood: function 31 -/
def spec_inGood.f (k : Nat) (l0_0 : List Int) (a0_1 : Int) : Option (Bool) := (spec_l1In.f (l0_0.length : Int) 1 20).bind fun t139 => (if t139 = true then ((spec_l1Rising.f k l0_0 24 96).bind fun t140 => (if t140 = true then ((spec_l1In.f a0_1 1 20).bind fun t141 => (some t141)) else (some false))) else (some false))
set_option maxRecDepth 8000 in
set_option maxHeartbeats 2000000 in
theorem spec_inGood.con (k : Nat) (l0_0 : List Int) (a0_1 : Int) (r : Bool) (H : spec_inGood.f k l0_0 a0_1 = some r) : Con Try.prog 31 [.p (.ag [.sl (.int .i64) l0_0, .v (.int .i64 a0_1)])] (.p (.c (.v (.bool r)))) := by
  refine Con.mk' (fn := Try.f31) Try.func31 rfl (by kernel_rfl) rfl rfl rfl fun X w0 gs hF => ?_
  unfold spec_inGood.f at H
  exact auto
instance spec_inGood.ctr {k : Nat} {l0_0 : List Int} {a0_1 : Int} {r : Bool} : Ctr (spec_inGood.f k l0_0 a0_1 = some r) (Con Try.prog 31 [.p (.ag [.sl (.int .i64) l0_0, .v (.int .i64 a0_1)])] (.p (.c (.v (.bool r))))) := ⟨spec_inGood.con _ _ _ _⟩
/-! ### spec_ntPitch: function 67 -/
def spec_ntPitch.f (a0 : Int) : Option (Bool) := (spec_l1In.f a0 24 96).bind fun t142 => (some t142)
set_option maxRecDepth 8000 in
set_option maxHeartbeats 2000000 in
theorem spec_ntPitch.con (a0 : Int) (r : Bool) (H : spec_ntPitch.f a0 = some r) : Con Try.prog 67 [.p (.c (.v (.int .i64 a0)))] (.p (.c (.v (.bool r)))) := by
  refine Con.mk' (fn := Try.f67) Try.func67 rfl (by kernel_rfl) rfl rfl rfl fun X w0 gs hF => ?_
  unfold spec_ntPitch.f at H
  exact auto
instance spec_ntPitch.ctr {a0 : Int} {r : Bool} : Ctr (spec_ntPitch.f a0 = some r) (Con Try.prog 67 [.p (.c (.v (.int .i64 a0)))] (.p (.c (.v (.bool r))))) := ⟨spec_ntPitch.con _ _⟩
/-! ### spec_ntNote: function 56 -/
def spec_ntNote.f (a0_0 : Int) (a0_1 : Int) (a0_2 : Int) : Option (Bool) := (spec_ntPitch.f a0_0).bind fun t144 => (if t144 = true then ((spec_l1In.f a0_1 0 999).bind fun t145 => (if t145 = true then ((spec_l1In.f a0_2 1 99).bind fun t146 => (some t146)) else (some false))) else (some false))
set_option maxRecDepth 8000 in
set_option maxHeartbeats 2000000 in
theorem spec_ntNote.con (a0_0 : Int) (a0_1 : Int) (a0_2 : Int) (r : Bool) (H : spec_ntNote.f a0_0 a0_1 a0_2 = some r) : Con Try.prog 56 [.p (.ag [.v (.int .i64 a0_0), .v (.int .i64 a0_1), .v (.int .i64 a0_2)])] (.p (.c (.v (.bool r)))) := by
  refine Con.mk' (fn := Try.f56) Try.func56 rfl (by kernel_rfl) rfl rfl rfl fun X w0 gs hF => ?_
  unfold spec_ntNote.f at H
  exact auto
instance spec_ntNote.ctr {a0_0 : Int} {a0_1 : Int} {a0_2 : Int} {r : Bool} : Ctr (spec_ntNote.f a0_0 a0_1 a0_2 = some r) (Con Try.prog 56 [.p (.ag [.v (.int .i64 a0_0), .v (.int .i64 a0_1), .v (.int .i64 a0_2)])] (.p (.c (.v (.bool r))))) := ⟨spec_ntNote.con _ _ _ _⟩
/-! ### spec_ntBefore: function 57 -/
def spec_ntBefore.f (a0_0 : Int) (a0_1 : Int) (a0_2 : Int) (a1_0 : Int) (a1_1 : Int) (a1_2 : Int) : Option (Bool) := if a0_1 < a1_1 then (some true) else (if a0_1 = a1_1 then (some (decide (a0_0 < a1_0))) else (some false))
set_option maxRecDepth 8000 in
set_option maxHeartbeats 2000000 in
theorem spec_ntBefore.con (a0_0 : Int) (a0_1 : Int) (a0_2 : Int) (a1_0 : Int) (a1_1 : Int) (a1_2 : Int) (r : Bool) (H : spec_ntBefore.f a0_0 a0_1 a0_2 a1_0 a1_1 a1_2 = some r) : Con Try.prog 57 [.p (.ag [.v (.int .i64 a0_0), .v (.int .i64 a0_1), .v (.int .i64 a0_2)]), .p (.ag [.v (.int .i64 a1_0), .v (.int .i64 a1_1), .v (.int .i64 a1_2)])] (.p (.c (.v (.bool r)))) := by
  refine Con.mk' (fn := Try.f57) Try.func57 rfl (by kernel_rfl) rfl rfl rfl fun X w0 gs hF => ?_
  unfold spec_ntBefore.f at H
  exact auto
instance spec_ntBefore.ctr {a0_0 : Int} {a0_1 : Int} {a0_2 : Int} {a1_0 : Int} {a1_1 : Int} {a1_2 : Int} {r : Bool} : Ctr (spec_ntBefore.f a0_0 a0_1 a0_2 a1_0 a1_1 a1_2 = some r) (Con Try.prog 57 [.p (.ag [.v (.int .i64 a0_0), .v (.int .i64 a0_1), .v (.int .i64 a0_2)]), .p (.ag [.v (.int .i64 a1_0), .v (.int .i64 a1_1), .v (.int .i64 a1_2)])] (.p (.c (.v (.bool r))))) := ⟨spec_ntBefore.con _ _ _ _ _ _ _⟩
/-! ### spec_ntMeet: function 58 -/
def spec_ntMeet.f (a0_0 : Int) (a0_1 : Int) (a0_2 : Int) (a1_0 : Int) (a1_1 : Int) (a1_2 : Int) : Option (Bool) := if a0_0 = a1_0 then (if a0_1 < (wrap64 (a1_1 + a1_2)) then (some (decide (a1_1 < (wrap64 (a0_1 + a0_2))))) else (some false)) else (some false)
set_option maxRecDepth 8000 in
set_option maxHeartbeats 2000000 in
theorem spec_ntMeet.con (a0_0 : Int) (a0_1 : Int) (a0_2 : Int) (a1_0 : Int) (a1_1 : Int) (a1_2 : Int) (r : Bool) (H : spec_ntMeet.f a0_0 a0_1 a0_2 a1_0 a1_1 a1_2 = some r) : Con Try.prog 58 [.p (.ag [.v (.int .i64 a0_0), .v (.int .i64 a0_1), .v (.int .i64 a0_2)]), .p (.ag [.v (.int .i64 a1_0), .v (.int .i64 a1_1), .v (.int .i64 a1_2)])] (.p (.c (.v (.bool r)))) := by
  refine Con.mk' (fn := Try.f58) Try.func58 rfl (by kernel_rfl) rfl rfl rfl fun X w0 gs hF => ?_
  unfold spec_ntMeet.f at H
  exact auto
instance spec_ntMeet.ctr {a0_0 : Int} {a0_1 : Int} {a0_2 : Int} {a1_0 : Int} {a1_1 : Int} {a1_2 : Int} {r : Bool} : Ctr (spec_ntMeet.f a0_0 a0_1 a0_2 a1_0 a1_1 a1_2 = some r) (Con Try.prog 58 [.p (.ag [.v (.int .i64 a0_0), .v (.int .i64 a0_1), .v (.int .i64 a0_2)]), .p (.ag [.v (.int .i64 a1_0), .v (.int .i64 a1_1), .v (.int .i64 a1_2)])] (.p (.c (.v (.bool r))))) := ⟨spec_ntMeet.con _ _ _ _ _ _ _⟩
/-! ### spec_ntGood: function 35 -/
mutual
def spec_ntGood.l0 : Nat → List (S51) → List (S51) → Int → Int → Option (Bool)
  | 0, _, _, _, _ => none
  | k + 1, x0, x7, x8, x9 => if x9 < x8 then (if 0 ≤ x9 then (if x9 < (x7.length : Int) then ((spec_ntNote.f ((rd_T51 x7 x9).f0) ((rd_T51 x7 x9).f1) ((rd_T51 x7 x9).f2)).bind fun t153 => (if t153 = true then (if x9 > 0 then (if 0 ≤ (wrap64 (x9 - 1)) then (if (wrap64 (x9 - 1)) < (x0.length : Int) then ((spec_ntBefore.f ((rd_T51 x0 (wrap64 (x9 - 1))).f0) ((rd_T51 x0 (wrap64 (x9 - 1))).f1) ((rd_T51 x0 (wrap64 (x9 - 1))).f2) ((rd_T51 x7 x9).f0) ((rd_T51 x7 x9).f1) ((rd_T51 x7 x9).f2)).bind fun t155 => (spec_ntGood.j1 k x0 x9 x7 x8 x9 (!t155) ((rd_T51 x7 x9).f0) ((rd_T51 x7 x9).f1) ((rd_T51 x7 x9).f2))) else (none)) else (none)) else (spec_ntGood.j1 k x0 x9 x7 x8 x9 false ((rd_T51 x7 x9).f0) ((rd_T51 x7 x9).f1) ((rd_T51 x7 x9).f2))) else (spec_ntGood.j1 k x0 x9 x7 x8 x9 true ((rd_T51 x7 x9).f0) ((rd_T51 x7 x9).f1) ((rd_T51 x7 x9).f2)))) else (none)) else (none)) else (some (decide ((x0.length : Int) ≤ 30)))
def spec_ntGood.j1 : Nat → List (S51) → Int → List (S51) → Int → Int → Bool → Int → Int → Int → Option (Bool)
  | 0, _, _, _, _, _, _, _, _, _ => none
  | k + 1, x0, x3, x7, x8, x9, x30, x153000, x153001, x153002 => if x30 = true then (some false) else (if 0 ≤ x3 then (if x3 ≤ (x0.length : Int) then ((some (x0.take (x3 : Int).toNat : List (S51))).bind fun y156 => (spec_ntGood.l1 k x0 x7 x8 x9 y156 (y156.length : Int) 0 x153000 x153001 x153002)) else (none)) else (none))
def spec_ntGood.l1 : Nat → List (S51) → List (S51) → Int → Int → List (S51) → Int → Int → Int → Int → Int → Option (Bool)
  | 0, _, _, _, _, _, _, _, _, _, _ => none
  | k + 1, x0, x7, x8, x9, x33, x34, x35, x153000, x153001, x153002 => if x35 < x34 then (if 0 ≤ x35 then (if x35 < (x33.length : Int) then ((spec_ntMeet.f x153000 x153001 x153002 ((rd_T51 x33 x35).f0) ((rd_T51 x33 x35).f1) ((rd_T51 x33 x35).f2)).bind fun t162 => (if t162 = true then (some false) else (spec_ntGood.l1 k x0 x7 x8 x9 x33 x34 (wrap64 (x35 + 1)) x153000 x153001 x153002))) else (none)) else (none)) else (spec_ntGood.l0 k x0 x7 x8 (wrap64 (x9 + 1)))
end
def spec_ntGood.f (k : Nat) (l0 : List (S51)) : Option (Bool) := spec_ntGood.l0 k l0 l0 (l0.length : Int) 0
instance spec_ntGood.lp0 {k : Nat} {r : Bool} {Q : Wr → Prop} {p0 : List (S51)} {p1 : List (S51)} {p2 : Int} {x9_1 : Int} : Lp (spec_ntGood.l0 k p0 p1 p2 x9_1 = some r) Q (fun k => ∀ {x9_1 : Int}, spec_ntGood.l0 k p0 p1 p2 x9_1 = some r → Q [(18, .p (.c (.v (.int .i64 x9_1))))]) k [(18, .p (.c (.v (.int .i64 x9_1))))] := ⟨fun j h => j h⟩
instance spec_ntGood.lp1 {k : Nat} {r : Bool} {Q : Wr → Prop} {p0 : List (S51)} {p1 : List (S51)} {p2 : Int} {p3 : Int} {p4 : List (S51)} {p5 : Int} {p7 : Int} {p8 : Int} {p9 : Int} {x35_3 : Int} : Lp (spec_ntGood.l1 k p0 p1 p2 p3 p4 p5 x35_3 p7 p8 p9 = some r) Q (fun k => ∀ {x35_3 : Int}, spec_ntGood.l1 k p0 p1 p2 p3 p4 p5 x35_3 p7 p8 p9 = some r → Q [(70, .p (.c (.v (.int .i64 x35_3))))]) k [(70, .p (.c (.v (.int .i64 x35_3))))] := ⟨fun j h => j h⟩
set_option maxRecDepth 8000 in
set_option maxHeartbeats 2000000 in
theorem spec_ntGood.con (k : Nat) (l0 : List (S51)) (r : Bool) (H : spec_ntGood.f k l0 = some r) : Con Try.prog 35 [.p (.c (.sl K51 l0))] (.p (.c (.v (.bool r)))) := by
  refine Con.mk' (fn := Try.f35) Try.func35 rfl (by kernel_rfl) rfl rfl rfl fun X w0 gs hF => ?_
  unfold spec_ntGood.f at H
  exact auto
instance spec_ntGood.ctr {k : Nat} {l0 : List (S51)} {r : Bool} : Ctr (spec_ntGood.f k l0 = some r) (Con Try.prog 35 [.p (.c (.sl K51 l0))] (.p (.c (.v (.bool r))))) := ⟨spec_ntGood.con _ _ _⟩
/-! ### spec_thGood: function 32 -/
def spec_thGood.f (k : Nat) (l0 : List (S51)) : Option (Bool) := (spec_ntGood.f k l0).bind fun t163 => (if t163 = true then (some (decide ((l0.length : Int) ≤ 12))) else (some false))
set_option maxRecDepth 8000 in
set_option maxHeartbeats 2000000 in
theorem spec_thGood.con (k : Nat) (l0 : List (S51)) (r : Bool) (H : spec_thGood.f k l0 = some r) : Con Try.prog 32 [.p (.c (.sl K51 l0))] (.p (.c (.v (.bool r)))) := by
  refine Con.mk' (fn := Try.f32) Try.func32 rfl (by kernel_rfl) rfl rfl rfl fun X w0 gs hF => ?_
  unfold spec_thGood.f at H
  exact auto
instance spec_thGood.ctr {k : Nat} {l0 : List (S51)} {r : Bool} : Ctr (spec_thGood.f k l0 = some r) (Con Try.prog 32 [.p (.c (.sl K51 l0))] (.p (.c (.v (.bool r))))) := ⟨spec_thGood.con _ _ _⟩
end Go.Proofs.Ytipcjpgonncinaa.V
