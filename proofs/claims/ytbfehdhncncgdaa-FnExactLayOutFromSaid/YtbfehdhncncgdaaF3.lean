/- BY EV: what the Go functions compute (read off the print), and that their calls come to it. No condition. -/
import Derived.Test.YtbfehdhncncgdaaFEU
import Derived.Test.YtbfehdhncncgdaaF2
set_option linter.unusedVariables false
set_option linter.unusedSimpArgs false
namespace Go.Proofs.Ytbfehdhncncgdaa.F
open Go.RowKit Go.Proofs Go.Proofs.YtbfehdhncncgdaaW.PrintWords Go.Proofs.YtbfehdhncncgdaaW.PrintLast EV
/-! ### spec_inGood: function 50 -/
def spec_inGood.f (k : Nat) (l0_0 : List Int) (a0_1 : Int) : Option (Bool) := (spec_l1In.f (l0_0.length : Int) 1 20).bind fun t157 => (if t157 = true then ((spec_l1Rising.f k l0_0 24 96).bind fun t158 => (if t158 = true then ((spec_l1In.f a0_1 1 20).bind fun t159 => (some t159)) else (some false))) else (some false))
set_option maxRecDepth 8000 in
set_option maxHeartbeats 2000000 in
theorem spec_inGood.con (k : Nat) (l0_0 : List Int) (a0_1 : Int) (r : Bool) (H : spec_inGood.f k l0_0 a0_1 = some r) : Con Try.prog 50 [.p (.ag [.sl (.int .i64) l0_0, .v (.int .i64 a0_1)])] (.p (.c (.v (.bool r)))) := by
  refine Con.mk' (fn := Try.f50) Try.func50 rfl (by kernel_rfl) rfl rfl rfl fun X w0 gs hF => ?_
  unfold spec_inGood.f at H
  exact auto
instance spec_inGood.ctr {k : Nat} {l0_0 : List Int} {a0_1 : Int} {r : Bool} : Ctr (spec_inGood.f k l0_0 a0_1 = some r) (Con Try.prog 50 [.p (.ag [.sl (.int .i64) l0_0, .v (.int .i64 a0_1)])] (.p (.c (.v (.bool r))))) := ⟨spec_inGood.con _ _ _ _⟩
/-! ### spec_ntPitch: function 88 -/
def spec_ntPitch.f (a0 : Int) : Option (Bool) := (spec_l1In.f a0 24 96).bind fun t160 => (some t160)
set_option maxRecDepth 8000 in
set_option maxHeartbeats 2000000 in
theorem spec_ntPitch.con (a0 : Int) (r : Bool) (H : spec_ntPitch.f a0 = some r) : Con Try.prog 88 [.p (.c (.v (.int .i64 a0)))] (.p (.c (.v (.bool r)))) := by
  refine Con.mk' (fn := Try.f88) Try.func88 rfl (by kernel_rfl) rfl rfl rfl fun X w0 gs hF => ?_
  unfold spec_ntPitch.f at H
  exact auto
instance spec_ntPitch.ctr {a0 : Int} {r : Bool} : Ctr (spec_ntPitch.f a0 = some r) (Con Try.prog 88 [.p (.c (.v (.int .i64 a0)))] (.p (.c (.v (.bool r))))) := ⟨spec_ntPitch.con _ _⟩
/-! ### spec_ntNote: function 74 -/
def spec_ntNote.f (a0_0 : Int) (a0_1 : Int) (a0_2 : Int) : Option (Bool) := (spec_ntPitch.f a0_0).bind fun t162 => (if t162 = true then ((spec_l1In.f a0_1 0 999).bind fun t163 => (if t163 = true then ((spec_l1In.f a0_2 1 99).bind fun t164 => (some t164)) else (some false))) else (some false))
set_option maxRecDepth 8000 in
set_option maxHeartbeats 2000000 in
theorem spec_ntNote.con (a0_0 : Int) (a0_1 : Int) (a0_2 : Int) (r : Bool) (H : spec_ntNote.f a0_0 a0_1 a0_2 = some r) : Con Try.prog 74 [.p (.ag [.v (.int .i64 a0_0), .v (.int .i64 a0_1), .v (.int .i64 a0_2)])] (.p (.c (.v (.bool r)))) := by
  refine Con.mk' (fn := Try.f74) Try.func74 rfl (by kernel_rfl) rfl rfl rfl fun X w0 gs hF => ?_
  unfold spec_ntNote.f at H
  exact auto
instance spec_ntNote.ctr {a0_0 : Int} {a0_1 : Int} {a0_2 : Int} {r : Bool} : Ctr (spec_ntNote.f a0_0 a0_1 a0_2 = some r) (Con Try.prog 74 [.p (.ag [.v (.int .i64 a0_0), .v (.int .i64 a0_1), .v (.int .i64 a0_2)])] (.p (.c (.v (.bool r))))) := ⟨spec_ntNote.con _ _ _ _⟩
/-! ### spec_ntBefore: function 75 -/
def spec_ntBefore.f (a0_0 : Int) (a0_1 : Int) (a0_2 : Int) (a1_0 : Int) (a1_1 : Int) (a1_2 : Int) : Option (Bool) := if a0_1 < a1_1 then (some true) else (if a0_1 = a1_1 then (some (decide (a0_0 < a1_0))) else (some false))
set_option maxRecDepth 8000 in
set_option maxHeartbeats 2000000 in
theorem spec_ntBefore.con (a0_0 : Int) (a0_1 : Int) (a0_2 : Int) (a1_0 : Int) (a1_1 : Int) (a1_2 : Int) (r : Bool) (H : spec_ntBefore.f a0_0 a0_1 a0_2 a1_0 a1_1 a1_2 = some r) : Con Try.prog 75 [.p (.ag [.v (.int .i64 a0_0), .v (.int .i64 a0_1), .v (.int .i64 a0_2)]), .p (.ag [.v (.int .i64 a1_0), .v (.int .i64 a1_1), .v (.int .i64 a1_2)])] (.p (.c (.v (.bool r)))) := by
  refine Con.mk' (fn := Try.f75) Try.func75 rfl (by kernel_rfl) rfl rfl rfl fun X w0 gs hF => ?_
  unfold spec_ntBefore.f at H
  exact auto
instance spec_ntBefore.ctr {a0_0 : Int} {a0_1 : Int} {a0_2 : Int} {a1_0 : Int} {a1_1 : Int} {a1_2 : Int} {r : Bool} : Ctr (spec_ntBefore.f a0_0 a0_1 a0_2 a1_0 a1_1 a1_2 = some r) (Con Try.prog 75 [.p (.ag [.v (.int .i64 a0_0), .v (.int .i64 a0_1), .v (.int .i64 a0_2)]), .p (.ag [.v (.int .i64 a1_0), .v (.int .i64 a1_1), .v (.int .i64 a1_2)])] (.p (.c (.v (.bool r))))) := ⟨spec_ntBefore.con _ _ _ _ _ _ _⟩
/-! ### spec_ntMeet: function 76 -/
def spec_ntMeet.f (a0_0 : Int) (a0_1 : Int) (a0_2 : Int) (a1_0 : Int) (a1_1 : Int) (a1_2 : Int) : Option (Bool) := if a0_0 = a1_0 then (if a0_1 < (wrap64 (a1_1 + a1_2)) then (some (decide (a1_1 < (wrap64 (a0_1 + a0_2))))) else (some false)) else (some false)
set_option maxRecDepth 8000 in
set_option maxHeartbeats 2000000 in
theorem spec_ntMeet.con (a0_0 : Int) (a0_1 : Int) (a0_2 : Int) (a1_0 : Int) (a1_1 : Int) (a1_2 : Int) (r : Bool) (H : spec_ntMeet.f a0_0 a0_1 a0_2 a1_0 a1_1 a1_2 = some r) : Con Try.prog 76 [.p (.ag [.v (.int .i64 a0_0), .v (.int .i64 a0_1), .v (.int .i64 a0_2)]), .p (.ag [.v (.int .i64 a1_0), .v (.int .i64 a1_1), .v (.int .i64 a1_2)])] (.p (.c (.v (.bool r)))) := by
  refine Con.mk' (fn := Try.f76) Try.func76 rfl (by kernel_rfl) rfl rfl rfl fun X w0 gs hF => ?_
  unfold spec_ntMeet.f at H
  exact auto
instance spec_ntMeet.ctr {a0_0 : Int} {a0_1 : Int} {a0_2 : Int} {a1_0 : Int} {a1_1 : Int} {a1_2 : Int} {r : Bool} : Ctr (spec_ntMeet.f a0_0 a0_1 a0_2 a1_0 a1_1 a1_2 = some r) (Con Try.prog 76 [.p (.ag [.v (.int .i64 a0_0), .v (.int .i64 a0_1), .v (.int .i64 a0_2)]), .p (.ag [.v (.int .i64 a1_0), .v (.int .i64 a1_1), .v (.int .i64 a1_2)])] (.p (.c (.v (.bool r))))) := ⟨spec_ntMeet.con _ _ _ _ _ _ _⟩
/-! ### spec_ntGood: function 51 -/
mutual
def spec_ntGood.l0 : Nat → List (S57) → List (S57) → Int → Int → Option (Bool)
  | 0, _, _, _, _ => none
  | k + 1, x0, x7, x8, x9 => if x9 < x8 then (if 0 ≤ x9 then (if x9 < (x7.length : Int) then ((spec_ntNote.f ((rd_T57 x7 x9).f0) ((rd_T57 x7 x9).f1) ((rd_T57 x7 x9).f2)).bind fun t171 => (if t171 = true then (if x9 > 0 then (if 0 ≤ (wrap64 (x9 - 1)) then (if (wrap64 (x9 - 1)) < (x0.length : Int) then ((spec_ntBefore.f ((rd_T57 x0 (wrap64 (x9 - 1))).f0) ((rd_T57 x0 (wrap64 (x9 - 1))).f1) ((rd_T57 x0 (wrap64 (x9 - 1))).f2) ((rd_T57 x7 x9).f0) ((rd_T57 x7 x9).f1) ((rd_T57 x7 x9).f2)).bind fun t173 => (spec_ntGood.j1 k x0 x9 x7 x8 x9 (!t173) ((rd_T57 x7 x9).f0) ((rd_T57 x7 x9).f1) ((rd_T57 x7 x9).f2))) else (none)) else (none)) else (spec_ntGood.j1 k x0 x9 x7 x8 x9 false ((rd_T57 x7 x9).f0) ((rd_T57 x7 x9).f1) ((rd_T57 x7 x9).f2))) else (spec_ntGood.j1 k x0 x9 x7 x8 x9 true ((rd_T57 x7 x9).f0) ((rd_T57 x7 x9).f1) ((rd_T57 x7 x9).f2)))) else (none)) else (none)) else (some (decide ((x0.length : Int) ≤ 30)))
def spec_ntGood.j1 : Nat → List (S57) → Int → List (S57) → Int → Int → Bool → Int → Int → Int → Option (Bool)
  | 0, _, _, _, _, _, _, _, _, _ => none
  | k + 1, x0, x3, x7, x8, x9, x30, x171000, x171001, x171002 => if x30 = true then (some false) else (if 0 ≤ x3 then (if x3 ≤ (x0.length : Int) then ((some (x0.take (x3 : Int).toNat : List (S57))).bind fun y174 => (spec_ntGood.l1 k x0 x7 x8 x9 y174 (y174.length : Int) 0 x171000 x171001 x171002)) else (none)) else (none))
def spec_ntGood.l1 : Nat → List (S57) → List (S57) → Int → Int → List (S57) → Int → Int → Int → Int → Int → Option (Bool)
  | 0, _, _, _, _, _, _, _, _, _, _ => none
  | k + 1, x0, x7, x8, x9, x33, x34, x35, x171000, x171001, x171002 => if x35 < x34 then (if 0 ≤ x35 then (if x35 < (x33.length : Int) then ((spec_ntMeet.f x171000 x171001 x171002 ((rd_T57 x33 x35).f0) ((rd_T57 x33 x35).f1) ((rd_T57 x33 x35).f2)).bind fun t180 => (if t180 = true then (some false) else (spec_ntGood.l1 k x0 x7 x8 x9 x33 x34 (wrap64 (x35 + 1)) x171000 x171001 x171002))) else (none)) else (none)) else (spec_ntGood.l0 k x0 x7 x8 (wrap64 (x9 + 1)))
end
def spec_ntGood.f (k : Nat) (l0 : List (S57)) : Option (Bool) := spec_ntGood.l0 k l0 l0 (l0.length : Int) 0
instance spec_ntGood.lp0 {k : Nat} {r : Bool} {Q : Wr → Prop} {p0 : List (S57)} {p1 : List (S57)} {p2 : Int} {x9_1 : Int} : Lp (spec_ntGood.l0 k p0 p1 p2 x9_1 = some r) Q (fun k => ∀ {x9_1 : Int}, spec_ntGood.l0 k p0 p1 p2 x9_1 = some r → Q [(18, .p (.c (.v (.int .i64 x9_1))))]) k [(18, .p (.c (.v (.int .i64 x9_1))))] := ⟨fun j h => j h⟩
instance spec_ntGood.lp1 {k : Nat} {r : Bool} {Q : Wr → Prop} {p0 : List (S57)} {p1 : List (S57)} {p2 : Int} {p3 : Int} {p4 : List (S57)} {p5 : Int} {p7 : Int} {p8 : Int} {p9 : Int} {x35_3 : Int} : Lp (spec_ntGood.l1 k p0 p1 p2 p3 p4 p5 x35_3 p7 p8 p9 = some r) Q (fun k => ∀ {x35_3 : Int}, spec_ntGood.l1 k p0 p1 p2 p3 p4 p5 x35_3 p7 p8 p9 = some r → Q [(70, .p (.c (.v (.int .i64 x35_3))))]) k [(70, .p (.c (.v (.int .i64 x35_3))))] := ⟨fun j h => j h⟩
set_option maxRecDepth 8000 in
set_option maxHeartbeats 2000000 in
theorem spec_ntGood.con (k : Nat) (l0 : List (S57)) (r : Bool) (H : spec_ntGood.f k l0 = some r) : Con Try.prog 51 [.p (.c (.sl K57 l0))] (.p (.c (.v (.bool r)))) := by
  refine Con.mk' (fn := Try.f51) Try.func51 rfl (by kernel_rfl) rfl rfl rfl fun X w0 gs hF => ?_
  unfold spec_ntGood.f at H
  exact auto
instance spec_ntGood.ctr {k : Nat} {l0 : List (S57)} {r : Bool} : Ctr (spec_ntGood.f k l0 = some r) (Con Try.prog 51 [.p (.c (.sl K57 l0))] (.p (.c (.v (.bool r))))) := ⟨spec_ntGood.con _ _ _⟩
/-! ### spec_inAsked: function 29 -/
def spec_inAsked.f (k : Nat) (l0_0 : List Int) (a0_1 : Int) (l1 : List (S57)) : Option (Bool) := (spec_inGood.f k l0_0 a0_1).bind fun t182 => (if t182 = true then ((spec_ntGood.f k l1).bind fun t183 => (some t183)) else (some false))
set_option maxRecDepth 8000 in
set_option maxHeartbeats 2000000 in
theorem spec_inAsked.con (k : Nat) (l0_0 : List Int) (a0_1 : Int) (l1 : List (S57)) (r : Bool) (H : spec_inAsked.f k l0_0 a0_1 l1 = some r) : Con Try.prog 29 [.p (.ag [.sl (.int .i64) l0_0, .v (.int .i64 a0_1)]), .p (.c (.sl K57 l1))] (.p (.c (.v (.bool r)))) := by
  refine Con.mk' (fn := Try.f29) Try.func29 rfl (by kernel_rfl) rfl rfl rfl fun X w0 gs hF => ?_
  unfold spec_inAsked.f at H
  exact auto
instance spec_inAsked.ctr {k : Nat} {l0_0 : List Int} {a0_1 : Int} {l1 : List (S57)} {r : Bool} : Ctr (spec_inAsked.f k l0_0 a0_1 l1 = some r) (Con Try.prog 29 [.p (.ag [.sl (.int .i64) l0_0, .v (.int .i64 a0_1)]), .p (.c (.sl K57 l1))] (.p (.c (.v (.bool r))))) := ⟨spec_inAsked.con _ _ _ _ _⟩
/-! ### spec_inTrack: function 77 -/
def spec_inTrack.l0 : Nat → Int → List Int → Int → Int → Option (Int)
  | 0, _, _, _, _ => none
  | k + 1, x1, x8, x9, x10 => if x10 < x9 then (if 0 ≤ x10 then (if x10 < (x8.length : Int) then (if (rd x8 x10) = x1 then (some x10) else (spec_inTrack.l0 k x1 x8 x9 (wrap64 (x10 + 1)))) else (none)) else (none)) else (some (-1))
def spec_inTrack.f (k : Nat) (l0_0 : List Int) (a0_1 : Int) (a1 : Int) : Option (Int) := spec_inTrack.l0 k a1 l0_0 (l0_0.length : Int) 0
instance spec_inTrack.lp0 {k : Nat} {r : Int} {Q : Wr → Prop} {p0 : Int} {p1 : List Int} {p2 : Int} {x10_1 : Int} : Lp (spec_inTrack.l0 k p0 p1 p2 x10_1 = some r) Q (fun k => ∀ {x10_1 : Int}, spec_inTrack.l0 k p0 p1 p2 x10_1 = some r → Q [(20, .p (.c (.v (.int .i64 x10_1))))]) k [(20, .p (.c (.v (.int .i64 x10_1))))] := ⟨fun j h => j h⟩
set_option maxRecDepth 8000 in
set_option maxHeartbeats 2000000 in
theorem spec_inTrack.con (k : Nat) (l0_0 : List Int) (a0_1 : Int) (a1 : Int) (r : Int) (H : spec_inTrack.f k l0_0 a0_1 a1 = some r) : Con Try.prog 77 [.p (.ag [.sl (.int .i64) l0_0, .v (.int .i64 a0_1)]), .p (.c (.v (.int .i64 a1)))] (.p (.c (.v (.int .i64 r)))) := by
  refine Con.mk' (fn := Try.f77) Try.func77 rfl (by kernel_rfl) rfl rfl rfl fun X w0 gs hF => ?_
  unfold spec_inTrack.f at H
  exact auto
instance spec_inTrack.ctr {k : Nat} {l0_0 : List Int} {a0_1 : Int} {a1 : Int} {r : Int} : Ctr (spec_inTrack.f k l0_0 a0_1 a1 = some r) (Con Try.prog 77 [.p (.ag [.sl (.int .i64) l0_0, .v (.int .i64 a0_1)]), .p (.c (.v (.int .i64 a1)))] (.p (.c (.v (.int .i64 r))))) := ⟨spec_inTrack.con _ _ _ _ _⟩
/-! ### spec_l1Put: function 83 -/
def spec_l1Put.l0 : Nat → List Int → Int → Int → Option (List Int)
  | 0, _, _, _ => none
  | k + 1, x0, x1, x5 => if x5 < (x0.length : Int) then (if 0 ≤ x5 then (if (rd x0 x5) < x1 then (spec_l1Put.l0 k x0 x1 (wrap64 (x5 + 1))) else (if (rd x0 x5) = x1 then (some x0) else ((some (([] : List Int) : List Int)).bind fun y188 => (if x5 ≤ (x0.length : Int) then ((some (x0.take (x5 : Int).toNat : List Int)).bind fun y191 => (if y188.length + y191.length < 17592186044416 then ((some (y188 ++ y191 : List Int)).bind fun y195 => (if y195.length < 17592186044416 then ((some (y195 ++ [x1] : List Int)).bind fun y198 => ((some (x0.drop (x5 : Int).toNat : List Int)).bind fun y201 => (if y198.length + y201.length < 17592186044416 then (some (y198 ++ y201)) else (none)))) else (none))) else (none))) else (none))))) else (none)) else ((some (([] : List Int) : List Int)).bind fun y208 => (if 0 ≤ x5 then (if x5 ≤ (x0.length : Int) then ((some (x0.take (x5 : Int).toNat : List Int)).bind fun y211 => (if y208.length + y211.length < 17592186044416 then ((some (y208 ++ y211 : List Int)).bind fun y215 => (if y215.length < 17592186044416 then ((some (y215 ++ [x1] : List Int)).bind fun y218 => ((some (x0.drop (x5 : Int).toNat : List Int)).bind fun y221 => (if y218.length + y221.length < 17592186044416 then (some (y218 ++ y221)) else (none)))) else (none))) else (none))) else (none)) else (none)))
def spec_l1Put.f (k : Nat) (l0 : List Int) (a1 : Int) : Option (List Int) := spec_l1Put.l0 k l0 a1 0
instance spec_l1Put.lp0 {k : Nat} {r : List Int} {Q : Wr → Prop} {p0 : List Int} {p1 : Int} {x5_1 : Int} : Lp (spec_l1Put.l0 k p0 p1 x5_1 = some r) Q (fun k => ∀ {x5_1 : Int}, spec_l1Put.l0 k p0 p1 x5_1 = some r → Q [(10, .p (.c (.v (.int .i64 x5_1))))]) k [(10, .p (.c (.v (.int .i64 x5_1))))] := ⟨fun j h => j h⟩
set_option maxRecDepth 8000 in
set_option maxHeartbeats 2000000 in
theorem spec_l1Put.con (k : Nat) (l0 : List Int) (a1 : Int) (r : List Int) (H : spec_l1Put.f k l0 a1 = some r) : Con Try.prog 83 [.p (.c (.ow 3 (.int .i64) l0)), .p (.c (.v (.int .i64 a1)))] (.p (.c (.ow 3 (.int .i64) r))) := by
  refine Con.mk' (fn := Try.f83) Try.func83 rfl (by kernel_rfl) rfl rfl rfl fun X w0 gs hF => ?_
  unfold spec_l1Put.f at H
  exact auto
instance spec_l1Put.ctr {k : Nat} {l0 : List Int} {a1 : Int} {r : List Int} : Ctr (spec_l1Put.f k l0 a1 = some r) (Con Try.prog 83 [.p (.c (.ow 3 (.int .i64) l0)), .p (.c (.v (.int .i64 a1)))] (.p (.c (.ow 3 (.int .i64) r)))) := ⟨spec_l1Put.con _ _ _ _⟩
/-! ### spec_inMissing: function 64 -/
def spec_inMissing.l0 : Nat → List Int → List (S57) → Int → Int → List Int → Int → Option (List Int)
  | 0, _, _, _, _, _, _ => none
  | k + 1, x5, x8, x9, x10, x229000, x229001 => if x10 < x9 then (if 0 ≤ x10 then (if x10 < (x8.length : Int) then ((spec_inTrack.f k x229000 x229001 ((rd_T57 x8 x10).f0)).bind fun t231 => (if t231 < 0 then ((spec_l1Put.f k x5 ((rd_T57 x8 x10).f0)).bind fun t232 => (spec_inMissing.l0 k t232 x8 x9 (wrap64 (x10 + 1)) x229000 x229001)) else (spec_inMissing.l0 k x5 x8 x9 (wrap64 (x10 + 1)) x229000 x229001))) else (none)) else (none)) else (some x5)
def spec_inMissing.f (k : Nat) (l0_0 : List Int) (a0_1 : Int) (l1 : List (S57)) : Option (List Int) := spec_inMissing.l0 k ([] : List Int) l1 (l1.length : Int) 0 l0_0 a0_1
instance spec_inMissing.lp0 {k : Nat} {r : List Int} {Q : Wr → Prop} {p1 : List (S57)} {p2 : Int} {p4 : List Int} {p5 : Int} {x5_1 : List Int} {x10_1 : Int} : Lp (spec_inMissing.l0 k x5_1 p1 p2 x10_1 p4 p5 = some r) Q (fun k => ∀ {x5_1 : List Int} {x10_1 : Int}, spec_inMissing.l0 k x5_1 p1 p2 x10_1 p4 p5 = some r → Q [(10, .p (.c (.rp (Try.f64.ntmps + 5)))), (2 * (Try.f64.ntmps + 5) + 1, .row 3 (.int .i64) x5_1), (20, .p (.c (.v (.int .i64 x10_1))))]) k [(10, .p (.c (.rp (Try.f64.ntmps + 5)))), (2 * (Try.f64.ntmps + 5) + 1, .row 3 (.int .i64) x5_1), (20, .p (.c (.v (.int .i64 x10_1))))] := ⟨fun j h => j h⟩
set_option maxRecDepth 8000 in
set_option maxHeartbeats 2000000 in
theorem spec_inMissing.con (k : Nat) (l0_0 : List Int) (a0_1 : Int) (l1 : List (S57)) (r : List Int) (H : spec_inMissing.f k l0_0 a0_1 l1 = some r) : Con Try.prog 64 [.p (.ag [.sl (.int .i64) l0_0, .v (.int .i64 a0_1)]), .p (.c (.sl K57 l1))] (.p (.c (.ow 3 (.int .i64) r))) := by
  refine Con.mk' (fn := Try.f64) Try.func64 rfl (by kernel_rfl) rfl rfl rfl fun X w0 gs hF => ?_
  unfold spec_inMissing.f at H
  exact auto
instance spec_inMissing.ctr {k : Nat} {l0_0 : List Int} {a0_1 : Int} {l1 : List (S57)} {r : List Int} : Ctr (spec_inMissing.f k l0_0 a0_1 l1 = some r) (Con Try.prog 64 [.p (.ag [.sl (.int .i64) l0_0, .v (.int .i64 a0_1)]), .p (.c (.sl K57 l1))] (.p (.c (.ow 3 (.int .i64) r)))) := ⟨spec_inMissing.con _ _ _ _ _⟩
end Go.Proofs.Ytbfehdhncncgdaa.F
