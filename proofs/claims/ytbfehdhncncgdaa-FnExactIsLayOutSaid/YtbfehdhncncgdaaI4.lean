/- BY EV: what the Go functions compute (read off the print), and that their calls come to it. No condition. -/
import Derived.Test.YtbfehdhncncgdaaIEU
import Derived.Test.YtbfehdhncncgdaaI3
set_option linter.unusedVariables false
set_option linter.unusedSimpArgs false
namespace Go.Proofs.Ytbfehdhncncgdaa.I
open Go.RowKit Go.Proofs Go.Proofs.YtbfehdhncncgdaaW.PrintWords Go.Proofs.YtbfehdhncncgdaaW.PrintLast EV
/-! ### impl_noteLess: function 56 -/
def impl_noteLess.f (a0_0 : Int) (a0_1 : Int) (a0_2 : Int) (a1_0 : Int) (a1_1 : Int) (a1_2 : Int) : Option (Bool) := if a0_1 = a1_1 then (some (decide (a0_0 < a1_0))) else (some (decide (a0_1 < a1_1)))
set_option maxRecDepth 8000 in
set_option maxHeartbeats 2000000 in
theorem impl_noteLess.con (a0_0 : Int) (a0_1 : Int) (a0_2 : Int) (a1_0 : Int) (a1_1 : Int) (a1_2 : Int) (r : Bool) (H : impl_noteLess.f a0_0 a0_1 a0_2 a1_0 a1_1 a1_2 = some r) : Con Try.prog 56 [.p (.ag [.v (.int .i64 a0_0), .v (.int .i64 a0_1), .v (.int .i64 a0_2)]), .p (.ag [.v (.int .i64 a1_0), .v (.int .i64 a1_1), .v (.int .i64 a1_2)])] (.p (.c (.v (.bool r)))) := by
  refine Con.mk' (fn := Try.f56) Try.func56 rfl (by kernel_rfl) rfl rfl rfl fun X w0 gs hF => ?_
  unfold impl_noteLess.f at H
  exact auto
instance impl_noteLess.ctr {a0_0 : Int} {a0_1 : Int} {a0_2 : Int} {a1_0 : Int} {a1_1 : Int} {a1_2 : Int} {r : Bool} : Ctr (impl_noteLess.f a0_0 a0_1 a0_2 a1_0 a1_1 a1_2 = some r) (Con Try.prog 56 [.p (.ag [.v (.int .i64 a0_0), .v (.int .i64 a0_1), .v (.int .i64 a0_2)]), .p (.ag [.v (.int .i64 a1_0), .v (.int .i64 a1_1), .v (.int .i64 a1_2)])] (.p (.c (.v (.bool r))))) := ⟨impl_noteLess.con _ _ _ _ _ _ _⟩
theorem impl_noteLess.calls (a0_0 : Int) (a0_1 : Int) (a0_2 : Int) (a1_0 : Int) (a1_1 : Int) (a1_2 : Int) (r : Bool) (w : World) (h : impl_noteLess.f a0_0 a0_1 a0_2 a1_0 a1_1 a1_2 = some r) :
    Calls Try.prog 56 #[.agg #[.int .i64 a0_0, .int .i64 a0_1, .int .i64 a0_2], .agg #[.int .i64 a1_0, .int .i64 a1_1, .int .i64 a1_2]] w fun e w' => e = .returned (.bool r) ∧ Below w.heap.size w w' :=
  (impl_noteLess.con a0_0 a0_1 a0_2 a1_0 a1_1 a1_2 r h).val rfl (show Args.relg (fun _ => False) w _ [.agg #[.int .i64 a0_0, .int .i64 a0_1, .int .i64 a0_2], .agg #[.int .i64 a1_0, .int .i64 a1_1, .int .i64 a1_2]] [.int .i64 a0_0, .int .i64 a0_1, .int .i64 a0_2, .int .i64 a1_0, .int .i64 a1_1, .int .i64 a1_2] from ⟨_, _, rfl, ⟨rfl, rfl, rfl, ⟨rfl, rfl, ⟨rfl, rfl, trivial⟩⟩⟩, ⟨_, _, rfl, ⟨rfl, rfl, rfl, ⟨rfl, rfl, ⟨rfl, rfl, trivial⟩⟩⟩, rfl⟩⟩)
/-! ### impl_noteEnd: function 57 -/
def impl_noteEnd.f (a0_0 : Int) (a0_1 : Int) (a0_2 : Int) : Option (Int) := some (wrap64 (a0_1 + a0_2))
set_option maxRecDepth 8000 in
set_option maxHeartbeats 2000000 in
theorem impl_noteEnd.con (a0_0 : Int) (a0_1 : Int) (a0_2 : Int) (r : Int) (H : impl_noteEnd.f a0_0 a0_1 a0_2 = some r) : Con Try.prog 57 [.p (.ag [.v (.int .i64 a0_0), .v (.int .i64 a0_1), .v (.int .i64 a0_2)])] (.p (.c (.v (.int .i64 r)))) := by
  refine Con.mk' (fn := Try.f57) Try.func57 rfl (by kernel_rfl) rfl rfl rfl fun X w0 gs hF => ?_
  unfold impl_noteEnd.f at H
  exact auto
instance impl_noteEnd.ctr {a0_0 : Int} {a0_1 : Int} {a0_2 : Int} {r : Int} : Ctr (impl_noteEnd.f a0_0 a0_1 a0_2 = some r) (Con Try.prog 57 [.p (.ag [.v (.int .i64 a0_0), .v (.int .i64 a0_1), .v (.int .i64 a0_2)])] (.p (.c (.v (.int .i64 r))))) := ⟨impl_noteEnd.con _ _ _ _⟩
/-! ### impl_IsScore: function 34 -/
mutual
def impl_IsScore.l0 : Nat → List (S57) → List (S57) → Int → Int → Option (Bool)
  | 0, _, _, _, _ => none
  | k + 1, x0, x10, x11, x12 => if x12 < x11 then (if 0 ≤ x12 then (if x12 < (x10.length : Int) then ((impl_IsNote.f ((rd_T57 x10 x12).f0) ((rd_T57 x10 x12).f1) ((rd_T57 x10 x12).f2)).bind fun t168 => (if t168 = true then (if x12 > 0 then (if 0 ≤ (wrap64 (x12 - 1)) then (if (wrap64 (x12 - 1)) < (x0.length : Int) then ((impl_noteLess.f ((rd_T57 x0 (wrap64 (x12 - 1))).f0) ((rd_T57 x0 (wrap64 (x12 - 1))).f1) ((rd_T57 x0 (wrap64 (x12 - 1))).f2) ((rd_T57 x10 x12).f0) ((rd_T57 x10 x12).f1) ((rd_T57 x10 x12).f2)).bind fun t170 => (impl_IsScore.j1 k x0 x12 x10 x11 x12 (!t170) ((rd_T57 x10 x12).f0) ((rd_T57 x10 x12).f1) ((rd_T57 x10 x12).f2))) else (none)) else (none)) else (impl_IsScore.j1 k x0 x12 x10 x11 x12 false ((rd_T57 x10 x12).f0) ((rd_T57 x10 x12).f1) ((rd_T57 x10 x12).f2))) else (impl_IsScore.j1 k x0 x12 x10 x11 x12 true ((rd_T57 x10 x12).f0) ((rd_T57 x10 x12).f1) ((rd_T57 x10 x12).f2)))) else (none)) else (none)) else (some true)
def impl_IsScore.j1 : Nat → List (S57) → Int → List (S57) → Int → Int → Bool → Int → Int → Int → Option (Bool)
  | 0, _, _, _, _, _, _, _, _, _ => none
  | k + 1, x0, x3, x10, x11, x12, x33, x168000, x168001, x168002 => if x33 = true then (some false) else (if 0 ≤ x3 then (if x3 ≤ (x0.length : Int) then ((some (x0.take (x3 : Int).toNat : List (S57))).bind fun y171 => (impl_IsScore.l1 k x0 x10 x11 x12 y171 (y171.length : Int) 0 x168000 x168001 x168002)) else (none)) else (none))
def impl_IsScore.l1 : Nat → List (S57) → List (S57) → Int → Int → List (S57) → Int → Int → Int → Int → Int → Option (Bool)
  | 0, _, _, _, _, _, _, _, _, _, _ => none
  | k + 1, x0, x10, x11, x12, x36, x37, x38, x168000, x168001, x168002 => if x38 < x37 then (if 0 ≤ x38 then (if x38 < (x36.length : Int) then (if ((rd_T57 x36 x38).f0) = x168000 then ((impl_noteEnd.f ((rd_T57 x36 x38).f0) ((rd_T57 x36 x38).f1) ((rd_T57 x36 x38).f2)).bind fun t177 => (if t177 > x168001 then (some false) else (impl_IsScore.l1 k x0 x10 x11 x12 x36 x37 (wrap64 (x38 + 1)) x168000 x168001 x168002))) else (impl_IsScore.l1 k x0 x10 x11 x12 x36 x37 (wrap64 (x38 + 1)) x168000 x168001 x168002)) else (none)) else (none)) else (impl_IsScore.l0 k x0 x10 x11 (wrap64 (x12 + 1)))
end
def impl_IsScore.f (k : Nat) (l0 : List (S57)) : Option (Bool) := if (l0.length : Int) > 30 then (some false) else (impl_IsScore.l0 k l0 l0 (l0.length : Int) 0)
instance impl_IsScore.lp0 {k : Nat} {r : Bool} {Q : Wr → Prop} {p0 : List (S57)} {p1 : List (S57)} {p2 : Int} {x12_1 : Int} : Lp (impl_IsScore.l0 k p0 p1 p2 x12_1 = some r) Q (fun k => ∀ {x12_1 : Int}, impl_IsScore.l0 k p0 p1 p2 x12_1 = some r → Q [(24, .p (.c (.v (.int .i64 x12_1))))]) k [(24, .p (.c (.v (.int .i64 x12_1))))] := ⟨fun j h => j h⟩
instance impl_IsScore.lp1 {k : Nat} {r : Bool} {Q : Wr → Prop} {p0 : List (S57)} {p1 : List (S57)} {p2 : Int} {p3 : Int} {p4 : List (S57)} {p5 : Int} {p7 : Int} {p8 : Int} {p9 : Int} {x38_3 : Int} : Lp (impl_IsScore.l1 k p0 p1 p2 p3 p4 p5 x38_3 p7 p8 p9 = some r) Q (fun k => ∀ {x38_3 : Int}, impl_IsScore.l1 k p0 p1 p2 p3 p4 p5 x38_3 p7 p8 p9 = some r → Q [(76, .p (.c (.v (.int .i64 x38_3))))]) k [(76, .p (.c (.v (.int .i64 x38_3))))] := ⟨fun j h => j h⟩
set_option maxRecDepth 8000 in
set_option maxHeartbeats 2000000 in
theorem impl_IsScore.con (k : Nat) (l0 : List (S57)) (r : Bool) (H : impl_IsScore.f k l0 = some r) : Con Try.prog 34 [.p (.c (.sl K57 l0))] (.p (.c (.v (.bool r)))) := by
  refine Con.mk' (fn := Try.f34) Try.func34 rfl (by kernel_rfl) rfl rfl rfl fun X w0 gs hF => ?_
  unfold impl_IsScore.f at H
  exact auto
instance impl_IsScore.ctr {k : Nat} {l0 : List (S57)} {r : Bool} : Ctr (impl_IsScore.f k l0 = some r) (Con Try.prog 34 [.p (.c (.sl K57 l0))] (.p (.c (.v (.bool r))))) := ⟨impl_IsScore.con _ _ _⟩
theorem impl_IsScore.calls (k : Nat) (A0 : Option Addr) (c0 : Nat) (l0 : List (S57)) (r : Bool) (w : World) (hr0 : Kd.C k57 w A0 l0.length l0) (hc0 : l0.length ≤ c0) (h : impl_IsScore.f k l0 = some r) :
    Calls Try.prog 34 #[.slice A0 l0.length c0] w fun e w' => e = .returned (.bool r) ∧ Below w.heap.size w w' :=
  (impl_IsScore.con k l0 r h).val rfl (show Args.relg (fun _ => False) w _ [.slice A0 l0.length c0] [.slice A0 l0.length c0] from ⟨_, _, rfl, ⟨rfl, A0, c0, rfl, hc0, row_of_C rfl (fun _ h => h) hr0⟩, rfl⟩)
/-! ### spec_ntBefore: function 75 -/
def spec_ntBefore.f (a0_0 : Int) (a0_1 : Int) (a0_2 : Int) (a1_0 : Int) (a1_1 : Int) (a1_2 : Int) : Option (Bool) := if a0_1 < a1_1 then (some true) else (if a0_1 = a1_1 then (some (decide (a0_0 < a1_0))) else (some false))
set_option maxRecDepth 8000 in
set_option maxHeartbeats 2000000 in
theorem spec_ntBefore.con (a0_0 : Int) (a0_1 : Int) (a0_2 : Int) (a1_0 : Int) (a1_1 : Int) (a1_2 : Int) (r : Bool) (H : spec_ntBefore.f a0_0 a0_1 a0_2 a1_0 a1_1 a1_2 = some r) : Con Try.prog 75 [.p (.ag [.v (.int .i64 a0_0), .v (.int .i64 a0_1), .v (.int .i64 a0_2)]), .p (.ag [.v (.int .i64 a1_0), .v (.int .i64 a1_1), .v (.int .i64 a1_2)])] (.p (.c (.v (.bool r)))) := by
  refine Con.mk' (fn := Try.f75) Try.func75 rfl (by kernel_rfl) rfl rfl rfl fun X w0 gs hF => ?_
  unfold spec_ntBefore.f at H
  exact auto
instance spec_ntBefore.ctr {a0_0 : Int} {a0_1 : Int} {a0_2 : Int} {a1_0 : Int} {a1_1 : Int} {a1_2 : Int} {r : Bool} : Ctr (spec_ntBefore.f a0_0 a0_1 a0_2 a1_0 a1_1 a1_2 = some r) (Con Try.prog 75 [.p (.ag [.v (.int .i64 a0_0), .v (.int .i64 a0_1), .v (.int .i64 a0_2)]), .p (.ag [.v (.int .i64 a1_0), .v (.int .i64 a1_1), .v (.int .i64 a1_2)])] (.p (.c (.v (.bool r))))) := ⟨spec_ntBefore.con _ _ _ _ _ _ _⟩
theorem spec_ntBefore.calls (a0_0 : Int) (a0_1 : Int) (a0_2 : Int) (a1_0 : Int) (a1_1 : Int) (a1_2 : Int) (r : Bool) (w : World) (h : spec_ntBefore.f a0_0 a0_1 a0_2 a1_0 a1_1 a1_2 = some r) :
    Calls Try.prog 75 #[.agg #[.int .i64 a0_0, .int .i64 a0_1, .int .i64 a0_2], .agg #[.int .i64 a1_0, .int .i64 a1_1, .int .i64 a1_2]] w fun e w' => e = .returned (.bool r) ∧ Below w.heap.size w w' :=
  (spec_ntBefore.con a0_0 a0_1 a0_2 a1_0 a1_1 a1_2 r h).val rfl (show Args.relg (fun _ => False) w _ [.agg #[.int .i64 a0_0, .int .i64 a0_1, .int .i64 a0_2], .agg #[.int .i64 a1_0, .int .i64 a1_1, .int .i64 a1_2]] [.int .i64 a0_0, .int .i64 a0_1, .int .i64 a0_2, .int .i64 a1_0, .int .i64 a1_1, .int .i64 a1_2] from ⟨_, _, rfl, ⟨rfl, rfl, rfl, ⟨rfl, rfl, ⟨rfl, rfl, trivial⟩⟩⟩, ⟨_, _, rfl, ⟨rfl, rfl, rfl, ⟨rfl, rfl, ⟨rfl, rfl, trivial⟩⟩⟩, rfl⟩⟩)
/-! ### spec_ntMeet: function 76 -/
def spec_ntMeet.f (a0_0 : Int) (a0_1 : Int) (a0_2 : Int) (a1_0 : Int) (a1_1 : Int) (a1_2 : Int) : Option (Bool) := if a0_0 = a1_0 then (if a0_1 < (wrap64 (a1_1 + a1_2)) then (some (decide (a1_1 < (wrap64 (a0_1 + a0_2))))) else (some false)) else (some false)
set_option maxRecDepth 8000 in
set_option maxHeartbeats 2000000 in
theorem spec_ntMeet.con (a0_0 : Int) (a0_1 : Int) (a0_2 : Int) (a1_0 : Int) (a1_1 : Int) (a1_2 : Int) (r : Bool) (H : spec_ntMeet.f a0_0 a0_1 a0_2 a1_0 a1_1 a1_2 = some r) : Con Try.prog 76 [.p (.ag [.v (.int .i64 a0_0), .v (.int .i64 a0_1), .v (.int .i64 a0_2)]), .p (.ag [.v (.int .i64 a1_0), .v (.int .i64 a1_1), .v (.int .i64 a1_2)])] (.p (.c (.v (.bool r)))) := by
  refine Con.mk' (fn := Try.f76) Try.func76 rfl (by kernel_rfl) rfl rfl rfl fun X w0 gs hF => ?_
  unfold spec_ntMeet.f at H
  exact auto
instance spec_ntMeet.ctr {a0_0 : Int} {a0_1 : Int} {a0_2 : Int} {a1_0 : Int} {a1_1 : Int} {a1_2 : Int} {r : Bool} : Ctr (spec_ntMeet.f a0_0 a0_1 a0_2 a1_0 a1_1 a1_2 = some r) (Con Try.prog 76 [.p (.ag [.v (.int .i64 a0_0), .v (.int .i64 a0_1), .v (.int .i64 a0_2)]), .p (.ag [.v (.int .i64 a1_0), .v (.int .i64 a1_1), .v (.int .i64 a1_2)])] (.p (.c (.v (.bool r))))) := ⟨spec_ntMeet.con _ _ _ _ _ _ _⟩
/-! ### spec_ntGood: function 51 -/
mutual
def spec_ntGood.l0 : Nat → List (S57) → List (S57) → Int → Int → Option (Bool)
  | 0, _, _, _, _ => none
  | k + 1, x0, x7, x8, x9 => if x9 < x8 then (if 0 ≤ x9 then (if x9 < (x7.length : Int) then ((spec_ntNote.f ((rd_T57 x7 x9).f0) ((rd_T57 x7 x9).f1) ((rd_T57 x7 x9).f2)).bind fun t184 => (if t184 = true then (if x9 > 0 then (if 0 ≤ (wrap64 (x9 - 1)) then (if (wrap64 (x9 - 1)) < (x0.length : Int) then ((spec_ntBefore.f ((rd_T57 x0 (wrap64 (x9 - 1))).f0) ((rd_T57 x0 (wrap64 (x9 - 1))).f1) ((rd_T57 x0 (wrap64 (x9 - 1))).f2) ((rd_T57 x7 x9).f0) ((rd_T57 x7 x9).f1) ((rd_T57 x7 x9).f2)).bind fun t186 => (spec_ntGood.j1 k x0 x9 x7 x8 x9 (!t186) ((rd_T57 x7 x9).f0) ((rd_T57 x7 x9).f1) ((rd_T57 x7 x9).f2))) else (none)) else (none)) else (spec_ntGood.j1 k x0 x9 x7 x8 x9 false ((rd_T57 x7 x9).f0) ((rd_T57 x7 x9).f1) ((rd_T57 x7 x9).f2))) else (spec_ntGood.j1 k x0 x9 x7 x8 x9 true ((rd_T57 x7 x9).f0) ((rd_T57 x7 x9).f1) ((rd_T57 x7 x9).f2)))) else (none)) else (none)) else (some (decide ((x0.length : Int) ≤ 30)))
def spec_ntGood.j1 : Nat → List (S57) → Int → List (S57) → Int → Int → Bool → Int → Int → Int → Option (Bool)
  | 0, _, _, _, _, _, _, _, _, _ => none
  | k + 1, x0, x3, x7, x8, x9, x30, x184000, x184001, x184002 => if x30 = true then (some false) else (if 0 ≤ x3 then (if x3 ≤ (x0.length : Int) then ((some (x0.take (x3 : Int).toNat : List (S57))).bind fun y187 => (spec_ntGood.l1 k x0 x7 x8 x9 y187 (y187.length : Int) 0 x184000 x184001 x184002)) else (none)) else (none))
def spec_ntGood.l1 : Nat → List (S57) → List (S57) → Int → Int → List (S57) → Int → Int → Int → Int → Int → Option (Bool)
  | 0, _, _, _, _, _, _, _, _, _, _ => none
  | k + 1, x0, x7, x8, x9, x33, x34, x35, x184000, x184001, x184002 => if x35 < x34 then (if 0 ≤ x35 then (if x35 < (x33.length : Int) then ((spec_ntMeet.f x184000 x184001 x184002 ((rd_T57 x33 x35).f0) ((rd_T57 x33 x35).f1) ((rd_T57 x33 x35).f2)).bind fun t193 => (if t193 = true then (some false) else (spec_ntGood.l1 k x0 x7 x8 x9 x33 x34 (wrap64 (x35 + 1)) x184000 x184001 x184002))) else (none)) else (none)) else (spec_ntGood.l0 k x0 x7 x8 (wrap64 (x9 + 1)))
end
def spec_ntGood.f (k : Nat) (l0 : List (S57)) : Option (Bool) := spec_ntGood.l0 k l0 l0 (l0.length : Int) 0
instance spec_ntGood.lp0 {k : Nat} {r : Bool} {Q : Wr → Prop} {p0 : List (S57)} {p1 : List (S57)} {p2 : Int} {x9_1 : Int} : Lp (spec_ntGood.l0 k p0 p1 p2 x9_1 = some r) Q (fun k => ∀ {x9_1 : Int}, spec_ntGood.l0 k p0 p1 p2 x9_1 = some r → Q [(18, .p (.c (.v (.int .i64 x9_1))))]) k [(18, .p (.c (.v (.int .i64 x9_1))))] := ⟨fun j h => j h⟩
instance spec_ntGood.lp1 {k : Nat} {r : Bool} {Q : Wr → Prop} {p0 : List (S57)} {p1 : List (S57)} {p2 : Int} {p3 : Int} {p4 : List (S57)} {p5 : Int} {p7 : Int} {p8 : Int} {p9 : Int} {x35_3 : Int} : Lp (spec_ntGood.l1 k p0 p1 p2 p3 p4 p5 x35_3 p7 p8 p9 = some r) Q (fun k => ∀ {x35_3 : Int}, spec_ntGood.l1 k p0 p1 p2 p3 p4 p5 x35_3 p7 p8 p9 = some r → Q [(70, .p (.c (.v (.int .i64 x35_3))))]) k [(70, .p (.c (.v (.int .i64 x35_3))))] := ⟨fun j h => j h⟩
set_option maxRecDepth 8000 in
set_option maxHeartbeats 2000000 in
theorem spec_ntGood.con (k : Nat) (l0 : List (S57)) (r : Bool) (H : spec_ntGood.f k l0 = some r) : Con Try.prog 51 [.p (.c (.sl K57 l0))] (.p (.c (.v (.bool r)))) := by
  refine Con.mk' (fn := Try.f51) Try.func51 rfl (by kernel_rfl) rfl rfl rfl fun X w0 gs hF => ?_
  unfold spec_ntGood.f at H
  exact auto
instance spec_ntGood.ctr {k : Nat} {l0 : List (S57)} {r : Bool} : Ctr (spec_ntGood.f k l0 = some r) (Con Try.prog 51 [.p (.c (.sl K57 l0))] (.p (.c (.v (.bool r))))) := ⟨spec_ntGood.con _ _ _⟩
theorem spec_ntGood.calls (k : Nat) (A0 : Option Addr) (c0 : Nat) (l0 : List (S57)) (r : Bool) (w : World) (hr0 : Kd.C k57 w A0 l0.length l0) (hc0 : l0.length ≤ c0) (h : spec_ntGood.f k l0 = some r) :
    Calls Try.prog 51 #[.slice A0 l0.length c0] w fun e w' => e = .returned (.bool r) ∧ Below w.heap.size w w' :=
  (spec_ntGood.con k l0 r h).val rfl (show Args.relg (fun _ => False) w _ [.slice A0 l0.length c0] [.slice A0 l0.length c0] from ⟨_, _, rfl, ⟨rfl, A0, c0, rfl, hc0, row_of_C rfl (fun _ h => h) hr0⟩, rfl⟩)
/-! ### spec_inTrack: function 77 -/
def spec_inTrack.l0 : Nat → Int → List Int → Int → Int → Option (Int)
  | 0, _, _, _, _ => none
  | k + 1, x1, x8, x9, x10 => if x10 < x9 then (if 0 ≤ x10 then (if x10 < (x8.length : Int) then (if (rd x8 x10) = x1 then (some x10) else (spec_inTrack.l0 k x1 x8 x9 (wrap64 (x10 + 1)))) else (none)) else (none)) else (some (-1))
def spec_inTrack.f (k : Nat) (l0_0 : List Int) (a0_1 : Int) (a1 : Int) : Option (Int) := spec_inTrack.l0 k a1 l0_0 (l0_0.length : Int) 0
instance spec_inTrack.lp0 {k : Nat} {r : Int} {Q : Wr → Prop} {p0 : Int} {p1 : List Int} {p2 : Int} {x10_1 : Int} : Lp (spec_inTrack.l0 k p0 p1 p2 x10_1 = some r) Q (fun k => ∀ {x10_1 : Int}, spec_inTrack.l0 k p0 p1 p2 x10_1 = some r → Q [(20, .p (.c (.v (.int .i64 x10_1))))]) k [(20, .p (.c (.v (.int .i64 x10_1))))] := ⟨fun j h => j h⟩
set_option maxRecDepth 8000 in
set_option maxHeartbeats 2000000 in
theorem spec_inTrack.con (k : Nat) (l0_0 : List Int) (a0_1 : Int) (a1 : Int) (r : Int) (H : spec_inTrack.f k l0_0 a0_1 a1 = some r) : Con Try.prog 77 [.p (.ag [.sl (.int .i64) l0_0, .v (.int .i64 a0_1)]), .p (.c (.v (.int .i64 a1)))] (.p (.c (.v (.int .i64 r)))) := by
  refine Con.mk' (fn := Try.f77) Try.func77 rfl (by kernel_rfl) rfl rfl rfl fun X w0 gs hF => ?_
  unfold spec_inTrack.f at H
  exact auto
instance spec_inTrack.ctr {k : Nat} {l0_0 : List Int} {a0_1 : Int} {a1 : Int} {r : Int} : Ctr (spec_inTrack.f k l0_0 a0_1 a1 = some r) (Con Try.prog 77 [.p (.ag [.sl (.int .i64) l0_0, .v (.int .i64 a0_1)]), .p (.c (.v (.int .i64 a1)))] (.p (.c (.v (.int .i64 r))))) := ⟨spec_inTrack.con _ _ _ _ _⟩
/-! ### spec_l1Put: function 83 -/
def spec_l1Put.l0 : Nat → List Int → Int → Int → Option (List Int)
  | 0, _, _, _ => none
  | k + 1, x0, x1, x5 => if x5 < (x0.length : Int) then (if 0 ≤ x5 then (if (rd x0 x5) < x1 then (spec_l1Put.l0 k x0 x1 (wrap64 (x5 + 1))) else (if (rd x0 x5) = x1 then (some x0) else ((some (([] : List Int) : List Int)).bind fun y213 => (if x5 ≤ (x0.length : Int) then ((some (x0.take (x5 : Int).toNat : List Int)).bind fun y216 => (if y213.length + y216.length < 17592186044416 then ((some (y213 ++ y216 : List Int)).bind fun y220 => (if y220.length < 17592186044416 then ((some (y220 ++ [x1] : List Int)).bind fun y223 => ((some (x0.drop (x5 : Int).toNat : List Int)).bind fun y226 => (if y223.length + y226.length < 17592186044416 then (some (y223 ++ y226)) else (none)))) else (none))) else (none))) else (none))))) else (none)) else ((some (([] : List Int) : List Int)).bind fun y233 => (if 0 ≤ x5 then (if x5 ≤ (x0.length : Int) then ((some (x0.take (x5 : Int).toNat : List Int)).bind fun y236 => (if y233.length + y236.length < 17592186044416 then ((some (y233 ++ y236 : List Int)).bind fun y240 => (if y240.length < 17592186044416 then ((some (y240 ++ [x1] : List Int)).bind fun y243 => ((some (x0.drop (x5 : Int).toNat : List Int)).bind fun y246 => (if y243.length + y246.length < 17592186044416 then (some (y243 ++ y246)) else (none)))) else (none))) else (none))) else (none)) else (none)))
def spec_l1Put.f (k : Nat) (l0 : List Int) (a1 : Int) : Option (List Int) := spec_l1Put.l0 k l0 a1 0
instance spec_l1Put.lp0 {k : Nat} {r : List Int} {Q : Wr → Prop} {p0 : List Int} {p1 : Int} {x5_1 : Int} : Lp (spec_l1Put.l0 k p0 p1 x5_1 = some r) Q (fun k => ∀ {x5_1 : Int}, spec_l1Put.l0 k p0 p1 x5_1 = some r → Q [(10, .p (.c (.v (.int .i64 x5_1))))]) k [(10, .p (.c (.v (.int .i64 x5_1))))] := ⟨fun j h => j h⟩
set_option maxRecDepth 8000 in
set_option maxHeartbeats 2000000 in
theorem spec_l1Put.con (k : Nat) (l0 : List Int) (a1 : Int) (r : List Int) (H : spec_l1Put.f k l0 a1 = some r) : Con Try.prog 83 [.p (.c (.ow 3 (.int .i64) l0)), .p (.c (.v (.int .i64 a1)))] (.p (.c (.ow 3 (.int .i64) r))) := by
  refine Con.mk' (fn := Try.f83) Try.func83 rfl (by kernel_rfl) rfl rfl rfl fun X w0 gs hF => ?_
  unfold spec_l1Put.f at H
  exact auto
instance spec_l1Put.ctr {k : Nat} {l0 : List Int} {a1 : Int} {r : List Int} : Ctr (spec_l1Put.f k l0 a1 = some r) (Con Try.prog 83 [.p (.c (.ow 3 (.int .i64) l0)), .p (.c (.v (.int .i64 a1)))] (.p (.c (.ow 3 (.int .i64) r)))) := ⟨spec_l1Put.con _ _ _ _⟩
/-! ### spec_inMissing: function 64 -/
def spec_inMissing.l0 : Nat → List Int → List (S57) → Int → Int → List Int → Int → Option (List Int)
  | 0, _, _, _, _, _, _ => none
  | k + 1, x5, x8, x9, x10, x254000, x254001 => if x10 < x9 then (if 0 ≤ x10 then (if x10 < (x8.length : Int) then ((spec_inTrack.f k x254000 x254001 ((rd_T57 x8 x10).f0)).bind fun t256 => (if t256 < 0 then ((spec_l1Put.f k x5 ((rd_T57 x8 x10).f0)).bind fun t257 => (spec_inMissing.l0 k t257 x8 x9 (wrap64 (x10 + 1)) x254000 x254001)) else (spec_inMissing.l0 k x5 x8 x9 (wrap64 (x10 + 1)) x254000 x254001))) else (none)) else (none)) else (some x5)
def spec_inMissing.f (k : Nat) (l0_0 : List Int) (a0_1 : Int) (l1 : List (S57)) : Option (List Int) := spec_inMissing.l0 k ([] : List Int) l1 (l1.length : Int) 0 l0_0 a0_1
instance spec_inMissing.lp0 {k : Nat} {r : List Int} {Q : Wr → Prop} {p1 : List (S57)} {p2 : Int} {p4 : List Int} {p5 : Int} {x5_1 : List Int} {x10_1 : Int} : Lp (spec_inMissing.l0 k x5_1 p1 p2 x10_1 p4 p5 = some r) Q (fun k => ∀ {x5_1 : List Int} {x10_1 : Int}, spec_inMissing.l0 k x5_1 p1 p2 x10_1 p4 p5 = some r → Q [(10, .p (.c (.rp (Try.f64.ntmps + 5)))), (2 * (Try.f64.ntmps + 5) + 1, .row 3 (.int .i64) x5_1), (20, .p (.c (.v (.int .i64 x10_1))))]) k [(10, .p (.c (.rp (Try.f64.ntmps + 5)))), (2 * (Try.f64.ntmps + 5) + 1, .row 3 (.int .i64) x5_1), (20, .p (.c (.v (.int .i64 x10_1))))] := ⟨fun j h => j h⟩
set_option maxRecDepth 8000 in
set_option maxHeartbeats 2000000 in
theorem spec_inMissing.con (k : Nat) (l0_0 : List Int) (a0_1 : Int) (l1 : List (S57)) (r : List Int) (H : spec_inMissing.f k l0_0 a0_1 l1 = some r) : Con Try.prog 64 [.p (.ag [.sl (.int .i64) l0_0, .v (.int .i64 a0_1)]), .p (.c (.sl K57 l1))] (.p (.c (.ow 3 (.int .i64) r))) := by
  refine Con.mk' (fn := Try.f64) Try.func64 rfl (by kernel_rfl) rfl rfl rfl fun X w0 gs hF => ?_
  unfold spec_inMissing.f at H
  exact auto
instance spec_inMissing.ctr {k : Nat} {l0_0 : List Int} {a0_1 : Int} {l1 : List (S57)} {r : List Int} : Ctr (spec_inMissing.f k l0_0 a0_1 l1 = some r) (Con Try.prog 64 [.p (.ag [.sl (.int .i64) l0_0, .v (.int .i64 a0_1)]), .p (.c (.sl K57 l1))] (.p (.c (.ow 3 (.int .i64) r)))) := ⟨spec_inMissing.con _ _ _ _ _⟩
/-! ### spec_inLast: function 84 -/
def spec_inLast.l0 : Nat → List (S57) → Int → Int → Option (Int)
  | 0, _, _, _ => none
  | k + 1, x0, x1, x5 => if x5 ≥ 0 then (if 0 ≤ x5 then (if x5 < (x0.length : Int) then (if 0 ≤ x1 then (if x1 < (x0.length : Int) then (if ((rd_T57 x0 x5).f0) = ((rd_T57 x0 x1).f0) then (some x5) else (spec_inLast.l0 k x0 x1 (wrap64 (x5 - 1)))) else (none)) else (none)) else (none)) else (none)) else (some (-1))
def spec_inLast.f (k : Nat) (l0 : List (S57)) (a1 : Int) : Option (Int) := spec_inLast.l0 k l0 a1 (wrap64 (a1 - 1))
instance spec_inLast.lp0 {k : Nat} {r : Int} {Q : Wr → Prop} {p0 : List (S57)} {p1 : Int} {x5_1 : Int} : Lp (spec_inLast.l0 k p0 p1 x5_1 = some r) Q (fun k => ∀ {x5_1 : Int}, spec_inLast.l0 k p0 p1 x5_1 = some r → Q [(10, .p (.c (.v (.int .i64 x5_1))))]) k [(10, .p (.c (.v (.int .i64 x5_1))))] := ⟨fun j h => j h⟩
set_option maxRecDepth 8000 in
set_option maxHeartbeats 2000000 in
theorem spec_inLast.con (k : Nat) (l0 : List (S57)) (a1 : Int) (r : Int) (H : spec_inLast.f k l0 a1 = some r) : Con Try.prog 84 [.p (.c (.sl K57 l0)), .p (.c (.v (.int .i64 a1)))] (.p (.c (.v (.int .i64 r)))) := by
  refine Con.mk' (fn := Try.f84) Try.func84 rfl (by kernel_rfl) rfl rfl rfl fun X w0 gs hF => ?_
  unfold spec_inLast.f at H
  exact auto
instance spec_inLast.ctr {k : Nat} {l0 : List (S57)} {a1 : Int} {r : Int} : Ctr (spec_inLast.f k l0 a1 = some r) (Con Try.prog 84 [.p (.c (.sl K57 l0)), .p (.c (.v (.int .i64 a1)))] (.p (.c (.v (.int .i64 r))))) := ⟨spec_inLast.con _ _ _ _⟩
end Go.Proofs.Ytbfehdhncncgdaa.I
