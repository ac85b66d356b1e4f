/- BY EV: what the Go functions compute (read off the print), and that their calls come to it. No condition. -/
import Derived.Test.YtipcjpgonncinaaVEU
set_option linter.unusedVariables false
set_option linter.unusedSimpArgs false
namespace Go.Proofs.Ytipcjpgonncinaa.V
open Go.RowKit Go.Proofs Go.Proofs.YtipcjpgonncinaaW.PrintWords Go.Proofs.YtipcjpgonncinaaW.PrintLast EV
/-! ### spec_l1Has: function 46 -/
def spec_l1Has.l0 : Nat → Int → List Int → Int → Int → Option (Bool)
  | 0, _, _, _, _ => none
  | k + 1, x1, x7, x8, x9 => if x9 < x8 then (if 0 ≤ x9 then (if x9 < (x7.length : Int) then (if (rd x7 x9) = x1 then (some true) else (spec_l1Has.l0 k x1 x7 x8 (wrap64 (x9 + 1)))) else (none)) else (none)) else (some false)
def spec_l1Has.f (k : Nat) (l0 : List Int) (a1 : Int) : Option (Bool) := spec_l1Has.l0 k a1 l0 (l0.length : Int) 0
instance spec_l1Has.lp0 {k : Nat} {r : Bool} {Q : Wr → Prop} {p0 : Int} {p1 : List Int} {p2 : Int} {x9_1 : Int} : Lp (spec_l1Has.l0 k p0 p1 p2 x9_1 = some r) Q (fun k => ∀ {x9_1 : Int}, spec_l1Has.l0 k p0 p1 p2 x9_1 = some r → Q [(18, .p (.c (.v (.int .i64 x9_1))))]) k [(18, .p (.c (.v (.int .i64 x9_1))))] := ⟨fun j h => j h⟩
set_option maxRecDepth 8000 in
set_option maxHeartbeats 2000000 in
theorem spec_l1Has.con (k : Nat) (l0 : List Int) (a1 : Int) (r : Bool) (H : spec_l1Has.f k l0 a1 = some r) : Con Try.prog 46 [.p (.c (.sl (.int .i64) l0)), .p (.c (.v (.int .i64 a1)))] (.p (.c (.v (.bool r)))) := by
  refine Con.mk' (fn := Try.f46) Try.func46 rfl (by kernel_rfl) rfl rfl rfl fun X w0 gs hF => ?_
  unfold spec_l1Has.f at H
  exact auto
instance spec_l1Has.ctr {k : Nat} {l0 : List Int} {a1 : Int} {r : Bool} : Ctr (spec_l1Has.f k l0 a1 = some r) (Con Try.prog 46 [.p (.c (.sl (.int .i64) l0)), .p (.c (.v (.int .i64 a1)))] (.p (.c (.v (.bool r))))) := ⟨spec_l1Has.con _ _ _ _⟩
/-! ### spec_l1Own: function 70 -/
def spec_l1Own.f (l0 : List Int) : Option (List Int) := (some (([] : List Int) : List Int)).bind fun y165 => (if y165.length + l0.length < 17592186044416 then (some (y165 ++ l0)) else (none))
set_option maxRecDepth 8000 in
set_option maxHeartbeats 2000000 in
theorem spec_l1Own.con (l0 : List Int) (r : List Int) (H : spec_l1Own.f l0 = some r) : Con Try.prog 70 [.p (.c (.sl (.int .i64) l0))] (.p (.c (.ow 3 (.int .i64) r))) := by
  refine Con.mk' (fn := Try.f70) Try.func70 rfl (by kernel_rfl) rfl rfl rfl fun X w0 gs hF => ?_
  unfold spec_l1Own.f at H
  exact auto
instance spec_l1Own.ctr {l0 : List Int} {r : List Int} : Ctr (spec_l1Own.f l0 = some r) (Con Try.prog 70 [.p (.c (.sl (.int .i64) l0))] (.p (.c (.ow 3 (.int .i64) r)))) := ⟨spec_l1Own.con _ _⟩
/-! ### spec_thBefore: function 71 -/
def spec_thBefore.l0 : Nat → List Int → List Int → List Int → Int → Int → Option (Bool)
  | 0, _, _, _, _, _ => none
  | k + 1, x0, x1, x7, x8, x9 => if x9 < x8 then (if 0 ≤ x9 then (if x9 < (x7.length : Int) then (if x9 = (x1.length : Int) then (if x9 < (x1.length : Int) then (some (decide ((rd x7 x9) < (rd x1 x9)))) else (some false)) else (if x9 < (x1.length : Int) then (if (rd x7 x9) = (rd x1 x9) then (spec_thBefore.l0 k x0 x1 x7 x8 (wrap64 (x9 + 1))) else (some (decide ((rd x7 x9) < (rd x1 x9))))) else (none))) else (none)) else (none)) else (some (decide ((x0.length : Int) < (x1.length : Int))))
def spec_thBefore.f (k : Nat) (l0 : List Int) (l1 : List Int) : Option (Bool) := spec_thBefore.l0 k l0 l1 l0 (l0.length : Int) 0
instance spec_thBefore.lp0 {k : Nat} {r : Bool} {Q : Wr → Prop} {p0 : List Int} {p1 : List Int} {p2 : List Int} {p3 : Int} {x9_1 : Int} : Lp (spec_thBefore.l0 k p0 p1 p2 p3 x9_1 = some r) Q (fun k => ∀ {x9_1 : Int}, spec_thBefore.l0 k p0 p1 p2 p3 x9_1 = some r → Q [(18, .p (.c (.v (.int .i64 x9_1))))]) k [(18, .p (.c (.v (.int .i64 x9_1))))] := ⟨fun j h => j h⟩
set_option maxRecDepth 8000 in
set_option maxHeartbeats 2000000 in
theorem spec_thBefore.con (k : Nat) (l0 : List Int) (l1 : List Int) (r : Bool) (H : spec_thBefore.f k l0 l1 = some r) : Con Try.prog 71 [.p (.c (.sl (.int .i64) l0)), .p (.c (.sl (.int .i64) l1))] (.p (.c (.v (.bool r)))) := by
  refine Con.mk' (fn := Try.f71) Try.func71 rfl (by kernel_rfl) rfl rfl rfl fun X w0 gs hF => ?_
  unfold spec_thBefore.f at H
  exact auto
instance spec_thBefore.ctr {k : Nat} {l0 : List Int} {l1 : List Int} {r : Bool} : Ctr (spec_thBefore.f k l0 l1 = some r) (Con Try.prog 71 [.p (.c (.sl (.int .i64) l0)), .p (.c (.sl (.int .i64) l1))] (.p (.c (.v (.bool r))))) := ⟨spec_thBefore.con _ _ _ _⟩
/-! ### spec_thKept: function 77 -/
def spec_thKept.l0 : Nat → List (S51) → List (S51) → List Int → Int → Int → Option ((List (S51)))
  | 0, _, _, _, _, _ => none
  | k + 1, x0, x5, x8, x9, x10 => if x10 < x9 then (if 0 ≤ x10 then (if x10 < (x8.length : Int) then (if 0 ≤ (rd x8 x10) then (if (rd x8 x10) < (x0.length : Int) then (if x5.length < 5864062014805 then (spec_thKept.l0 k x0 (x5 ++ [(⟨(rd_T51 x0 (rd x8 x10)).f0, (rd_T51 x0 (rd x8 x10)).f1, (rd_T51 x0 (rd x8 x10)).f2⟩ : S51)]) x8 x9 (wrap64 (x10 + 1))) else (none)) else (none)) else (none)) else (none)) else (none)) else (some x5)
def spec_thKept.f (k : Nat) (l0 : List (S51)) (l1 : List Int) : Option ((List (S51))) := spec_thKept.l0 k l0 ([] : List (S51)) l1 (l1.length : Int) 0
instance spec_thKept.lp0 {k : Nat} {r : (List (S51))} {Q : Wr → Prop} {p0 : List (S51)} {p2 : List Int} {p3 : Int} {x5_1 : List (S51)} {x10_1 : Int} : Lp (spec_thKept.l0 k p0 x5_1 p2 p3 x10_1 = some r) Q (fun k => ∀ {x5_1 : List (S51)} {x10_1 : Int}, spec_thKept.l0 k p0 x5_1 p2 p3 x10_1 = some r → Q [(10, .p (.c (.rp (Try.f77.ntmps + 5)))), (2 * (Try.f77.ntmps + 5) + 1, .row 51 K51 x5_1), (20, .p (.c (.v (.int .i64 x10_1))))]) k [(10, .p (.c (.rp (Try.f77.ntmps + 5)))), (2 * (Try.f77.ntmps + 5) + 1, .row 51 K51 x5_1), (20, .p (.c (.v (.int .i64 x10_1))))] := ⟨fun j h => j h⟩
set_option maxRecDepth 8000 in
set_option maxHeartbeats 2000000 in
theorem spec_thKept.con (k : Nat) (l0 : List (S51)) (l1 : List Int) (r : List (S51)) (H : spec_thKept.f k l0 l1 = some r) : Con Try.prog 77 [.p (.c (.sl K51 l0)), .p (.c (.sl (.int .i64) l1))] (.p (.c (.ow 51 K51 r))) := by
  refine Con.mk' (fn := Try.f77) Try.func77 rfl (by kernel_rfl) rfl rfl rfl fun X w0 gs hF => ?_
  unfold spec_thKept.f at H
  exact auto
instance spec_thKept.ctr {k : Nat} {l0 : List (S51)} {l1 : List Int} {r : List (S51)} : Ctr (spec_thKept.f k l0 l1 = some r) (Con Try.prog 77 [.p (.c (.sl K51 l0)), .p (.c (.sl (.int .i64) l1))] (.p (.c (.ow 51 K51 r)))) := ⟨spec_thKept.con _ _ _ _⟩
/-! ### spec_inLast: function 33 -/
def spec_inLast.l0 : Nat → List (S51) → Int → Int → Option (Int)
  | 0, _, _, _ => none
  | k + 1, x0, x1, x5 => if x5 ≥ 0 then (if 0 ≤ x5 then (if x5 < (x0.length : Int) then (if 0 ≤ x1 then (if x1 < (x0.length : Int) then (if ((rd_T51 x0 x5).f0) = ((rd_T51 x0 x1).f0) then (some x5) else (spec_inLast.l0 k x0 x1 (wrap64 (x5 - 1)))) else (none)) else (none)) else (none)) else (none)) else (some (-1))
def spec_inLast.f (k : Nat) (l0 : List (S51)) (a1 : Int) : Option (Int) := spec_inLast.l0 k l0 a1 (wrap64 (a1 - 1))
instance spec_inLast.lp0 {k : Nat} {r : Int} {Q : Wr → Prop} {p0 : List (S51)} {p1 : Int} {x5_1 : Int} : Lp (spec_inLast.l0 k p0 p1 x5_1 = some r) Q (fun k => ∀ {x5_1 : Int}, spec_inLast.l0 k p0 p1 x5_1 = some r → Q [(10, .p (.c (.v (.int .i64 x5_1))))]) k [(10, .p (.c (.v (.int .i64 x5_1))))] := ⟨fun j h => j h⟩
set_option maxRecDepth 8000 in
set_option maxHeartbeats 2000000 in
theorem spec_inLast.con (k : Nat) (l0 : List (S51)) (a1 : Int) (r : Int) (H : spec_inLast.f k l0 a1 = some r) : Con Try.prog 33 [.p (.c (.sl K51 l0)), .p (.c (.v (.int .i64 a1)))] (.p (.c (.v (.int .i64 r)))) := by
  refine Con.mk' (fn := Try.f33) Try.func33 rfl (by kernel_rfl) rfl rfl rfl fun X w0 gs hF => ?_
  unfold spec_inLast.f at H
  exact auto
instance spec_inLast.ctr {k : Nat} {l0 : List (S51)} {a1 : Int} {r : Int} : Ctr (spec_inLast.f k l0 a1 = some r) (Con Try.prog 33 [.p (.c (.sl K51 l0)), .p (.c (.v (.int .i64 a1)))] (.p (.c (.v (.int .i64 r))))) := ⟨spec_inLast.con _ _ _ _⟩
/-! ### spec_inFast: function 45 -/
def spec_inFast.l0 : Nat → List (S51) → Int → List (List Int) → List (S51) → Int → Int → Option ((List (List Int)))
  | 0, _, _, _, _, _, _ => none
  | k + 1, x0, x1, x5, x9, x10, x11 => if x11 < x10 then (if 0 ≤ x11 then (if x11 < (x9.length : Int) then ((spec_inLast.f k x0 x11).bind fun t184 => (if t184 ≥ 0 then (if 0 ≤ t184 then (if t184 < (x0.length : Int) then (if (wrap64 (((rd_T51 x9 x11).f1) - ((rd_T51 x0 t184).f1))) < x1 then (if x5.length < 5864062014805 then (spec_inFast.l0 k x0 x1 (x5 ++ [(([t184, x11] : List Int))]) x9 x10 (wrap64 (x11 + 1))) else (none)) else (spec_inFast.l0 k x0 x1 x5 x9 x10 (wrap64 (x11 + 1)))) else (none)) else (none)) else (spec_inFast.l0 k x0 x1 x5 x9 x10 (wrap64 (x11 + 1))))) else (none)) else (none)) else (some x5)
def spec_inFast.f (k : Nat) (l0 : List (S51)) (a1 : Int) : Option ((List (List Int))) := spec_inFast.l0 k l0 a1 ([] : List (List Int)) l0 (l0.length : Int) 0
instance spec_inFast.lp0 {k : Nat} {r : (List (List Int))} {Q : Wr → Prop} {p0 : List (S51)} {p1 : Int} {p3 : List (S51)} {p4 : Int} {x5_1 : List (List Int)} {x11_1 : Int} : Lp (spec_inFast.l0 k p0 p1 x5_1 p3 p4 x11_1 = some r) Q (fun k => ∀ {x5_1 : List (List Int)} {x11_1 : Int}, spec_inFast.l0 k p0 p1 x5_1 p3 p4 x11_1 = some r → Q [(10, .p (.c (.rp (Try.f45.ntmps + 5)))), (2 * (Try.f45.ntmps + 5) + 1, .row 22 KL3 x5_1), (22, .p (.c (.v (.int .i64 x11_1))))]) k [(10, .p (.c (.rp (Try.f45.ntmps + 5)))), (2 * (Try.f45.ntmps + 5) + 1, .row 22 KL3 x5_1), (22, .p (.c (.v (.int .i64 x11_1))))] := ⟨fun j h => j h⟩
set_option maxRecDepth 8000 in
set_option maxHeartbeats 2000000 in
theorem spec_inFast.con (k : Nat) (l0 : List (S51)) (a1 : Int) (r : List (List Int)) (H : spec_inFast.f k l0 a1 = some r) : Con Try.prog 45 [.p (.c (.sl K51 l0)), .p (.c (.v (.int .i64 a1)))] (.p (.c (.ow 22 KL3 r))) := by
  refine Con.mk' (fn := Try.f45) Try.func45 rfl (by kernel_rfl) rfl rfl rfl fun X w0 gs hF => ?_
  unfold spec_inFast.f at H
  exact auto
instance spec_inFast.ctr {k : Nat} {l0 : List (S51)} {a1 : Int} {r : List (List Int)} : Ctr (spec_inFast.f k l0 a1 = some r) (Con Try.prog 45 [.p (.c (.sl K51 l0)), .p (.c (.v (.int .i64 a1)))] (.p (.c (.ow 22 KL3 r)))) := ⟨spec_inFast.con _ _ _ _⟩
/-! ### spec_inTrack: function 34 -/
def spec_inTrack.l0 : Nat → Int → List Int → Int → Int → Option (Int)
  | 0, _, _, _, _ => none
  | k + 1, x1, x8, x9, x10 => if x10 < x9 then (if 0 ≤ x10 then (if x10 < (x8.length : Int) then (if (rd x8 x10) = x1 then (some x10) else (spec_inTrack.l0 k x1 x8 x9 (wrap64 (x10 + 1)))) else (none)) else (none)) else (some (-1))
def spec_inTrack.f (k : Nat) (l0_0 : List Int) (a0_1 : Int) (a1 : Int) : Option (Int) := spec_inTrack.l0 k a1 l0_0 (l0_0.length : Int) 0
instance spec_inTrack.lp0 {k : Nat} {r : Int} {Q : Wr → Prop} {p0 : Int} {p1 : List Int} {p2 : Int} {x10_1 : Int} : Lp (spec_inTrack.l0 k p0 p1 p2 x10_1 = some r) Q (fun k => ∀ {x10_1 : Int}, spec_inTrack.l0 k p0 p1 p2 x10_1 = some r → Q [(20, .p (.c (.v (.int .i64 x10_1))))]) k [(20, .p (.c (.v (.int .i64 x10_1))))] := ⟨fun j h => j h⟩
set_option maxRecDepth 8000 in
set_option maxHeartbeats 2000000 in
theorem spec_inTrack.con (k : Nat) (l0_0 : List Int) (a0_1 : Int) (a1 : Int) (r : Int) (H : spec_inTrack.f k l0_0 a0_1 a1 = some r) : Con Try.prog 34 [.p (.ag [.sl (.int .i64) l0_0, .v (.int .i64 a0_1)]), .p (.c (.v (.int .i64 a1)))] (.p (.c (.v (.int .i64 r)))) := by
  refine Con.mk' (fn := Try.f34) Try.func34 rfl (by kernel_rfl) rfl rfl rfl fun X w0 gs hF => ?_
  unfold spec_inTrack.f at H
  exact auto
instance spec_inTrack.ctr {k : Nat} {l0_0 : List Int} {a0_1 : Int} {a1 : Int} {r : Int} : Ctr (spec_inTrack.f k l0_0 a0_1 a1 = some r) (Con Try.prog 34 [.p (.ag [.sl (.int .i64) l0_0, .v (.int .i64 a0_1)]), .p (.c (.v (.int .i64 a1)))] (.p (.c (.v (.int .i64 r))))) := ⟨spec_inTrack.con _ _ _ _ _⟩
/-! ### spec_l1Put: function 83 -/
def spec_l1Put.l0 : Nat → List Int → Int → Int → Option (List Int)
  | 0, _, _, _ => none
  | k + 1, x0, x1, x5 => if x5 < (x0.length : Int) then (if 0 ≤ x5 then (if (rd x0 x5) < x1 then (spec_l1Put.l0 k x0 x1 (wrap64 (x5 + 1))) else (if (rd x0 x5) = x1 then (some x0) else ((some (([] : List Int) : List Int)).bind fun y196 => (if x5 ≤ (x0.length : Int) then ((some (x0.take (x5 : Int).toNat : List Int)).bind fun y199 => (if y196.length + y199.length < 17592186044416 then ((some (y196 ++ y199 : List Int)).bind fun y203 => (if y203.length < 17592186044416 then ((some (y203 ++ [x1] : List Int)).bind fun y206 => ((some (x0.drop (x5 : Int).toNat : List Int)).bind fun y209 => (if y206.length + y209.length < 17592186044416 then (some (y206 ++ y209)) else (none)))) else (none))) else (none))) else (none))))) else (none)) else ((some (([] : List Int) : List Int)).bind fun y216 => (if 0 ≤ x5 then (if x5 ≤ (x0.length : Int) then ((some (x0.take (x5 : Int).toNat : List Int)).bind fun y219 => (if y216.length + y219.length < 17592186044416 then ((some (y216 ++ y219 : List Int)).bind fun y223 => (if y223.length < 17592186044416 then ((some (y223 ++ [x1] : List Int)).bind fun y226 => ((some (x0.drop (x5 : Int).toNat : List Int)).bind fun y229 => (if y226.length + y229.length < 17592186044416 then (some (y226 ++ y229)) else (none)))) else (none))) else (none))) else (none)) else (none)))
def spec_l1Put.f (k : Nat) (l0 : List Int) (a1 : Int) : Option (List Int) := spec_l1Put.l0 k l0 a1 0
instance spec_l1Put.lp0 {k : Nat} {r : List Int} {Q : Wr → Prop} {p0 : List Int} {p1 : Int} {x5_1 : Int} : Lp (spec_l1Put.l0 k p0 p1 x5_1 = some r) Q (fun k => ∀ {x5_1 : Int}, spec_l1Put.l0 k p0 p1 x5_1 = some r → Q [(10, .p (.c (.v (.int .i64 x5_1))))]) k [(10, .p (.c (.v (.int .i64 x5_1))))] := ⟨fun j h => j h⟩
set_option maxRecDepth 8000 in
set_option maxHeartbeats 2000000 in
theorem spec_l1Put.con (k : Nat) (l0 : List Int) (a1 : Int) (r : List Int) (H : spec_l1Put.f k l0 a1 = some r) : Con Try.prog 83 [.p (.c (.ow 3 (.int .i64) l0)), .p (.c (.v (.int .i64 a1)))] (.p (.c (.ow 3 (.int .i64) r))) := by
  refine Con.mk' (fn := Try.f83) Try.func83 rfl (by kernel_rfl) rfl rfl rfl fun X w0 gs hF => ?_
  unfold spec_l1Put.f at H
  exact auto
instance spec_l1Put.ctr {k : Nat} {l0 : List Int} {a1 : Int} {r : List Int} : Ctr (spec_l1Put.f k l0 a1 = some r) (Con Try.prog 83 [.p (.c (.ow 3 (.int .i64) l0)), .p (.c (.v (.int .i64 a1)))] (.p (.c (.ow 3 (.int .i64) r)))) := ⟨spec_l1Put.con _ _ _ _⟩
/-! ### spec_inMissing: function 80 -/
def spec_inMissing.l0 : Nat → List Int → List (S51) → Int → Int → List Int → Int → Option (List Int)
  | 0, _, _, _, _, _, _ => none
  | k + 1, x5, x8, x9, x10, x237000, x237001 => if x10 < x9 then (if 0 ≤ x10 then (if x10 < (x8.length : Int) then ((spec_inTrack.f k x237000 x237001 ((rd_T51 x8 x10).f0)).bind fun t239 => (if t239 < 0 then ((spec_l1Put.f k x5 ((rd_T51 x8 x10).f0)).bind fun t240 => (spec_inMissing.l0 k t240 x8 x9 (wrap64 (x10 + 1)) x237000 x237001)) else (spec_inMissing.l0 k x5 x8 x9 (wrap64 (x10 + 1)) x237000 x237001))) else (none)) else (none)) else (some x5)
def spec_inMissing.f (k : Nat) (l0_0 : List Int) (a0_1 : Int) (l1 : List (S51)) : Option (List Int) := spec_inMissing.l0 k ([] : List Int) l1 (l1.length : Int) 0 l0_0 a0_1
instance spec_inMissing.lp0 {k : Nat} {r : List Int} {Q : Wr → Prop} {p1 : List (S51)} {p2 : Int} {p4 : List Int} {p5 : Int} {x5_1 : List Int} {x10_1 : Int} : Lp (spec_inMissing.l0 k x5_1 p1 p2 x10_1 p4 p5 = some r) Q (fun k => ∀ {x5_1 : List Int} {x10_1 : Int}, spec_inMissing.l0 k x5_1 p1 p2 x10_1 p4 p5 = some r → Q [(10, .p (.c (.rp (Try.f80.ntmps + 5)))), (2 * (Try.f80.ntmps + 5) + 1, .row 3 (.int .i64) x5_1), (20, .p (.c (.v (.int .i64 x10_1))))]) k [(10, .p (.c (.rp (Try.f80.ntmps + 5)))), (2 * (Try.f80.ntmps + 5) + 1, .row 3 (.int .i64) x5_1), (20, .p (.c (.v (.int .i64 x10_1))))] := ⟨fun j h => j h⟩
set_option maxRecDepth 8000 in
set_option maxHeartbeats 2000000 in
theorem spec_inMissing.con (k : Nat) (l0_0 : List Int) (a0_1 : Int) (l1 : List (S51)) (r : List Int) (H : spec_inMissing.f k l0_0 a0_1 l1 = some r) : Con Try.prog 80 [.p (.ag [.sl (.int .i64) l0_0, .v (.int .i64 a0_1)]), .p (.c (.sl K51 l1))] (.p (.c (.ow 3 (.int .i64) r))) := by
  refine Con.mk' (fn := Try.f80) Try.func80 rfl (by kernel_rfl) rfl rfl rfl fun X w0 gs hF => ?_
  unfold spec_inMissing.f at H
  exact auto
instance spec_inMissing.ctr {k : Nat} {l0_0 : List Int} {a0_1 : Int} {l1 : List (S51)} {r : List Int} : Ctr (spec_inMissing.f k l0_0 a0_1 l1 = some r) (Con Try.prog 80 [.p (.ag [.sl (.int .i64) l0_0, .v (.int .i64 a0_1)]), .p (.c (.sl K51 l1))] (.p (.c (.ow 3 (.int .i64) r)))) := ⟨spec_inMissing.con _ _ _ _ _⟩
/-! ### spec_inPlays: function 78 -/
def spec_inPlays.f (k : Nat) (l0_0 : List Int) (a0_1 : Int) (l1 : List (S51)) : Option (Bool) := (spec_inMissing.f k l0_0 a0_1 l1).bind fun t244 => (if (t244.length : Int) = 0 then ((spec_inFast.f k l1 a0_1).bind fun t247 => (some ((t247.length : Int) == 0))) else (some false))
set_option maxRecDepth 8000 in
set_option maxHeartbeats 2000000 in
theorem spec_inPlays.con (k : Nat) (l0_0 : List Int) (a0_1 : Int) (l1 : List (S51)) (r : Bool) (H : spec_inPlays.f k l0_0 a0_1 l1 = some r) : Con Try.prog 78 [.p (.ag [.sl (.int .i64) l0_0, .v (.int .i64 a0_1)]), .p (.c (.sl K51 l1))] (.p (.c (.v (.bool r)))) := by
  refine Con.mk' (fn := Try.f78) Try.func78 rfl (by kernel_rfl) rfl rfl rfl fun X w0 gs hF => ?_
  unfold spec_inPlays.f at H
  exact auto
instance spec_inPlays.ctr {k : Nat} {l0_0 : List Int} {a0_1 : Int} {l1 : List (S51)} {r : Bool} : Ctr (spec_inPlays.f k l0_0 a0_1 l1 = some r) (Con Try.prog 78 [.p (.ag [.sl (.int .i64) l0_0, .v (.int .i64 a0_1)]), .p (.c (.sl K51 l1))] (.p (.c (.v (.bool r))))) := ⟨spec_inPlays.con _ _ _ _ _⟩
end Go.Proofs.Ytipcjpgonncinaa.V
