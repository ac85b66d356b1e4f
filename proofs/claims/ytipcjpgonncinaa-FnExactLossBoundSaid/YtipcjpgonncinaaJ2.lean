/- BY EV: what the Go functions compute (read off the print), and that their calls come to it. No condition. -/
import Derived.Test.YtipcjpgonncinaaJEU
import Derived.Test.YtipcjpgonncinaaJ1
set_option linter.unusedVariables false
set_option linter.unusedSimpArgs false
namespace Go.Proofs.Ytipcjpgonncinaa.J
open Go.RowKit Go.Proofs Go.Proofs.YtipcjpgonncinaaW.PrintWords Go.Proofs.YtipcjpgonncinaaW.PrintLast EV
/-! ### spec_ntGood: function 35 -/
mutual
def spec_ntGood.l0 : Nat → List (S51) → List (S51) → Int → Int → Option (Bool)
  | 0, _, _, _, _ => none
  | k + 1, x0, x7, x8, x9 => if x9 < x8 then (if 0 ≤ x9 then (if x9 < (x7.length : Int) then ((spec_ntNote.f ((rd_T51 x7 x9).f0) ((rd_T51 x7 x9).f1) ((rd_T51 x7 x9).f2)).bind fun t121 => (if t121 = true then (if x9 > 0 then (if 0 ≤ (wrap64 (x9 - 1)) then (if (wrap64 (x9 - 1)) < (x0.length : Int) then ((spec_ntBefore.f ((rd_T51 x0 (wrap64 (x9 - 1))).f0) ((rd_T51 x0 (wrap64 (x9 - 1))).f1) ((rd_T51 x0 (wrap64 (x9 - 1))).f2) ((rd_T51 x7 x9).f0) ((rd_T51 x7 x9).f1) ((rd_T51 x7 x9).f2)).bind fun t123 => (spec_ntGood.j1 k x0 x9 x7 x8 x9 (!t123) ((rd_T51 x7 x9).f0) ((rd_T51 x7 x9).f1) ((rd_T51 x7 x9).f2))) else (none)) else (none)) else (spec_ntGood.j1 k x0 x9 x7 x8 x9 false ((rd_T51 x7 x9).f0) ((rd_T51 x7 x9).f1) ((rd_T51 x7 x9).f2))) else (spec_ntGood.j1 k x0 x9 x7 x8 x9 true ((rd_T51 x7 x9).f0) ((rd_T51 x7 x9).f1) ((rd_T51 x7 x9).f2)))) else (none)) else (none)) else (some (decide ((x0.length : Int) ≤ 30)))
def spec_ntGood.j1 : Nat → List (S51) → Int → List (S51) → Int → Int → Bool → Int → Int → Int → Option (Bool)
  | 0, _, _, _, _, _, _, _, _, _ => none
  | k + 1, x0, x3, x7, x8, x9, x30, x121000, x121001, x121002 => if x30 = true then (some false) else (if 0 ≤ x3 then (if x3 ≤ (x0.length : Int) then ((some (x0.take (x3 : Int).toNat : List (S51))).bind fun y124 => (spec_ntGood.l1 k x0 x7 x8 x9 y124 (y124.length : Int) 0 x121000 x121001 x121002)) else (none)) else (none))
def spec_ntGood.l1 : Nat → List (S51) → List (S51) → Int → Int → List (S51) → Int → Int → Int → Int → Int → Option (Bool)
  | 0, _, _, _, _, _, _, _, _, _, _ => none
  | k + 1, x0, x7, x8, x9, x33, x34, x35, x121000, x121001, x121002 => if x35 < x34 then (if 0 ≤ x35 then (if x35 < (x33.length : Int) then ((spec_ntMeet.f x121000 x121001 x121002 ((rd_T51 x33 x35).f0) ((rd_T51 x33 x35).f1) ((rd_T51 x33 x35).f2)).bind fun t130 => (if t130 = true then (some false) else (spec_ntGood.l1 k x0 x7 x8 x9 x33 x34 (wrap64 (x35 + 1)) x121000 x121001 x121002))) else (none)) else (none)) else (spec_ntGood.l0 k x0 x7 x8 (wrap64 (x9 + 1)))
end
def spec_ntGood.f (k : Nat) (l0 : List (S51)) : Option (Bool) := spec_ntGood.l0 k l0 l0 (l0.length : Int) 0
instance spec_ntGood.lp0 {k : Nat} {r : Bool} {Q : Wr → Prop} {p0 : List (S51)} {p1 : List (S51)} {p2 : Int} {x9_1 : Int} : Lp (spec_ntGood.l0 k p0 p1 p2 x9_1 = some r) Q (fun k => ∀ {x9_1 : Int}, spec_ntGood.l0 k p0 p1 p2 x9_1 = some r → Q [(18, .p (.c (.v (.int .i64 x9_1))))]) k [(18, .p (.c (.v (.int .i64 x9_1))))] := ⟨fun j h => j h⟩
instance spec_ntGood.lp1 {k : Nat} {r : Bool} {Q : Wr → Prop} {p0 : List (S51)} {p1 : List (S51)} {p2 : Int} {p3 : Int} {p4 : List (S51)} {p5 : Int} {p7 : Int} {p8 : Int} {p9 : Int} {x35_3 : Int} : Lp (spec_ntGood.l1 k p0 p1 p2 p3 p4 p5 x35_3 p7 p8 p9 = some r) Q (fun k => ∀ {x35_3 : Int}, spec_ntGood.l1 k p0 p1 p2 p3 p4 p5 x35_3 p7 p8 p9 = some r → Q [(70, .p (.c (.v (.int .i64 x35_3))))]) k [(70, .p (.c (.v (.int .i64 x35_3))))] := ⟨fun j h => j h⟩
set_option maxRecDepth 8000 in
set_option maxHeartbeats 2000000 in
theorem spec_ntGood.con (k : Nat) (l0 : List (S51)) (r : Bool) (H : spec_ntGood.f k l0 = some r) : Con Try.prog 35 [.p (.c (.sl K51 l0))] (.p (.c (.v (.bool r)))) := by
  refine Con.mk' (fn := Try.f35) Try.func35 rfl (by kernel_rfl) rfl rfl rfl fun X w0 gs hF => ?_
  unfold spec_ntGood.f at H
  exact auto
instance spec_ntGood.ctr {k : Nat} {l0 : List (S51)} {r : Bool} : Ctr (spec_ntGood.f k l0 = some r) (Con Try.prog 35 [.p (.c (.sl K51 l0))] (.p (.c (.v (.bool r))))) := ⟨spec_ntGood.con _ _ _⟩
/-! ### spec_thGood: function 32 -/
def spec_thGood.f (k : Nat) (l0 : List (S51)) : Option (Bool) := (spec_ntGood.f k l0).bind fun t131 => (if t131 = true then (some (decide ((l0.length : Int) ≤ 12))) else (some false))
set_option maxRecDepth 8000 in
set_option maxHeartbeats 2000000 in
theorem spec_thGood.con (k : Nat) (l0 : List (S51)) (r : Bool) (H : spec_thGood.f k l0 = some r) : Con Try.prog 32 [.p (.c (.sl K51 l0))] (.p (.c (.v (.bool r)))) := by
  refine Con.mk' (fn := Try.f32) Try.func32 rfl (by kernel_rfl) rfl rfl rfl fun X w0 gs hF => ?_
  unfold spec_thGood.f at H
  exact auto
instance spec_thGood.ctr {k : Nat} {l0 : List (S51)} {r : Bool} : Ctr (spec_thGood.f k l0 = some r) (Con Try.prog 32 [.p (.c (.sl K51 l0))] (.p (.c (.v (.bool r))))) := ⟨spec_thGood.con _ _ _⟩
/-! ### spec_inLast: function 33 -/
def spec_inLast.l0 : Nat → List (S51) → Int → Int → Option (Int)
  | 0, _, _, _ => none
  | k + 1, x0, x1, x5 => if x5 ≥ 0 then (if 0 ≤ x5 then (if x5 < (x0.length : Int) then (if 0 ≤ x1 then (if x1 < (x0.length : Int) then (if ((rd_T51 x0 x5).f0) = ((rd_T51 x0 x1).f0) then (some x5) else (spec_inLast.l0 k x0 x1 (wrap64 (x5 - 1)))) else (none)) else (none)) else (none)) else (none)) else (some (-1))
def spec_inLast.f (k : Nat) (l0 : List (S51)) (a1 : Int) : Option (Int) := spec_inLast.l0 k l0 a1 (wrap64 (a1 - 1))
instance spec_inLast.lp0 {k : Nat} {r : Int} {Q : Wr → Prop} {p0 : List (S51)} {p1 : Int} {x5_1 : Int} : Lp (spec_inLast.l0 k p0 p1 x5_1 = some r) Q (fun k => ∀ {x5_1 : Int}, spec_inLast.l0 k p0 p1 x5_1 = some r → Q [(10, .p (.c (.v (.int .i64 x5_1))))]) k [(10, .p (.c (.v (.int .i64 x5_1))))] := ⟨fun j h => j h⟩
set_option maxRecDepth 8000 in
set_option maxHeartbeats 2000000 in
theorem spec_inLast.con (k : Nat) (l0 : List (S51)) (a1 : Int) (r : Int) (H : spec_inLast.f k l0 a1 = some r) : Con Try.prog 33 [.p (.c (.sl K51 l0)), .p (.c (.v (.int .i64 a1)))] (.p (.c (.v (.int .i64 r)))) := by
  refine Con.mk' (fn := Try.f33) Try.func33 rfl (by kernel_rfl) rfl rfl rfl fun X w0 gs hF => ?_
  unfold spec_inLast.f at H
  exact auto
instance spec_inLast.ctr {k : Nat} {l0 : List (S51)} {a1 : Int} {r : Int} : Ctr (spec_inLast.f k l0 a1 = some r) (Con Try.prog 33 [.p (.c (.sl K51 l0)), .p (.c (.v (.int .i64 a1)))] (.p (.c (.v (.int .i64 r))))) := ⟨spec_inLast.con _ _ _ _⟩
/-! ### spec_inTrack: function 34 -/
def spec_inTrack.l0 : Nat → Int → List Int → Int → Int → Option (Int)
  | 0, _, _, _, _ => none
  | k + 1, x1, x8, x9, x10 => if x10 < x9 then (if 0 ≤ x10 then (if x10 < (x8.length : Int) then (if (rd x8 x10) = x1 then (some x10) else (spec_inTrack.l0 k x1 x8 x9 (wrap64 (x10 + 1)))) else (none)) else (none)) else (some (-1))
def spec_inTrack.f (k : Nat) (l0_0 : List Int) (a0_1 : Int) (a1 : Int) : Option (Int) := spec_inTrack.l0 k a1 l0_0 (l0_0.length : Int) 0
instance spec_inTrack.lp0 {k : Nat} {r : Int} {Q : Wr → Prop} {p0 : Int} {p1 : List Int} {p2 : Int} {x10_1 : Int} : Lp (spec_inTrack.l0 k p0 p1 p2 x10_1 = some r) Q (fun k => ∀ {x10_1 : Int}, spec_inTrack.l0 k p0 p1 p2 x10_1 = some r → Q [(20, .p (.c (.v (.int .i64 x10_1))))]) k [(20, .p (.c (.v (.int .i64 x10_1))))] := ⟨fun j h => j h⟩
set_option maxRecDepth 8000 in
set_option maxHeartbeats 2000000 in
theorem spec_inTrack.con (k : Nat) (l0_0 : List Int) (a0_1 : Int) (a1 : Int) (r : Int) (H : spec_inTrack.f k l0_0 a0_1 a1 = some r) : Con Try.prog 34 [.p (.ag [.sl (.int .i64) l0_0, .v (.int .i64 a0_1)]), .p (.c (.v (.int .i64 a1)))] (.p (.c (.v (.int .i64 r)))) := by
  refine Con.mk' (fn := Try.f34) Try.func34 rfl (by kernel_rfl) rfl rfl rfl fun X w0 gs hF => ?_
  unfold spec_inTrack.f at H
  exact auto
instance spec_inTrack.ctr {k : Nat} {l0_0 : List Int} {a0_1 : Int} {a1 : Int} {r : Int} : Ctr (spec_inTrack.f k l0_0 a0_1 a1 = some r) (Con Try.prog 34 [.p (.ag [.sl (.int .i64) l0_0, .v (.int .i64 a0_1)]), .p (.c (.v (.int .i64 a1)))] (.p (.c (.v (.int .i64 r))))) := ⟨spec_inTrack.con _ _ _ _ _⟩
/-! ### spec_JoinRepeats: function 10 -/
mutual
def spec_JoinRepeats.j0 : Nat → List (S51) → Bool → List Int → Int → Option ((List (S51)) × Bool)
  | 0, _, _, _, _ => none
  | k + 1, x1, x17, x137000, x137001 => if x17 = true then (some (([] : List (S51)), false)) else (spec_JoinRepeats.l0 k ([] : List (S51)) x1 (x1.length : Int) 0 x137000 x137001)
def spec_JoinRepeats.l0 : Nat → List (S51) → List (S51) → Int → Int → List Int → Int → Option ((List (S51)) × Bool)
  | 0, _, _, _, _, _, _ => none
  | k + 1, x6, x18, x19, x20, x137000, x137001 => if x20 < x19 then (if 0 ≤ x20 then (if x20 < (x18.length : Int) then ((some (([] : List (S51)) : List (S51))).bind fun y141 => (if y141.length + x6.length < 5864062014805 then ((some (y141 ++ x6 : List (S51))).bind fun y144 => ((some (([(⟨(rd_T51 x18 x20).f0, (rd_T51 x18 x20).f1, (rd_T51 x18 x20).f2⟩ : S51)] : List (S51)) : List (S51))).bind fun y147 => (if y144.length + y147.length < 5864062014805 then ((spec_inLast.f k (y144 ++ y147) (x6.length : Int)).bind fun t153 => (if t153 < 0 then (spec_JoinRepeats.j2 k x6 t153 x18 x19 x20 true x137000 x137001 ((rd_T51 x18 x20).f0) ((rd_T51 x18 x20).f1) ((rd_T51 x18 x20).f2)) else ((spec_inTrack.f k x137000 x137001 ((rd_T51 x18 x20).f0)).bind fun t154 => (if t154 < 0 then (spec_JoinRepeats.j2 k x6 t153 x18 x19 x20 true x137000 x137001 ((rd_T51 x18 x20).f0) ((rd_T51 x18 x20).f1) ((rd_T51 x18 x20).f2)) else (if 0 ≤ t153 then (if t153 < (x6.length : Int) then (spec_JoinRepeats.j2 k x6 t153 x18 x19 x20 (decide ((wrap64 (((rd_T51 x18 x20).f1) - ((rd_T51 x6 t153).f1))) ≥ x137001)) x137000 x137001 ((rd_T51 x18 x20).f0) ((rd_T51 x18 x20).f1) ((rd_T51 x18 x20).f2)) else (none)) else (none)))))) else (none)))) else (none))) else (none)) else (none)) else ((spec_ntGood.f k x6).bind fun t164 => (if t164 = true then (some (x6, true)) else (some (([] : List (S51)), false))))
def spec_JoinRepeats.j2 : Nat → List (S51) → Int → List (S51) → Int → Int → Bool → List Int → Int → Int → Int → Int → Option ((List (S51)) × Bool)
  | 0, _, _, _, _, _, _, _, _, _, _, _ => none
  | k + 1, x6, x9, x18, x19, x20, x54, x137000, x137001, x141000, x141001, x141002 => if x54 = true then ((some (([(⟨x141000, x141001, x141002⟩ : S51)] : List (S51)) : List (S51))).bind fun y156 => (if x6.length + y156.length < 5864062014805 then (spec_JoinRepeats.l0 k (x6 ++ y156) x18 x19 (wrap64 (x20 + 1)) x137000 x137001) else (none))) else (if 0 ≤ x9 then (if x9 < (x6.length : Int) then (spec_JoinRepeats.l0 k (x6.set (x9 : Int).toNat (⟨(rd_T51 x6 x9).f0, (rd_T51 x6 x9).f1, wrap64 ((wrap64 (x141001 + x141002)) - ((rd_T51 x6 x9).f1))⟩ : S51)) x18 x19 (wrap64 (x20 + 1)) x137000 x137001) else (none)) else (none))
end
def spec_JoinRepeats.f (k : Nat) (l0_0 : List Int) (a0_1 : Int) (l1 : List (S51)) : Option ((List (S51)) × Bool) := (spec_inGood.f k l0_0 a0_1).bind fun t137 => (if t137 = true then ((spec_thGood.f k l1).bind fun t138 => (spec_JoinRepeats.j0 k l1 (!t138) l0_0 a0_1)) else (spec_JoinRepeats.j0 k l1 true l0_0 a0_1))
instance spec_JoinRepeats.lp0 {k : Nat} {r : (List (S51)) × Bool} {Q : Wr → Prop} {p1 : List (S51)} {p2 : Int} {p4 : List Int} {p5 : Int} {x6_2 : List (S51)} {x20_2 : Int} : Lp (spec_JoinRepeats.l0 k x6_2 p1 p2 x20_2 p4 p5 = some r) Q (fun k => ∀ {x6_2 : List (S51)} {x20_2 : Int}, spec_JoinRepeats.l0 k x6_2 p1 p2 x20_2 p4 p5 = some r → Q [(12, .p (.c (.rp (Try.f10.ntmps + 6)))), (2 * (Try.f10.ntmps + 6) + 1, .row 51 K51 x6_2), (40, .p (.c (.v (.int .i64 x20_2))))]) k [(12, .p (.c (.rp (Try.f10.ntmps + 6)))), (2 * (Try.f10.ntmps + 6) + 1, .row 51 K51 x6_2), (40, .p (.c (.v (.int .i64 x20_2))))] := ⟨fun j h => j h⟩
set_option maxRecDepth 8000 in
set_option maxHeartbeats 2000000 in
theorem spec_JoinRepeats.con (k : Nat) (l0_0 : List Int) (a0_1 : Int) (l1 : List (S51)) (r1 : List (S51)) (r2 : Bool) (H : spec_JoinRepeats.f k l0_0 a0_1 l1 = some (r1, r2)) : Con Try.prog 10 [.p (.ag [.sl (.int .i64) l0_0, .v (.int .i64 a0_1)]), .p (.c (.sl K51 l1))] (.tp [.c (.ow 51 K51 r1), .c (.v (.bool r2))]) := by
  refine Con.mk' (fn := Try.f10) Try.func10 rfl (by kernel_rfl) rfl rfl rfl fun X w0 gs hF => ?_
  unfold spec_JoinRepeats.f at H
  exact auto
instance spec_JoinRepeats.ctr {k : Nat} {l0_0 : List Int} {a0_1 : Int} {l1 : List (S51)} {t_ : (List (S51)) × (Bool)} : Ctr (spec_JoinRepeats.f k l0_0 a0_1 l1 = some t_) (Con Try.prog 10 [.p (.ag [.sl (.int .i64) l0_0, .v (.int .i64 a0_1)]), .p (.c (.sl K51 l1))] (.tp [.c (.ow 51 K51 t_.1), .c (.v (.bool t_.2))])) := ⟨fun h => spec_JoinRepeats.con _ _ _ _ (t_.1) (t_.2) h⟩
/-! ### laws_toIntS: function 36 -/
def laws_toIntS.l0 : Nat → List Int → List Int → Int → Option (List Int)
  | 0, _, _, _ => none
  | k + 1, x0, x3, x4 => if x4 < (x0.length : Int) then (if 0 ≤ x4 then (if x4 < (x3.length : Int) then (laws_toIntS.l0 k x0 (x3.set (x4 : Int).toNat (rd x0 x4)) (wrap64 (x4 + 1))) else (none)) else (none)) else (some x3)
def laws_toIntS.f (k : Nat) (l0 : List Int) : Option (List Int) := if 0 ≤ (l0.length : Int) then (if ((l0.length : Int) : Int).toNat ≤ 35184372088832 then (laws_toIntS.l0 k l0 (List.replicate ((l0.length : Int) : Int).toNat 0) 0) else (none)) else (none)
instance laws_toIntS.lp0 {k : Nat} {r : List Int} {Q : Wr → Prop} {p0 : List Int} {x3_1 : List Int} {x4_1 : Int} : Lp (laws_toIntS.l0 k p0 x3_1 x4_1 = some r) Q (fun k => ∀ {x3_1 : List Int} {x4_1 : Int}, laws_toIntS.l0 k p0 x3_1 x4_1 = some r → Q [(6, .p (.c (.rp (Try.f36.ntmps + 3)))), (2 * (Try.f36.ntmps + 3) + 1, .row 3 (.int .i64) x3_1), (8, .p (.c (.v (.int .i64 x4_1))))]) k [(6, .p (.c (.rp (Try.f36.ntmps + 3)))), (2 * (Try.f36.ntmps + 3) + 1, .row 3 (.int .i64) x3_1), (8, .p (.c (.v (.int .i64 x4_1))))] := ⟨fun j h => j h⟩
set_option maxRecDepth 8000 in
set_option maxHeartbeats 2000000 in
theorem laws_toIntS.con (k : Nat) (l0 : List Int) (r : List Int) (H : laws_toIntS.f k l0 = some r) : Con Try.prog 36 [.p (.c (.sl (.int .i64) l0))] (.p (.c (.ow 3 (.int .i64) r))) := by
  refine Con.mk' (fn := Try.f36) Try.func36 rfl (by kernel_rfl) rfl rfl rfl fun X w0 gs hF => ?_
  unfold laws_toIntS.f at H
  exact auto
instance laws_toIntS.ctr {k : Nat} {l0 : List Int} {r : List Int} : Ctr (laws_toIntS.f k l0 = some r) (Con Try.prog 36 [.p (.c (.sl (.int .i64) l0))] (.p (.c (.ow 3 (.int .i64) r)))) := ⟨laws_toIntS.con _ _ _⟩
/-! ### laws_toInstrument: function 11 -/
def laws_toInstrument.f (k : Nat) (l0_0 : List Int) (a0_1 : Int) : Option (List Int × Int) := (laws_toIntS.f k l0_0).bind fun t173 => (some (t173, a0_1))
set_option maxRecDepth 8000 in
set_option maxHeartbeats 2000000 in
theorem laws_toInstrument.con (k : Nat) (l0_0 : List Int) (a0_1 : Int) (r1 : List Int) (r2 : Int) (H : laws_toInstrument.f k l0_0 a0_1 = some (r1, r2)) : Con Try.prog 11 [.p (.ag [.sl (.int .i64) l0_0, .v (.int .i64 a0_1)])] (.p (.ag [.ow 3 (.int .i64) r1, .v (.int .i64 r2)])) := by
  refine Con.mk' (fn := Try.f11) Try.func11 rfl (by kernel_rfl) rfl rfl rfl fun X w0 gs hF => ?_
  unfold laws_toInstrument.f at H
  exact auto
instance laws_toInstrument.ctr {k : Nat} {l0_0 : List Int} {a0_1 : Int} {t_ : (List Int) × (Int)} : Ctr (laws_toInstrument.f k l0_0 a0_1 = some t_) (Con Try.prog 11 [.p (.ag [.sl (.int .i64) l0_0, .v (.int .i64 a0_1)])] (.p (.ag [.ow 3 (.int .i64) t_.1, .v (.int .i64 t_.2)]))) := ⟨fun h => laws_toInstrument.con _ _ _ (t_.1) (t_.2) h⟩
/-! ### laws_toNote: function 37 -/
def laws_toNote.f (a0_0 : Int) (a0_1 : Int) (a0_2 : Int) : Option (Int × Int × Int) := some (a0_0, a0_1, a0_2)
set_option maxRecDepth 8000 in
set_option maxHeartbeats 2000000 in
theorem laws_toNote.con (a0_0 : Int) (a0_1 : Int) (a0_2 : Int) (r1 : Int) (r2 : Int) (r3 : Int) (H : laws_toNote.f a0_0 a0_1 a0_2 = some (r1, r2, r3)) : Con Try.prog 37 [.p (.ag [.v (.int .i64 a0_0), .v (.int .i64 a0_1), .v (.int .i64 a0_2)])] (.p (.ag [.v (.int .i64 r1), .v (.int .i64 r2), .v (.int .i64 r3)])) := by
  refine Con.mk' (fn := Try.f37) Try.func37 rfl (by kernel_rfl) rfl rfl rfl fun X w0 gs hF => ?_
  unfold laws_toNote.f at H
  exact auto
instance laws_toNote.ctr {a0_0 : Int} {a0_1 : Int} {a0_2 : Int} {t_ : (Int) × (Int) × (Int)} : Ctr (laws_toNote.f a0_0 a0_1 a0_2 = some t_) (Con Try.prog 37 [.p (.ag [.v (.int .i64 a0_0), .v (.int .i64 a0_1), .v (.int .i64 a0_2)])] (.p (.ag [.v (.int .i64 t_.1), .v (.int .i64 t_.2.1), .v (.int .i64 t_.2.2)]))) := ⟨fun h => laws_toNote.con _ _ _ (t_.1) (t_.2.1) (t_.2.2) h⟩
/-! ### laws_toNoteS: function 12 -/
def laws_toNoteS.l0 : Nat → List (S54) → List (S51) → Int → Option ((List (S51)))
  | 0, _, _, _ => none
  | k + 1, x0, x3, x4 => if x4 < (x0.length : Int) then (if 0 ≤ x4 then ((laws_toNote.f ((rd_T54 x0 x4).f0) ((rd_T54 x0 x4).f1) ((rd_T54 x0 x4).f2)).bind fun bt183 => (if x4 < (x3.length : Int) then (laws_toNoteS.l0 k x0 (x3.set (x4 : Int).toNat (⟨bt183.1, bt183.2.1, bt183.2.2⟩ : S51)) (wrap64 (x4 + 1))) else (none))) else (none)) else (some x3)
def laws_toNoteS.f (k : Nat) (l0 : List (S54)) : Option ((List (S51))) := if 0 ≤ (l0.length : Int) then (if ((l0.length : Int) : Int).toNat ≤ 11728124029610 then (laws_toNoteS.l0 k l0 (List.replicate ((l0.length : Int) : Int).toNat z51) 0) else (none)) else (none)
instance laws_toNoteS.lp0 {k : Nat} {r : (List (S51))} {Q : Wr → Prop} {p0 : List (S54)} {x3_1 : List (S51)} {x4_1 : Int} : Lp (laws_toNoteS.l0 k p0 x3_1 x4_1 = some r) Q (fun k => ∀ {x3_1 : List (S51)} {x4_1 : Int}, laws_toNoteS.l0 k p0 x3_1 x4_1 = some r → Q [(6, .p (.c (.rp (Try.f12.ntmps + 3)))), (2 * (Try.f12.ntmps + 3) + 1, .row 51 K51 x3_1), (8, .p (.c (.v (.int .i64 x4_1))))]) k [(6, .p (.c (.rp (Try.f12.ntmps + 3)))), (2 * (Try.f12.ntmps + 3) + 1, .row 51 K51 x3_1), (8, .p (.c (.v (.int .i64 x4_1))))] := ⟨fun j h => j h⟩
set_option maxRecDepth 8000 in
set_option maxHeartbeats 2000000 in
theorem laws_toNoteS.con (k : Nat) (l0 : List (S54)) (r : List (S51)) (H : laws_toNoteS.f k l0 = some r) : Con Try.prog 12 [.p (.c (.sl K54 l0))] (.p (.c (.ow 51 K51 r))) := by
  refine Con.mk' (fn := Try.f12) Try.func12 rfl (by kernel_rfl) rfl rfl rfl fun X w0 gs hF => ?_
  unfold laws_toNoteS.f at H
  exact auto
instance laws_toNoteS.ctr {k : Nat} {l0 : List (S54)} {r : List (S51)} : Ctr (laws_toNoteS.f k l0 = some r) (Con Try.prog 12 [.p (.c (.sl K54 l0))] (.p (.c (.ow 51 K51 r)))) := ⟨laws_toNoteS.con _ _ _⟩
/-! ### impl_isPitch: function 59 -/
def impl_isPitch.f (a0 : Int) : Option (Bool) := if a0 ≥ 24 then (some (decide (a0 ≤ 96))) else (some false)
set_option maxRecDepth 8000 in
set_option maxHeartbeats 2000000 in
theorem impl_isPitch.con (a0 : Int) (r : Bool) (H : impl_isPitch.f a0 = some r) : Con Try.prog 59 [.p (.c (.v (.int .i64 a0)))] (.p (.c (.v (.bool r)))) := by
  refine Con.mk' (fn := Try.f59) Try.func59 rfl (by kernel_rfl) rfl rfl rfl fun X w0 gs hF => ?_
  unfold impl_isPitch.f at H
  exact auto
instance impl_isPitch.ctr {a0 : Int} {r : Bool} : Ctr (impl_isPitch.f a0 = some r) (Con Try.prog 59 [.p (.c (.v (.int .i64 a0)))] (.p (.c (.v (.bool r))))) := ⟨impl_isPitch.con _ _⟩
end Go.Proofs.Ytipcjpgonncinaa.J
