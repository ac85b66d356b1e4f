/- BY EV: what the Go functions compute (read off the print), and that their calls come to it. No condition. -/
import Derived.Test.YtlhhjdlaljmppaaTEU
import Derived.Test.YtlhhjdlaljmppaaT4
set_option linter.unusedVariables false
set_option linter.unusedSimpArgs false
namespace Go.Proofs.Ytlhhjdlaljmppaa.T
open Go.RowKit Go.Proofs Go.Proofs.YtlhhjdlaljmppaaW.PrintWords Go.Proofs.YtlhhjdlaljmppaaW.PrintLast EV
/-! ### spec_inGood: function 47 -/
def spec_inGood.f (k : Nat) (l0_0 : List Int) (a0_1 : Int) : Option (Bool) := (spec_l1In.f (l0_0.length : Int) 1 20).bind fun t348 => (if t348 = true then ((spec_l1Rising.f k l0_0 24 96).bind fun t349 => (if t349 = true then ((spec_l1In.f a0_1 1 20).bind fun t350 => (some t350)) else (some false))) else (some false))
set_option maxRecDepth 8000 in
set_option maxHeartbeats 2000000 in
theorem spec_inGood.con (k : Nat) (l0_0 : List Int) (a0_1 : Int) (r : Bool) (H : spec_inGood.f k l0_0 a0_1 = some r) : Con Try.prog 47 [.p (.ag [.sl (.int .i64) l0_0, .v (.int .i64 a0_1)])] (.p (.c (.v (.bool r)))) := by
  refine Con.mk' (fn := Try.f47) Try.func47 rfl (by kernel_rfl) rfl rfl rfl fun X w0 gs hF => ?_
  unfold spec_inGood.f at H
  exact auto
instance spec_inGood.ctr {k : Nat} {l0_0 : List Int} {a0_1 : Int} {r : Bool} : Ctr (spec_inGood.f k l0_0 a0_1 = some r) (Con Try.prog 47 [.p (.ag [.sl (.int .i64) l0_0, .v (.int .i64 a0_1)])] (.p (.c (.v (.bool r))))) := ⟨spec_inGood.con _ _ _ _⟩
/-! ### spec_inAsked: function 27 -/
def spec_inAsked.f (k : Nat) (l0_0 : List Int) (a0_1 : Int) (l1 : List (S60)) : Option (Bool) := (spec_inGood.f k l0_0 a0_1).bind fun t352 => (if t352 = true then ((spec_ntGood.f k l1).bind fun t353 => (some t353)) else (some false))
set_option maxRecDepth 8000 in
set_option maxHeartbeats 2000000 in
theorem spec_inAsked.con (k : Nat) (l0_0 : List Int) (a0_1 : Int) (l1 : List (S60)) (r : Bool) (H : spec_inAsked.f k l0_0 a0_1 l1 = some r) : Con Try.prog 27 [.p (.ag [.sl (.int .i64) l0_0, .v (.int .i64 a0_1)]), .p (.c (.sl K60 l1))] (.p (.c (.v (.bool r)))) := by
  refine Con.mk' (fn := Try.f27) Try.func27 rfl (by kernel_rfl) rfl rfl rfl fun X w0 gs hF => ?_
  unfold spec_inAsked.f at H
  exact auto
instance spec_inAsked.ctr {k : Nat} {l0_0 : List Int} {a0_1 : Int} {l1 : List (S60)} {r : Bool} : Ctr (spec_inAsked.f k l0_0 a0_1 l1 = some r) (Con Try.prog 27 [.p (.ag [.sl (.int .i64) l0_0, .v (.int .i64 a0_1)]), .p (.c (.sl K60 l1))] (.p (.c (.v (.bool r))))) := ⟨spec_inAsked.con _ _ _ _ _⟩
/-! ### spec_ntChanged: function 38 -/
def spec_ntChanged.l0 : Nat → Int → Int → List (S60) → List (S60) → Int → Int → Option ((List (S60)) × Bool)
  | 0, _, _, _, _, _, _ => none
  | k + 1, x1, x2, x8, x11, x12, x13 => if x13 < x12 then (if 0 ≤ x13 then (if x13 < (x11.length : Int) then (if x8.length < 5864062014805 then (spec_ntChanged.l0 k x1 x2 (x8 ++ [(⟨wrap64 (((rd_T60 x11 x13).f0) + x1), wrap64 (((rd_T60 x11 x13).f1) + x2), (rd_T60 x11 x13).f2⟩ : S60)]) x11 x12 (wrap64 (x13 + 1))) else (none)) else (none)) else (none)) else ((spec_ntGood.f k x8).bind fun t359 => (if t359 = true then (some (x8, true)) else (some (([] : List (S60)), false))))
def spec_ntChanged.f (k : Nat) (l0 : List (S60)) (a1 : Int) (a2 : Int) : Option ((List (S60)) × Bool) := spec_ntChanged.l0 k a1 a2 ([] : List (S60)) l0 (l0.length : Int) 0
instance spec_ntChanged.lp0 {k : Nat} {r : (List (S60)) × Bool} {Q : Wr → Prop} {p0 : Int} {p1 : Int} {p3 : List (S60)} {p4 : Int} {x8_1 : List (S60)} {x13_1 : Int} : Lp (spec_ntChanged.l0 k p0 p1 x8_1 p3 p4 x13_1 = some r) Q (fun k => ∀ {x8_1 : List (S60)} {x13_1 : Int}, spec_ntChanged.l0 k p0 p1 x8_1 p3 p4 x13_1 = some r → Q [(16, .p (.c (.rp (Try.f38.ntmps + 8)))), (2 * (Try.f38.ntmps + 8) + 1, .row 60 K60 x8_1), (26, .p (.c (.v (.int .i64 x13_1))))]) k [(16, .p (.c (.rp (Try.f38.ntmps + 8)))), (2 * (Try.f38.ntmps + 8) + 1, .row 60 K60 x8_1), (26, .p (.c (.v (.int .i64 x13_1))))] := ⟨fun j h => j h⟩
set_option maxRecDepth 8000 in
set_option maxHeartbeats 2000000 in
theorem spec_ntChanged.con (k : Nat) (l0 : List (S60)) (a1 : Int) (a2 : Int) (r1 : List (S60)) (r2 : Bool) (H : spec_ntChanged.f k l0 a1 a2 = some (r1, r2)) : Con Try.prog 38 [.p (.c (.sl K60 l0)), .p (.c (.v (.int .i64 a1))), .p (.c (.v (.int .i64 a2)))] (.tp [.c (.ow 60 K60 r1), .c (.v (.bool r2))]) := by
  refine Con.mk' (fn := Try.f38) Try.func38 rfl (by kernel_rfl) rfl rfl rfl fun X w0 gs hF => ?_
  unfold spec_ntChanged.f at H
  exact auto
instance spec_ntChanged.ctr {k : Nat} {l0 : List (S60)} {a1 : Int} {a2 : Int} {t_ : (List (S60)) × (Bool)} : Ctr (spec_ntChanged.f k l0 a1 a2 = some t_) (Con Try.prog 38 [.p (.c (.sl K60 l0)), .p (.c (.v (.int .i64 a1))), .p (.c (.v (.int .i64 a2)))] (.tp [.c (.ow 60 K60 t_.1), .c (.v (.bool t_.2))])) := ⟨fun h => spec_ntChanged.con _ _ _ _ (t_.1) (t_.2) h⟩
/-! ### impl_isPitch: function 43 -/
def impl_isPitch.f (a0 : Int) : Option (Bool) := if a0 ≥ 24 then (some (decide (a0 ≤ 96))) else (some false)
set_option maxRecDepth 8000 in
set_option maxHeartbeats 2000000 in
theorem impl_isPitch.con (a0 : Int) (r : Bool) (H : impl_isPitch.f a0 = some r) : Con Try.prog 43 [.p (.c (.v (.int .i64 a0)))] (.p (.c (.v (.bool r)))) := by
  refine Con.mk' (fn := Try.f43) Try.func43 rfl (by kernel_rfl) rfl rfl rfl fun X w0 gs hF => ?_
  unfold impl_isPitch.f at H
  exact auto
instance impl_isPitch.ctr {a0 : Int} {r : Bool} : Ctr (impl_isPitch.f a0 = some r) (Con Try.prog 43 [.p (.c (.v (.int .i64 a0)))] (.p (.c (.v (.bool r))))) := ⟨impl_isPitch.con _ _⟩
/-! ### impl_IsInstrument: function 22 -/
mutual
def impl_IsInstrument.j0 : Nat → Bool → List Int → Int → Option (Bool)
  | 0, _, _, _ => none
  | k + 1, x24, x361000, x361001 => if x24 = true then (some false) else (impl_IsInstrument.l0 k x361000 (x361000.length : Int) 0 x361000 x361001)
def impl_IsInstrument.l0 : Nat → List Int → Int → Int → List Int → Int → Option (Bool)
  | 0, _, _, _, _, _ => none
  | k + 1, x26, x27, x28, x361000, x361001 => if x28 < x27 then (if 0 ≤ x28 then (if x28 < (x26.length : Int) then ((impl_isPitch.f (rd x26 x28)).bind fun t362 => (if t362 = true then (if x28 > 0 then (if 0 ≤ (wrap64 (x28 - 1)) then (if (wrap64 (x28 - 1)) < (x361000.length : Int) then (if (rd x26 x28) ≤ (rd x361000 (wrap64 (x28 - 1))) then (some false) else (impl_IsInstrument.l0 k x26 x27 (wrap64 (x28 + 1)) x361000 x361001)) else (none)) else (none)) else (impl_IsInstrument.l0 k x26 x27 (wrap64 (x28 + 1)) x361000 x361001)) else (some false))) else (none)) else (none)) else (some true)
end
def impl_IsInstrument.f (k : Nat) (l0_0 : List Int) (a0_1 : Int) : Option (Bool) := if (l0_0.length : Int) < 1 then (impl_IsInstrument.j0 k true l0_0 a0_1) else (if (l0_0.length : Int) > 20 then (impl_IsInstrument.j0 k true l0_0 a0_1) else (if a0_1 < 1 then (impl_IsInstrument.j0 k true l0_0 a0_1) else (impl_IsInstrument.j0 k (decide (a0_1 > 20)) l0_0 a0_1)))
instance impl_IsInstrument.lp0 {k : Nat} {r : Bool} {Q : Wr → Prop} {p0 : List Int} {p1 : Int} {p3 : List Int} {p4 : Int} {x28_2 : Int} : Lp (impl_IsInstrument.l0 k p0 p1 x28_2 p3 p4 = some r) Q (fun k => ∀ {x28_2 : Int}, impl_IsInstrument.l0 k p0 p1 x28_2 p3 p4 = some r → Q [(56, .p (.c (.v (.int .i64 x28_2))))]) k [(56, .p (.c (.v (.int .i64 x28_2))))] := ⟨fun j h => j h⟩
set_option maxRecDepth 8000 in
set_option maxHeartbeats 2000000 in
theorem impl_IsInstrument.con (k : Nat) (l0_0 : List Int) (a0_1 : Int) (r : Bool) (H : impl_IsInstrument.f k l0_0 a0_1 = some r) : Con Try.prog 22 [.p (.ag [.sl (.int .i64) l0_0, .v (.int .i64 a0_1)])] (.p (.c (.v (.bool r)))) := by
  refine Con.mk' (fn := Try.f22) Try.func22 rfl (by kernel_rfl) rfl rfl rfl fun X w0 gs hF => ?_
  unfold impl_IsInstrument.f at H
  exact auto
instance impl_IsInstrument.ctr {k : Nat} {l0_0 : List Int} {a0_1 : Int} {r : Bool} : Ctr (impl_IsInstrument.f k l0_0 a0_1 = some r) (Con Try.prog 22 [.p (.ag [.sl (.int .i64) l0_0, .v (.int .i64 a0_1)])] (.p (.c (.v (.bool r))))) := ⟨impl_IsInstrument.con _ _ _ _⟩
/-! ### slices_Index_int_int: function 55 -/
def slices_Index_int_int.l0 : Nat → List Int → Int → Int → Int → Option (Int)
  | 0, _, _, _, _ => none
  | k + 1, x0, x1, x7, x8 => if x8 < x7 then (if 0 ≤ x8 then (if x8 < (x0.length : Int) then (if x1 = (rd x0 x8) then (some x8) else (slices_Index_int_int.l0 k x0 x1 x7 (wrap64 (x8 + 1)))) else (none)) else (none)) else (some (-1))
def slices_Index_int_int.f (k : Nat) (l0 : List Int) (a1 : Int) : Option (Int) := slices_Index_int_int.l0 k l0 a1 (l0.length : Int) 0
instance slices_Index_int_int.lp0 {k : Nat} {r : Int} {Q : Wr → Prop} {p0 : List Int} {p1 : Int} {p2 : Int} {x8_1 : Int} : Lp (slices_Index_int_int.l0 k p0 p1 p2 x8_1 = some r) Q (fun k => ∀ {x8_1 : Int}, slices_Index_int_int.l0 k p0 p1 p2 x8_1 = some r → Q [(16, .p (.c (.v (.int .i64 x8_1))))]) k [(16, .p (.c (.v (.int .i64 x8_1))))] := ⟨fun j h => j h⟩
set_option maxRecDepth 8000 in
set_option maxHeartbeats 2000000 in
theorem slices_Index_int_int.con (k : Nat) (l0 : List Int) (a1 : Int) (r : Int) (H : slices_Index_int_int.f k l0 a1 = some r) : Con Try.prog 55 [.p (.c (.sl (.int .i64) l0)), .p (.c (.v (.int .i64 a1)))] (.p (.c (.v (.int .i64 r)))) := by
  refine Con.mk' (fn := Try.f55) Try.func55 rfl (by kernel_rfl) rfl rfl rfl fun X w0 gs hF => ?_
  unfold slices_Index_int_int.f at H
  exact auto
instance slices_Index_int_int.ctr {k : Nat} {l0 : List Int} {a1 : Int} {r : Int} : Ctr (slices_Index_int_int.f k l0 a1 = some r) (Con Try.prog 55 [.p (.c (.sl (.int .i64) l0)), .p (.c (.v (.int .i64 a1)))] (.p (.c (.v (.int .i64 r))))) := ⟨slices_Index_int_int.con _ _ _ _⟩
/-! ### slices_Contains_int_int: function 39 -/
def slices_Contains_int_int.f (k : Nat) (l0 : List Int) (a1 : Int) : Option (Bool) := (slices_Index_int_int.f k l0 a1).bind fun t365 => (some (decide (t365 ≥ 0)))
set_option maxRecDepth 8000 in
set_option maxHeartbeats 2000000 in
theorem slices_Contains_int_int.con (k : Nat) (l0 : List Int) (a1 : Int) (r : Bool) (H : slices_Contains_int_int.f k l0 a1 = some r) : Con Try.prog 39 [.p (.c (.sl (.int .i64) l0)), .p (.c (.v (.int .i64 a1)))] (.p (.c (.v (.bool r)))) := by
  refine Con.mk' (fn := Try.f39) Try.func39 rfl (by kernel_rfl) rfl rfl rfl fun X w0 gs hF => ?_
  unfold slices_Contains_int_int.f at H
  exact auto
instance slices_Contains_int_int.ctr {k : Nat} {l0 : List Int} {a1 : Int} {r : Bool} : Ctr (slices_Contains_int_int.f k l0 a1 = some r) (Con Try.prog 39 [.p (.c (.sl (.int .i64) l0)), .p (.c (.v (.int .i64 a1)))] (.p (.c (.v (.bool r))))) := ⟨slices_Contains_int_int.con _ _ _ _⟩
/-! ### impl_transposeLoss: function 26 -/
def impl_transposeLoss.l0 : Nat → Int → Int → List (S60) → Int → Int → List Int → Int → Option (Int)
  | 0, _, _, _, _, _, _, _ => none
  | k + 1, x2, x7, x10, x11, x12, x367000, x367001 => if x12 < x11 then (if 0 ≤ x12 then (if x12 < (x10.length : Int) then ((slices_Contains_int_int.f k x367000 (wrap64 (((rd_T60 x10 x12).f0) + x2))).bind fun t369 => (if t369 = true then (impl_transposeLoss.l0 k x2 x7 x10 x11 (wrap64 (x12 + 1)) x367000 x367001) else (impl_transposeLoss.l0 k x2 (wrap64 (x7 + 1)) x10 x11 (wrap64 (x12 + 1)) x367000 x367001))) else (none)) else (none)) else (some x7)
def impl_transposeLoss.f (k : Nat) (l0_0 : List Int) (a0_1 : Int) (l1 : List (S60)) (a2 : Int) : Option (Int) := impl_transposeLoss.l0 k a2 0 l1 (l1.length : Int) 0 l0_0 a0_1
instance impl_transposeLoss.lp0 {k : Nat} {r : Int} {Q : Wr → Prop} {p0 : Int} {p2 : List (S60)} {p3 : Int} {p5 : List Int} {p6 : Int} {x7_1 : Int} {x12_1 : Int} : Lp (impl_transposeLoss.l0 k p0 x7_1 p2 p3 x12_1 p5 p6 = some r) Q (fun k => ∀ {x7_1 : Int} {x12_1 : Int}, impl_transposeLoss.l0 k p0 x7_1 p2 p3 x12_1 p5 p6 = some r → Q [(14, .p (.c (.v (.int .i64 x7_1)))), (24, .p (.c (.v (.int .i64 x12_1))))]) k [(14, .p (.c (.v (.int .i64 x7_1)))), (24, .p (.c (.v (.int .i64 x12_1))))] := ⟨fun j h => j h⟩
set_option maxRecDepth 8000 in
set_option maxHeartbeats 2000000 in
theorem impl_transposeLoss.con (k : Nat) (l0_0 : List Int) (a0_1 : Int) (l1 : List (S60)) (a2 : Int) (r : Int) (H : impl_transposeLoss.f k l0_0 a0_1 l1 a2 = some r) : Con Try.prog 26 [.p (.ag [.sl (.int .i64) l0_0, .v (.int .i64 a0_1)]), .p (.c (.sl K60 l1)), .p (.c (.v (.int .i64 a2)))] (.p (.c (.v (.int .i64 r)))) := by
  refine Con.mk' (fn := Try.f26) Try.func26 rfl (by kernel_rfl) rfl rfl rfl fun X w0 gs hF => ?_
  unfold impl_transposeLoss.f at H
  exact auto
instance impl_transposeLoss.ctr {k : Nat} {l0_0 : List Int} {a0_1 : Int} {l1 : List (S60)} {a2 : Int} {r : Int} : Ctr (impl_transposeLoss.f k l0_0 a0_1 l1 a2 = some r) (Con Try.prog 26 [.p (.ag [.sl (.int .i64) l0_0, .v (.int .i64 a0_1)]), .p (.c (.sl K60 l1)), .p (.c (.v (.int .i64 a2)))] (.p (.c (.v (.int .i64 r))))) := ⟨impl_transposeLoss.con _ _ _ _ _ _⟩
/-! ### spec_trOrder: function 28 -/
def spec_trOrder.l0 : Nat → Int → List Int → Int → Option (List Int)
  | 0, _, _, _ => none
  | k + 1, x0, x3, x4 => if x4 ≤ x0 then ((some (([wrap64 (-x4), x4] : List Int) : List Int)).bind fun y373 => (if x3.length + y373.length < 17592186044416 then (spec_trOrder.l0 k x0 (x3 ++ y373) (wrap64 (x4 + 1))) else (none))) else (some x3)
def spec_trOrder.f (k : Nat) (a0 : Int) : Option (List Int) := spec_trOrder.l0 k a0 (([0] : List Int)) 1
instance spec_trOrder.lp0 {k : Nat} {r : List Int} {Q : Wr → Prop} {p0 : Int} {x3_1 : List Int} {x4_1 : Int} : Lp (spec_trOrder.l0 k p0 x3_1 x4_1 = some r) Q (fun k => ∀ {x3_1 : List Int} {x4_1 : Int}, spec_trOrder.l0 k p0 x3_1 x4_1 = some r → Q [(6, .p (.c (.rp (Try.f28.ntmps + 3)))), (2 * (Try.f28.ntmps + 3) + 1, .row 3 (.int .i64) x3_1), (8, .p (.c (.v (.int .i64 x4_1))))]) k [(6, .p (.c (.rp (Try.f28.ntmps + 3)))), (2 * (Try.f28.ntmps + 3) + 1, .row 3 (.int .i64) x3_1), (8, .p (.c (.v (.int .i64 x4_1))))] := ⟨fun j h => j h⟩
set_option maxRecDepth 8000 in
set_option maxHeartbeats 2000000 in
theorem spec_trOrder.con (k : Nat) (a0 : Int) (r : List Int) (H : spec_trOrder.f k a0 = some r) : Con Try.prog 28 [.p (.c (.v (.int .i64 a0)))] (.p (.c (.ow 3 (.int .i64) r))) := by
  refine Con.mk' (fn := Try.f28) Try.func28 rfl (by kernel_rfl) rfl rfl rfl fun X w0 gs hF => ?_
  unfold spec_trOrder.f at H
  exact auto
instance spec_trOrder.ctr {k : Nat} {a0 : Int} {r : List Int} : Ctr (spec_trOrder.f k a0 = some r) (Con Try.prog 28 [.p (.c (.v (.int .i64 a0)))] (.p (.c (.ow 3 (.int .i64) r)))) := ⟨spec_trOrder.con _ _ _⟩
/-! ### spec_inTrack: function 48 -/
def spec_inTrack.l0 : Nat → Int → List Int → Int → Int → Option (Int)
  | 0, _, _, _, _ => none
  | k + 1, x1, x8, x9, x10 => if x10 < x9 then (if 0 ≤ x10 then (if x10 < (x8.length : Int) then (if (rd x8 x10) = x1 then (some x10) else (spec_inTrack.l0 k x1 x8 x9 (wrap64 (x10 + 1)))) else (none)) else (none)) else (some (-1))
def spec_inTrack.f (k : Nat) (l0_0 : List Int) (a0_1 : Int) (a1 : Int) : Option (Int) := spec_inTrack.l0 k a1 l0_0 (l0_0.length : Int) 0
instance spec_inTrack.lp0 {k : Nat} {r : Int} {Q : Wr → Prop} {p0 : Int} {p1 : List Int} {p2 : Int} {x10_1 : Int} : Lp (spec_inTrack.l0 k p0 p1 p2 x10_1 = some r) Q (fun k => ∀ {x10_1 : Int}, spec_inTrack.l0 k p0 p1 p2 x10_1 = some r → Q [(20, .p (.c (.v (.int .i64 x10_1))))]) k [(20, .p (.c (.v (.int .i64 x10_1))))] := ⟨fun j h => j h⟩
set_option maxRecDepth 8000 in
set_option maxHeartbeats 2000000 in
theorem spec_inTrack.con (k : Nat) (l0_0 : List Int) (a0_1 : Int) (a1 : Int) (r : Int) (H : spec_inTrack.f k l0_0 a0_1 a1 = some r) : Con Try.prog 48 [.p (.ag [.sl (.int .i64) l0_0, .v (.int .i64 a0_1)]), .p (.c (.v (.int .i64 a1)))] (.p (.c (.v (.int .i64 r)))) := by
  refine Con.mk' (fn := Try.f48) Try.func48 rfl (by kernel_rfl) rfl rfl rfl fun X w0 gs hF => ?_
  unfold spec_inTrack.f at H
  exact auto
instance spec_inTrack.ctr {k : Nat} {l0_0 : List Int} {a0_1 : Int} {a1 : Int} {r : Int} : Ctr (spec_inTrack.f k l0_0 a0_1 a1 = some r) (Con Try.prog 48 [.p (.ag [.sl (.int .i64) l0_0, .v (.int .i64 a0_1)]), .p (.c (.v (.int .i64 a1)))] (.p (.c (.v (.int .i64 r))))) := ⟨spec_inTrack.con _ _ _ _ _⟩
end Go.Proofs.Ytlhhjdlaljmppaa.T
