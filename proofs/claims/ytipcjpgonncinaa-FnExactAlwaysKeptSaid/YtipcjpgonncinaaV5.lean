/- BY EV: what the Go functions compute (read off the print), and that their calls come to it. No condition. -/
import Derived.Test.YtipcjpgonncinaaVEU
import Derived.Test.YtipcjpgonncinaaV4
set_option linter.unusedVariables false
set_option linter.unusedSimpArgs false
namespace Go.Proofs.Ytipcjpgonncinaa.V
open Go.RowKit Go.Proofs Go.Proofs.YtipcjpgonncinaaW.PrintWords Go.Proofs.YtipcjpgonncinaaW.PrintLast EV
/-! ### impl_isThin: function 39 -/
def impl_isThin.f (k : Nat) (l0 : List (S51)) : Option (Bool) := if (l0.length : Int) ≤ 12 then ((impl_IsScore.f k l0).bind fun t288 => (some t288)) else (some false)
set_option maxRecDepth 8000 in
set_option maxHeartbeats 2000000 in
theorem impl_isThin.con (k : Nat) (l0 : List (S51)) (r : Bool) (H : impl_isThin.f k l0 = some r) : Con Try.prog 39 [.p (.c (.sl K51 l0))] (.p (.c (.v (.bool r)))) := by
  refine Con.mk' (fn := Try.f39) Try.func39 rfl (by kernel_rfl) rfl rfl rfl fun X w0 gs hF => ?_
  unfold impl_isThin.f at H
  exact auto
instance impl_isThin.ctr {k : Nat} {l0 : List (S51)} {r : Bool} : Ctr (impl_isThin.f k l0 = some r) (Con Try.prog 39 [.p (.c (.sl K51 l0))] (.p (.c (.v (.bool r))))) := ⟨impl_isThin.con _ _ _⟩
/-! ### impl_partOf: function 63 -/
def impl_partOf.l0 : Nat → Int → Int → List Int → Int → Option (List Int)
  | 0, _, _, _, _ => none
  | k + 1, x0, x1, x5, x6 => if x6 < x1 then (if 0 ≤ x6 then (if (Go.bits .and .i64 (shr .i64 x0 x6) 1) = 1 then (if x5.length < 17592186044416 then (impl_partOf.l0 k x0 x1 (x5 ++ [x6]) (wrap64 (x6 + 1))) else (none)) else (impl_partOf.l0 k x0 x1 x5 (wrap64 (x6 + 1)))) else (none)) else (some x5)
def impl_partOf.f (k : Nat) (a0 : Int) (a1 : Int) : Option (List Int) := impl_partOf.l0 k a0 a1 (([] : List Int)) 0
instance impl_partOf.lp0 {k : Nat} {r : List Int} {Q : Wr → Prop} {p0 : Int} {p1 : Int} {x5_1 : List Int} {x6_1 : Int} : Lp (impl_partOf.l0 k p0 p1 x5_1 x6_1 = some r) Q (fun k => ∀ {x5_1 : List Int} {x6_1 : Int}, impl_partOf.l0 k p0 p1 x5_1 x6_1 = some r → Q [(10, .p (.c (.rp (Try.f63.ntmps + 5)))), (2 * (Try.f63.ntmps + 5) + 1, .row 3 (.int .i64) x5_1), (12, .p (.c (.v (.int .i64 x6_1))))]) k [(10, .p (.c (.rp (Try.f63.ntmps + 5)))), (2 * (Try.f63.ntmps + 5) + 1, .row 3 (.int .i64) x5_1), (12, .p (.c (.v (.int .i64 x6_1))))] := ⟨fun j h => j h⟩
set_option maxRecDepth 8000 in
set_option maxHeartbeats 2000000 in
theorem impl_partOf.con (k : Nat) (a0 : Int) (a1 : Int) (r : List Int) (H : impl_partOf.f k a0 a1 = some r) : Con Try.prog 63 [.p (.c (.v (.int .i64 a0))), .p (.c (.v (.int .i64 a1)))] (.p (.c (.ow 3 (.int .i64) r))) := by
  refine Con.mk' (fn := Try.f63) Try.func63 rfl (by kernel_rfl) rfl rfl rfl fun X w0 gs hF => ?_
  unfold impl_partOf.f at H
  exact auto
instance impl_partOf.ctr {k : Nat} {a0 : Int} {a1 : Int} {r : List Int} : Ctr (impl_partOf.f k a0 a1 = some r) (Con Try.prog 63 [.p (.c (.v (.int .i64 a0))), .p (.c (.v (.int .i64 a1)))] (.p (.c (.ow 3 (.int .i64) r)))) := ⟨impl_partOf.con _ _ _ _⟩
/-! ### impl_thinLoss: function 64 -/
mutual
def impl_thinLoss.l0 : Nat → List (S51) → List Int → Int → List (S51) → Int → Int → Option (Int)
  | 0, _, _, _, _, _, _ => none
  | k + 1, x0, x1, x5, x10, x11, x12 => if x12 < x11 then (if 0 ≤ x12 then (if x12 < (x10.length : Int) then (impl_thinLoss.l0 k x0 x1 (wrap64 (x5 + ((rd_T51 x10 x12).f2))) x10 x11 (wrap64 (x12 + 1))) else (none)) else (none)) else (impl_thinLoss.l1 k x0 x5 x1 (x1.length : Int) 0)
def impl_thinLoss.l1 : Nat → List (S51) → Int → List Int → Int → Int → Option (Int)
  | 0, _, _, _, _, _ => none
  | k + 1, x0, x5, x21, x22, x23 => if x23 < x22 then (if 0 ≤ x23 then (if x23 < (x21.length : Int) then (if 0 ≤ (rd x21 x23) then (if (rd x21 x23) < (x0.length : Int) then (impl_thinLoss.l1 k x0 (wrap64 (x5 - ((rd_T51 x0 (rd x21 x23)).f2))) x21 x22 (wrap64 (x23 + 1))) else (none)) else (none)) else (none)) else (none)) else (some x5)
end
def impl_thinLoss.f (k : Nat) (l0 : List (S51)) (l1 : List Int) : Option (Int) := impl_thinLoss.l0 k l0 l1 0 l0 (l0.length : Int) 0
instance impl_thinLoss.lp0 {k : Nat} {r : Int} {Q : Wr → Prop} {p0 : List (S51)} {p1 : List Int} {p3 : List (S51)} {p4 : Int} {x5_1 : Int} {x12_1 : Int} : Lp (impl_thinLoss.l0 k p0 p1 x5_1 p3 p4 x12_1 = some r) Q (fun k => ∀ {x5_1 : Int} {x12_1 : Int}, impl_thinLoss.l0 k p0 p1 x5_1 p3 p4 x12_1 = some r → Q [(10, .p (.c (.v (.int .i64 x5_1)))), (24, .p (.c (.v (.int .i64 x12_1))))]) k [(10, .p (.c (.v (.int .i64 x5_1)))), (24, .p (.c (.v (.int .i64 x12_1))))] := ⟨fun j h => j h⟩
instance impl_thinLoss.lp1 {k : Nat} {r : Int} {Q : Wr → Prop} {p0 : List (S51)} {p2 : List Int} {p3 : Int} {x5_2 : Int} {x23_2 : Int} : Lp (impl_thinLoss.l1 k p0 x5_2 p2 p3 x23_2 = some r) Q (fun k => ∀ {x5_2 : Int} {x23_2 : Int}, impl_thinLoss.l1 k p0 x5_2 p2 p3 x23_2 = some r → Q [(10, .p (.c (.v (.int .i64 x5_2)))), (46, .p (.c (.v (.int .i64 x23_2))))]) k [(10, .p (.c (.v (.int .i64 x5_2)))), (46, .p (.c (.v (.int .i64 x23_2))))] := ⟨fun j h => j h⟩
set_option maxRecDepth 8000 in
set_option maxHeartbeats 2000000 in
theorem impl_thinLoss.con (k : Nat) (l0 : List (S51)) (l1 : List Int) (r : Int) (H : impl_thinLoss.f k l0 l1 = some r) : Con Try.prog 64 [.p (.c (.sl K51 l0)), .p (.c (.sl (.int .i64) l1))] (.p (.c (.v (.int .i64 r)))) := by
  refine Con.mk' (fn := Try.f64) Try.func64 rfl (by kernel_rfl) rfl rfl rfl fun X w0 gs hF => ?_
  unfold impl_thinLoss.f at H
  exact auto
instance impl_thinLoss.ctr {k : Nat} {l0 : List (S51)} {l1 : List Int} {r : Int} : Ctr (impl_thinLoss.f k l0 l1 = some r) (Con Try.prog 64 [.p (.c (.sl K51 l0)), .p (.c (.sl (.int .i64) l1))] (.p (.c (.v (.int .i64 r))))) := ⟨impl_thinLoss.con _ _ _ _⟩
/-! ### impl_keptNotes: function 73 -/
def impl_keptNotes.l0 : Nat → List (S51) → List (S51) → List Int → Int → Int → Option ((List (S51)))
  | 0, _, _, _, _, _ => none
  | k + 1, x0, x5, x9, x10, x11 => if x11 < x10 then (if 0 ≤ x11 then (if x11 < (x9.length : Int) then (if 0 ≤ (rd x9 x11) then (if (rd x9 x11) < (x0.length : Int) then (if x5.length < 5864062014805 then (impl_keptNotes.l0 k x0 (x5 ++ [(⟨(rd_T51 x0 (rd x9 x11)).f0, (rd_T51 x0 (rd x9 x11)).f1, (rd_T51 x0 (rd x9 x11)).f2⟩ : S51)]) x9 x10 (wrap64 (x11 + 1))) else (none)) else (none)) else (none)) else (none)) else (none)) else (some x5)
def impl_keptNotes.f (k : Nat) (l0 : List (S51)) (l1 : List Int) : Option ((List (S51))) := impl_keptNotes.l0 k l0 (([] : List (S51))) l1 (l1.length : Int) 0
instance impl_keptNotes.lp0 {k : Nat} {r : (List (S51))} {Q : Wr → Prop} {p0 : List (S51)} {p2 : List Int} {p3 : Int} {x5_1 : List (S51)} {x11_1 : Int} : Lp (impl_keptNotes.l0 k p0 x5_1 p2 p3 x11_1 = some r) Q (fun k => ∀ {x5_1 : List (S51)} {x11_1 : Int}, impl_keptNotes.l0 k p0 x5_1 p2 p3 x11_1 = some r → Q [(10, .p (.c (.rp (Try.f73.ntmps + 5)))), (2 * (Try.f73.ntmps + 5) + 1, .row 51 K51 x5_1), (22, .p (.c (.v (.int .i64 x11_1))))]) k [(10, .p (.c (.rp (Try.f73.ntmps + 5)))), (2 * (Try.f73.ntmps + 5) + 1, .row 51 K51 x5_1), (22, .p (.c (.v (.int .i64 x11_1))))] := ⟨fun j h => j h⟩
set_option maxRecDepth 8000 in
set_option maxHeartbeats 2000000 in
theorem impl_keptNotes.con (k : Nat) (l0 : List (S51)) (l1 : List Int) (r : List (S51)) (H : impl_keptNotes.f k l0 l1 = some r) : Con Try.prog 73 [.p (.c (.sl K51 l0)), .p (.c (.sl (.int .i64) l1))] (.p (.c (.ow 51 K51 r))) := by
  refine Con.mk' (fn := Try.f73) Try.func73 rfl (by kernel_rfl) rfl rfl rfl fun X w0 gs hF => ?_
  unfold impl_keptNotes.f at H
  exact auto
instance impl_keptNotes.ctr {k : Nat} {l0 : List (S51)} {l1 : List Int} {r : List (S51)} : Ctr (impl_keptNotes.f k l0 l1 = some r) (Con Try.prog 73 [.p (.c (.sl K51 l0)), .p (.c (.sl (.int .i64) l1))] (.p (.c (.ow 51 K51 r)))) := ⟨impl_keptNotes.con _ _ _ _⟩
/-! ### slices_Index_int_int: function 61 -/
def slices_Index_int_int.l0 : Nat → List Int → Int → Int → Int → Option (Int)
  | 0, _, _, _, _ => none
  | k + 1, x0, x1, x7, x8 => if x8 < x7 then (if 0 ≤ x8 then (if x8 < (x0.length : Int) then (if x1 = (rd x0 x8) then (some x8) else (slices_Index_int_int.l0 k x0 x1 x7 (wrap64 (x8 + 1)))) else (none)) else (none)) else (some (-1))
def slices_Index_int_int.f (k : Nat) (l0 : List Int) (a1 : Int) : Option (Int) := slices_Index_int_int.l0 k l0 a1 (l0.length : Int) 0
instance slices_Index_int_int.lp0 {k : Nat} {r : Int} {Q : Wr → Prop} {p0 : List Int} {p1 : Int} {p2 : Int} {x8_1 : Int} : Lp (slices_Index_int_int.l0 k p0 p1 p2 x8_1 = some r) Q (fun k => ∀ {x8_1 : Int}, slices_Index_int_int.l0 k p0 p1 p2 x8_1 = some r → Q [(16, .p (.c (.v (.int .i64 x8_1))))]) k [(16, .p (.c (.v (.int .i64 x8_1))))] := ⟨fun j h => j h⟩
set_option maxRecDepth 8000 in
set_option maxHeartbeats 2000000 in
theorem slices_Index_int_int.con (k : Nat) (l0 : List Int) (a1 : Int) (r : Int) (H : slices_Index_int_int.f k l0 a1 = some r) : Con Try.prog 61 [.p (.c (.sl (.int .i64) l0)), .p (.c (.v (.int .i64 a1)))] (.p (.c (.v (.int .i64 r)))) := by
  refine Con.mk' (fn := Try.f61) Try.func61 rfl (by kernel_rfl) rfl rfl rfl fun X w0 gs hF => ?_
  unfold slices_Index_int_int.f at H
  exact auto
instance slices_Index_int_int.ctr {k : Nat} {l0 : List Int} {a1 : Int} {r : Int} : Ctr (slices_Index_int_int.f k l0 a1 = some r) (Con Try.prog 61 [.p (.c (.sl (.int .i64) l0)), .p (.c (.v (.int .i64 a1)))] (.p (.c (.v (.int .i64 r))))) := ⟨slices_Index_int_int.con _ _ _ _⟩
/-! ### slices_Contains_int_int: function 40 -/
def slices_Contains_int_int.f (k : Nat) (l0 : List Int) (a1 : Int) : Option (Bool) := (slices_Index_int_int.f k l0 a1).bind fun t308 => (some (decide (t308 ≥ 0)))
set_option maxRecDepth 8000 in
set_option maxHeartbeats 2000000 in
theorem slices_Contains_int_int.con (k : Nat) (l0 : List Int) (a1 : Int) (r : Bool) (H : slices_Contains_int_int.f k l0 a1 = some r) : Con Try.prog 40 [.p (.c (.sl (.int .i64) l0)), .p (.c (.v (.int .i64 a1)))] (.p (.c (.v (.bool r)))) := by
  refine Con.mk' (fn := Try.f40) Try.func40 rfl (by kernel_rfl) rfl rfl rfl fun X w0 gs hF => ?_
  unfold slices_Contains_int_int.f at H
  exact auto
instance slices_Contains_int_int.ctr {k : Nat} {l0 : List Int} {a1 : Int} {r : Bool} : Ctr (slices_Contains_int_int.f k l0 a1 = some r) (Con Try.prog 40 [.p (.c (.sl (.int .i64) l0)), .p (.c (.v (.int .i64 a1)))] (.p (.c (.v (.bool r))))) := ⟨slices_Contains_int_int.con _ _ _ _⟩
/-! ### impl_fastRepeats: function 49 -/
mutual
def impl_fastRepeats.l0 : Nat → List (S51) → Int → List (List Int) → List (S51) → Int → Int → Option ((List (List Int)))
  | 0, _, _, _, _, _, _ => none
  | k + 1, x0, x1, x5, x10, x11, x12 => if x12 < x11 then (if 0 ≤ x12 then (if x12 < (x10.length : Int) then (impl_fastRepeats.l1 k x0 x1 x5 x12 (wrap64 (x12 - 1)) x10 x11 x12 ((rd_T51 x10 x12).f0) ((rd_T51 x10 x12).f1) ((rd_T51 x10 x12).f2)) else (none)) else (none)) else (some x5)
def impl_fastRepeats.l1 : Nat → List (S51) → Int → List (List Int) → Int → Int → List (S51) → Int → Int → Int → Int → Int → Option ((List (List Int)))
  | 0, _, _, _, _, _, _, _, _, _, _, _ => none
  | k + 1, x0, x1, x5, x6, x8, x10, x11, x12, x314000, x314001, x314002 => if x8 ≥ 0 then (if 0 ≤ x8 then (if x8 < (x0.length : Int) then (if ((rd_T51 x0 x8).f0) = x314000 then (if (wrap64 (x314001 - ((rd_T51 x0 x8).f1))) < x1 then (if x5.length < 5864062014805 then (impl_fastRepeats.l0 k x0 x1 (x5 ++ [(([x8, x6] : List Int))]) x10 x11 (wrap64 (x12 + 1))) else (none)) else (impl_fastRepeats.l0 k x0 x1 x5 x10 x11 (wrap64 (x12 + 1)))) else (impl_fastRepeats.l1 k x0 x1 x5 x6 (wrap64 (x8 - 1)) x10 x11 x12 x314000 x314001 x314002)) else (none)) else (none)) else (impl_fastRepeats.l0 k x0 x1 x5 x10 x11 (wrap64 (x12 + 1)))
end
def impl_fastRepeats.f (k : Nat) (l0 : List (S51)) (a1 : Int) : Option ((List (List Int))) := impl_fastRepeats.l0 k l0 a1 (([] : List (List Int))) l0 (l0.length : Int) 0
instance impl_fastRepeats.lp0 {k : Nat} {r : (List (List Int))} {Q : Wr → Prop} {p0 : List (S51)} {p1 : Int} {p3 : List (S51)} {p4 : Int} {x5_1 : List (List Int)} {x12_1 : Int} : Lp (impl_fastRepeats.l0 k p0 p1 x5_1 p3 p4 x12_1 = some r) Q (fun k => ∀ {x5_1 : List (List Int)} {x12_1 : Int}, impl_fastRepeats.l0 k p0 p1 x5_1 p3 p4 x12_1 = some r → Q [(10, .p (.c (.rp (Try.f49.ntmps + 5)))), (2 * (Try.f49.ntmps + 5) + 1, .row 22 KL3 x5_1), (24, .p (.c (.v (.int .i64 x12_1))))]) k [(10, .p (.c (.rp (Try.f49.ntmps + 5)))), (2 * (Try.f49.ntmps + 5) + 1, .row 22 KL3 x5_1), (24, .p (.c (.v (.int .i64 x12_1))))] := ⟨fun j h => j h⟩
instance impl_fastRepeats.lp1 {k : Nat} {r : (List (List Int))} {Q : Wr → Prop} {p0 : List (S51)} {p1 : Int} {p3 : Int} {p5 : List (S51)} {p6 : Int} {p7 : Int} {p8 : Int} {p9 : Int} {p10 : Int} {x5_2 : List (List Int)} {x8_2 : Int} : Lp (impl_fastRepeats.l1 k p0 p1 x5_2 p3 x8_2 p5 p6 p7 p8 p9 p10 = some r) Q (fun k => ∀ {x5_2 : List (List Int)} {x8_2 : Int}, impl_fastRepeats.l1 k p0 p1 x5_2 p3 x8_2 p5 p6 p7 p8 p9 p10 = some r → Q [(10, .p (.c (.rp (Try.f49.ntmps + 5)))), (2 * (Try.f49.ntmps + 5) + 1, .row 22 KL3 x5_2), (16, .p (.c (.v (.int .i64 x8_2))))]) k [(10, .p (.c (.rp (Try.f49.ntmps + 5)))), (2 * (Try.f49.ntmps + 5) + 1, .row 22 KL3 x5_2), (16, .p (.c (.v (.int .i64 x8_2))))] := ⟨fun j h => j h⟩
set_option maxRecDepth 8000 in
set_option maxHeartbeats 2000000 in
theorem impl_fastRepeats.con (k : Nat) (l0 : List (S51)) (a1 : Int) (r : List (List Int)) (H : impl_fastRepeats.f k l0 a1 = some r) : Con Try.prog 49 [.p (.c (.sl K51 l0)), .p (.c (.v (.int .i64 a1)))] (.p (.c (.ow 22 KL3 r))) := by
  refine Con.mk' (fn := Try.f49) Try.func49 rfl (by kernel_rfl) rfl rfl rfl fun X w0 gs hF => ?_
  unfold impl_fastRepeats.f at H
  exact auto
instance impl_fastRepeats.ctr {k : Nat} {l0 : List (S51)} {a1 : Int} {r : List (List Int)} : Ctr (impl_fastRepeats.f k l0 a1 = some r) (Con Try.prog 49 [.p (.c (.sl K51 l0)), .p (.c (.v (.int .i64 a1)))] (.p (.c (.ow 22 KL3 r)))) := ⟨impl_fastRepeats.con _ _ _ _⟩
/-! ### impl_canPlay: function 74 -/
def impl_canPlay.l0 : Nat → List (S51) → List (S51) → Int → Int → List Int → Int → Option (Bool)
  | 0, _, _, _, _, _, _ => none
  | k + 1, x1, x7, x8, x9, x323000, x323001 => if x9 < x8 then (if 0 ≤ x9 then (if x9 < (x7.length : Int) then ((slices_Contains_int_int.f k x323000 ((rd_T51 x7 x9).f0)).bind fun t325 => (if t325 = true then (impl_canPlay.l0 k x1 x7 x8 (wrap64 (x9 + 1)) x323000 x323001) else (some false))) else (none)) else (none)) else ((impl_fastRepeats.f k x1 x323001).bind fun t326 => (some ((t326.length : Int) == 0)))
def impl_canPlay.f (k : Nat) (l0_0 : List Int) (a0_1 : Int) (l1 : List (S51)) : Option (Bool) := impl_canPlay.l0 k l1 l1 (l1.length : Int) 0 l0_0 a0_1
instance impl_canPlay.lp0 {k : Nat} {r : Bool} {Q : Wr → Prop} {p0 : List (S51)} {p1 : List (S51)} {p2 : Int} {p4 : List Int} {p5 : Int} {x9_1 : Int} : Lp (impl_canPlay.l0 k p0 p1 p2 x9_1 p4 p5 = some r) Q (fun k => ∀ {x9_1 : Int}, impl_canPlay.l0 k p0 p1 p2 x9_1 p4 p5 = some r → Q [(18, .p (.c (.v (.int .i64 x9_1))))]) k [(18, .p (.c (.v (.int .i64 x9_1))))] := ⟨fun j h => j h⟩
set_option maxRecDepth 8000 in
set_option maxHeartbeats 2000000 in
theorem impl_canPlay.con (k : Nat) (l0_0 : List Int) (a0_1 : Int) (l1 : List (S51)) (r : Bool) (H : impl_canPlay.f k l0_0 a0_1 l1 = some r) : Con Try.prog 74 [.p (.ag [.sl (.int .i64) l0_0, .v (.int .i64 a0_1)]), .p (.c (.sl K51 l1))] (.p (.c (.v (.bool r)))) := by
  refine Con.mk' (fn := Try.f74) Try.func74 rfl (by kernel_rfl) rfl rfl rfl fun X w0 gs hF => ?_
  unfold impl_canPlay.f at H
  exact auto
instance impl_canPlay.ctr {k : Nat} {l0_0 : List Int} {a0_1 : Int} {l1 : List (S51)} {r : Bool} : Ctr (impl_canPlay.f k l0_0 a0_1 l1 = some r) (Con Try.prog 74 [.p (.ag [.sl (.int .i64) l0_0, .v (.int .i64 a0_1)]), .p (.c (.sl K51 l1))] (.p (.c (.v (.bool r))))) := ⟨impl_canPlay.con _ _ _ _ _⟩
/-! ### impl_mostVoices: function 75 -/
mutual
def impl_mostVoices.l0 : Nat → List (S51) → Int → List (S51) → Int → Int → Option (Int)
  | 0, _, _, _, _, _ => none
  | k + 1, x0, x3, x9, x10, x11 => if x11 < x10 then (if 0 ≤ x11 then (if x11 < (x9.length : Int) then (impl_mostVoices.l1 k x0 x3 0 x9 x10 x11 x0 (x0.length : Int) 0 ((rd_T51 x9 x11).f0) ((rd_T51 x9 x11).f1) ((rd_T51 x9 x11).f2)) else (none)) else (none)) else (some x3)
def impl_mostVoices.l1 : Nat → List (S51) → Int → Int → List (S51) → Int → Int → List (S51) → Int → Int → Int → Int → Int → Option (Int)
  | 0, _, _, _, _, _, _, _, _, _, _, _, _ => none
  | k + 1, x0, x3, x6, x9, x10, x11, x15, x16, x17, x331000, x331001, x331002 => if x17 < x16 then (if 0 ≤ x17 then (if x17 < (x15.length : Int) then (if ((rd_T51 x15 x17).f1) ≤ x331001 then ((impl_noteEnd.f ((rd_T51 x15 x17).f0) ((rd_T51 x15 x17).f1) ((rd_T51 x15 x17).f2)).bind fun t333 => (if x331001 < t333 then (impl_mostVoices.l1 k x0 x3 (wrap64 (x6 + 1)) x9 x10 x11 x15 x16 (wrap64 (x17 + 1)) x331000 x331001 x331002) else (impl_mostVoices.l1 k x0 x3 x6 x9 x10 x11 x15 x16 (wrap64 (x17 + 1)) x331000 x331001 x331002))) else (impl_mostVoices.l1 k x0 x3 x6 x9 x10 x11 x15 x16 (wrap64 (x17 + 1)) x331000 x331001 x331002)) else (none)) else (none)) else (impl_mostVoices.l0 k x0 (mx x3 x6) x9 x10 (wrap64 (x11 + 1)))
end
def impl_mostVoices.f (k : Nat) (l0 : List (S51)) : Option (Int) := impl_mostVoices.l0 k l0 0 l0 (l0.length : Int) 0
instance impl_mostVoices.lp0 {k : Nat} {r : Int} {Q : Wr → Prop} {p0 : List (S51)} {p2 : List (S51)} {p3 : Int} {x3_1 : Int} {x11_1 : Int} : Lp (impl_mostVoices.l0 k p0 x3_1 p2 p3 x11_1 = some r) Q (fun k => ∀ {x3_1 : Int} {x11_1 : Int}, impl_mostVoices.l0 k p0 x3_1 p2 p3 x11_1 = some r → Q [(6, .p (.c (.v (.int .i64 x3_1)))), (22, .p (.c (.v (.int .i64 x11_1))))]) k [(6, .p (.c (.v (.int .i64 x3_1)))), (22, .p (.c (.v (.int .i64 x11_1))))] := ⟨fun j h => j h⟩
instance impl_mostVoices.lp1 {k : Nat} {r : Int} {Q : Wr → Prop} {p0 : List (S51)} {p1 : Int} {p3 : List (S51)} {p4 : Int} {p5 : Int} {p6 : List (S51)} {p7 : Int} {p9 : Int} {p10 : Int} {p11 : Int} {x6_2 : Int} {x17_2 : Int} : Lp (impl_mostVoices.l1 k p0 p1 x6_2 p3 p4 p5 p6 p7 x17_2 p9 p10 p11 = some r) Q (fun k => ∀ {x6_2 : Int} {x17_2 : Int}, impl_mostVoices.l1 k p0 p1 x6_2 p3 p4 p5 p6 p7 x17_2 p9 p10 p11 = some r → Q [(12, .p (.c (.v (.int .i64 x6_2)))), (34, .p (.c (.v (.int .i64 x17_2))))]) k [(12, .p (.c (.v (.int .i64 x6_2)))), (34, .p (.c (.v (.int .i64 x17_2))))] := ⟨fun j h => j h⟩
set_option maxRecDepth 8000 in
set_option maxHeartbeats 2000000 in
theorem impl_mostVoices.con (k : Nat) (l0 : List (S51)) (r : Int) (H : impl_mostVoices.f k l0 = some r) : Con Try.prog 75 [.p (.c (.sl K51 l0))] (.p (.c (.v (.int .i64 r)))) := by
  refine Con.mk' (fn := Try.f75) Try.func75 rfl (by kernel_rfl) rfl rfl rfl fun X w0 gs hF => ?_
  unfold impl_mostVoices.f at H
  exact auto
instance impl_mostVoices.ctr {k : Nat} {l0 : List (S51)} {r : Int} : Ctr (impl_mostVoices.f k l0 = some r) (Con Try.prog 75 [.p (.c (.sl K51 l0))] (.p (.c (.v (.int .i64 r))))) := ⟨impl_mostVoices.con _ _ _⟩
/-! ### impl_isPlayable: function 65 -/
def impl_isPlayable.f (k : Nat) (l0_0 : List Int) (a0_1 : Int) (l1 : List (S51)) (a2 : Int) (l3 : List Int) : Option (Bool) := (impl_keptNotes.f k l1 l3).bind fun t335 => ((impl_canPlay.f k l0_0 a0_1 t335).bind fun t338 => (if t338 = true then ((impl_mostVoices.f k t335).bind fun t339 => (some (decide (t339 ≤ a2)))) else (some false)))
set_option maxRecDepth 8000 in
set_option maxHeartbeats 2000000 in
theorem impl_isPlayable.con (k : Nat) (l0_0 : List Int) (a0_1 : Int) (l1 : List (S51)) (a2 : Int) (l3 : List Int) (r : Bool) (H : impl_isPlayable.f k l0_0 a0_1 l1 a2 l3 = some r) : Con Try.prog 65 [.p (.ag [.sl (.int .i64) l0_0, .v (.int .i64 a0_1)]), .p (.c (.sl K51 l1)), .p (.c (.v (.int .i64 a2))), .p (.c (.sl (.int .i64) l3))] (.p (.c (.v (.bool r)))) := by
  refine Con.mk' (fn := Try.f65) Try.func65 rfl (by kernel_rfl) rfl rfl rfl fun X w0 gs hF => ?_
  unfold impl_isPlayable.f at H
  exact auto
instance impl_isPlayable.ctr {k : Nat} {l0_0 : List Int} {a0_1 : Int} {l1 : List (S51)} {a2 : Int} {l3 : List Int} {r : Bool} : Ctr (impl_isPlayable.f k l0_0 a0_1 l1 a2 l3 = some r) (Con Try.prog 65 [.p (.ag [.sl (.int .i64) l0_0, .v (.int .i64 a0_1)]), .p (.c (.sl K51 l1)), .p (.c (.v (.int .i64 a2))), .p (.c (.sl (.int .i64) l3))] (.p (.c (.v (.bool r))))) := ⟨impl_isPlayable.con _ _ _ _ _ _ _⟩
end Go.Proofs.Ytipcjpgonncinaa.V
