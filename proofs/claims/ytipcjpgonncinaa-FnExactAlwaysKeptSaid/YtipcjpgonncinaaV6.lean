/- BY EV: what the Go functions compute (read off the print), and that their calls come to it. No condition. -/
import Derived.Test.YtipcjpgonncinaaVEU
import Derived.Test.YtipcjpgonncinaaV2
import Derived.Test.YtipcjpgonncinaaV4
import Derived.Test.YtipcjpgonncinaaV5
set_option linter.unusedVariables false
set_option linter.unusedSimpArgs false
namespace Go.Proofs.Ytipcjpgonncinaa.V
open Go.RowKit Go.Proofs Go.Proofs.YtipcjpgonncinaaW.PrintWords Go.Proofs.YtipcjpgonncinaaW.PrintLast EV
/-! ### impl_leastParts: function 52 -/
mutual
def impl_leastParts.l0 : Nat → List (S51) → Int → List (List Int) → Int → Int → List Int → Int → Option ((List (List Int)) × Int)
  | 0, _, _, _, _, _, _, _ => none
  | k + 1, x1, x2, x8, x9, x10, x341000, x341001 => if x10 < (shl .i64 1 (x1.length : Int)) then ((impl_partOf.f k x10 (x1.length : Int)).bind fun t344 => ((impl_thinLoss.f k x1 t344).bind fun t347 => (if x9 ≥ 0 then (if t347 > x9 then (impl_leastParts.j1 k x1 x2 x8 x9 x10 t344 t347 true x341000 x341001) else ((impl_isPlayable.f k x341000 x341001 x1 x2 t344).bind fun t348 => (impl_leastParts.j1 k x1 x2 x8 x9 x10 t344 t347 (!t348) x341000 x341001))) else ((impl_isPlayable.f k x341000 x341001 x1 x2 t344).bind fun t349 => (impl_leastParts.j1 k x1 x2 x8 x9 x10 t344 t347 (!t349) x341000 x341001))))) else (some (x8, x9))
def impl_leastParts.j1 : Nat → List (S51) → Int → List (List Int) → Int → Int → List Int → Int → Bool → List Int → Int → Option ((List (List Int)) × Int)
  | 0, _, _, _, _, _, _, _, _, _, _ => none
  | k + 1, x1, x2, x8, x9, x10, x11, x12, x42, x341000, x341001 => if x42 = true then (impl_leastParts.l0 k x1 x2 x8 x9 (wrap64 (x10 + 1)) x341000 x341001) else (if x12 = x9 then (if x8.length < 5864062014805 then (impl_leastParts.l0 k x1 x2 (x8 ++ [x11]) x9 (wrap64 (x10 + 1)) x341000 x341001) else (none)) else (if ([] : List (List Int)).length < 5864062014805 then (impl_leastParts.l0 k x1 x2 (([] : List (List Int)) ++ [x11]) x12 (wrap64 (x10 + 1)) x341000 x341001) else (none)))
end
def impl_leastParts.f (k : Nat) (l0_0 : List Int) (a0_1 : Int) (l1 : List (S51)) (a2 : Int) : Option ((List (List Int)) × Int) := impl_leastParts.l0 k l1 a2 (([] : List (List Int))) (-1) 0 l0_0 a0_1
instance impl_leastParts.lp0 {k : Nat} {r : (List (List Int)) × Int} {Q : Wr → Prop} {p0 : List (S51)} {p1 : Int} {p5 : List Int} {p6 : Int} {x8_1 : List (List Int)} {x9_1 : Int} {x10_1 : Int} : Lp (impl_leastParts.l0 k p0 p1 x8_1 x9_1 x10_1 p5 p6 = some r) Q (fun k => ∀ {x8_1 : List (List Int)} {x9_1 : Int} {x10_1 : Int}, impl_leastParts.l0 k p0 p1 x8_1 x9_1 x10_1 p5 p6 = some r → Q [(16, .p (.c (.rp (Try.f52.ntmps + 8)))), (2 * (Try.f52.ntmps + 8) + 1, .row 22 KL3 x8_1), (18, .p (.c (.v (.int .i64 x9_1)))), (20, .p (.c (.v (.int .i64 x10_1))))]) k [(16, .p (.c (.rp (Try.f52.ntmps + 8)))), (2 * (Try.f52.ntmps + 8) + 1, .row 22 KL3 x8_1), (18, .p (.c (.v (.int .i64 x9_1)))), (20, .p (.c (.v (.int .i64 x10_1))))] := ⟨fun j h => j h⟩
set_option maxRecDepth 8000 in
set_option maxHeartbeats 2000000 in
theorem impl_leastParts.con (k : Nat) (l0_0 : List Int) (a0_1 : Int) (l1 : List (S51)) (a2 : Int) (r1 : List (List Int)) (r2 : Int) (H : impl_leastParts.f k l0_0 a0_1 l1 a2 = some (r1, r2)) : Con Try.prog 52 [.p (.ag [.sl (.int .i64) l0_0, .v (.int .i64 a0_1)]), .p (.c (.sl K51 l1)), .p (.c (.v (.int .i64 a2)))] (.tp [.c (.ow 22 KL3 r1), .c (.v (.int .i64 r2))]) := by
  refine Con.mk' (fn := Try.f52) Try.func52 rfl (by kernel_rfl) rfl rfl rfl fun X w0 gs hF => ?_
  unfold impl_leastParts.f at H
  exact auto
instance impl_leastParts.ctr {k : Nat} {l0_0 : List Int} {a0_1 : Int} {l1 : List (S51)} {a2 : Int} {t_ : (List (List Int)) × (Int)} : Ctr (impl_leastParts.f k l0_0 a0_1 l1 a2 = some t_) (Con Try.prog 52 [.p (.ag [.sl (.int .i64) l0_0, .v (.int .i64 a0_1)]), .p (.c (.sl K51 l1)), .p (.c (.v (.int .i64 a2)))] (.tp [.c (.ow 22 KL3 t_.1), .c (.v (.int .i64 t_.2))])) := ⟨fun h => impl_leastParts.con _ _ _ _ _ (t_.1) (t_.2) h⟩
/-! ### impl_VoicesFor: function 22 -/
mutual
def impl_VoicesFor.j0 : Nat → List (S51) → Int → Bool → List Int → Int → Option (Int × Bool)
  | 0, _, _, _, _, _ => none
  | k + 1, x1, x2, x26, x357000, x357001 => if x26 = true then (some (0, false)) else (impl_VoicesFor.l0 k x1 x2 1 x357000 x357001)
def impl_VoicesFor.l0 : Nat → List (S51) → Int → Int → List Int → Int → Option (Int × Bool)
  | 0, _, _, _, _, _ => none
  | k + 1, x1, x2, x8, x357000, x357001 => if x8 ≤ 12 then ((impl_leastParts.f k x357000 x357001 x1 x8).bind fun bt359 => (if bt359.2 ≤ x2 then (some (x8, true)) else (impl_VoicesFor.l0 k x1 x2 (wrap64 (x8 + 1)) x357000 x357001))) else (some (0, false))
end
def impl_VoicesFor.f (k : Nat) (l0_0 : List Int) (a0_1 : Int) (l1 : List (S51)) (a2 : Int) : Option (Int × Bool) := (impl_IsInstrument.f k l0_0 a0_1).bind fun t357 => (if t357 = true then ((impl_isThin.f k l1).bind fun t358 => (if t358 = true then (if a2 < 0 then (impl_VoicesFor.j0 k l1 a2 true l0_0 a0_1) else (impl_VoicesFor.j0 k l1 a2 (decide (a2 > 2000)) l0_0 a0_1)) else (impl_VoicesFor.j0 k l1 a2 true l0_0 a0_1))) else (impl_VoicesFor.j0 k l1 a2 true l0_0 a0_1))
instance impl_VoicesFor.lp0 {k : Nat} {r : Int × Bool} {Q : Wr → Prop} {p0 : List (S51)} {p1 : Int} {p3 : List Int} {p4 : Int} {x8_2 : Int} : Lp (impl_VoicesFor.l0 k p0 p1 x8_2 p3 p4 = some r) Q (fun k => ∀ {x8_2 : Int}, impl_VoicesFor.l0 k p0 p1 x8_2 p3 p4 = some r → Q [(16, .p (.c (.v (.int .i64 x8_2))))]) k [(16, .p (.c (.v (.int .i64 x8_2))))] := ⟨fun j h => j h⟩
set_option maxRecDepth 8000 in
set_option maxHeartbeats 2000000 in
theorem impl_VoicesFor.con (k : Nat) (l0_0 : List Int) (a0_1 : Int) (l1 : List (S51)) (a2 : Int) (r1 : Int) (r2 : Bool) (H : impl_VoicesFor.f k l0_0 a0_1 l1 a2 = some (r1, r2)) : Con Try.prog 22 [.p (.ag [.sl (.int .i64) l0_0, .v (.int .i64 a0_1)]), .p (.c (.sl K51 l1)), .p (.c (.v (.int .i64 a2)))] (.tp [.c (.v (.int .i64 r1)), .c (.v (.bool r2))]) := by
  refine Con.mk' (fn := Try.f22) Try.func22 rfl (by kernel_rfl) rfl rfl rfl fun X w0 gs hF => ?_
  unfold impl_VoicesFor.f at H
  exact auto
instance impl_VoicesFor.ctr {k : Nat} {l0_0 : List Int} {a0_1 : Int} {l1 : List (S51)} {a2 : Int} {t_ : (Int) × (Bool)} : Ctr (impl_VoicesFor.f k l0_0 a0_1 l1 a2 = some t_) (Con Try.prog 22 [.p (.ag [.sl (.int .i64) l0_0, .v (.int .i64 a0_1)]), .p (.c (.sl K51 l1)), .p (.c (.v (.int .i64 a2)))] (.tp [.c (.v (.int .i64 t_.1)), .c (.v (.bool t_.2))])) := ⟨fun h => impl_VoicesFor.con _ _ _ _ _ (t_.1) (t_.2) h⟩
/-! ### laws_markIntS: function 26 -/
def laws_markIntS.l0 : Nat → List Int → Int → Int → Option (Int × List Int)
  | 0, _, _, _ => none
  | k + 1, x0, x1, x5 => if x5 < (x0.length : Int) then (if 0 ≤ x5 then (laws_markIntS.l0 k (x0.set (x5 : Int).toNat x1) (wrap64 (x1 + 1)) (wrap64 (x5 + 1))) else (none)) else (some (x1, x0))
def laws_markIntS.f (k : Nat) (l0 : List Int) (a1 : Int) : Option (Int × List Int) := laws_markIntS.l0 k l0 a1 0
instance laws_markIntS.lp0 {k : Nat} {r : Int × List Int} {Q : Wr → Prop}  {x0_1 : List Int} {x1_1 : Int} {x5_1 : Int} : Lp (laws_markIntS.l0 k x0_1 x1_1 x5_1 = some r) Q (fun k => ∀ {x0_1 : List Int} {x1_1 : Int} {x5_1 : Int}, laws_markIntS.l0 k x0_1 x1_1 x5_1 = some r → Q [(0, .p (.c (.rp (2 * Try.f26.ntmps + 0)))), (2 * (2 * Try.f26.ntmps + 0) + 1, .row 3 (.int .i64) x0_1), (2, .p (.c (.v (.int .i64 x1_1)))), (10, .p (.c (.v (.int .i64 x5_1))))]) k [(0, .p (.c (.rp (2 * Try.f26.ntmps + 0)))), (2 * (2 * Try.f26.ntmps + 0) + 1, .row 3 (.int .i64) x0_1), (2, .p (.c (.v (.int .i64 x1_1)))), (10, .p (.c (.v (.int .i64 x5_1))))] := ⟨fun j h => j h⟩
set_option maxRecDepth 8000 in
set_option maxHeartbeats 2000000 in
theorem laws_markIntS.con (k : Nat) (l0 : List Int) (a1 : Int) (r1 : Int) (r2 : List Int) (H : laws_markIntS.f k l0 a1 = some (r1, r2)) : Con Try.prog 26 [.p (.c (.ow 3 (.int .i64) l0)), .p (.c (.v (.int .i64 a1)))] (.p (.c (.v (.int .i64 r1)))) [(0, .c (.ow 3 (.int .i64) r2))] := by
  refine Con.mk' (fn := Try.f26) Try.func26 rfl (by kernel_rfl) rfl rfl rfl fun X w0 gs hF => ?_
  unfold laws_markIntS.f at H
  exact auto
instance laws_markIntS.ctr {k : Nat} {l0 : List Int} {a1 : Int} {t_ : (Int) × (List Int)} : Ctr (laws_markIntS.f k l0 a1 = some t_) (Con Try.prog 26 [.p (.c (.ow 3 (.int .i64) l0)), .p (.c (.v (.int .i64 a1)))] (.p (.c (.v (.int .i64 t_.1)))) [(0, .c (.ow 3 (.int .i64) t_.2))]) := ⟨fun h => laws_markIntS.con _ _ _ (t_.1) (t_.2) h⟩
/-! ### laws_markInstrument: function 16 -/
def laws_markInstrument.f (k : Nat) (l0_0 : List Int) (a0_1 : Int) (a1 : Int) : Option (Int × List Int) := (laws_markIntS.f k l0_0 a1).bind fun bt396 => (some (bt396.1, bt396.2))
set_option maxRecDepth 8000 in
set_option maxHeartbeats 2000000 in
theorem laws_markInstrument.con (k : Nat) (l0_0 : List Int) (a0_1 : Int) (a1 : Int) (r1 : Int) (r2 : List Int) (H : laws_markInstrument.f k l0_0 a0_1 a1 = some (r1, r2)) : Con Try.prog 16 [.p (.ag [.ow 3 (.int .i64) l0_0, .v (.int .i64 a0_1)]), .p (.c (.v (.int .i64 a1)))] (.p (.c (.v (.int .i64 r1)))) [(0, .c (.ow 3 (.int .i64) r2))] := by
  refine Con.mk' (fn := Try.f16) Try.func16 rfl (by kernel_rfl) rfl rfl rfl fun X w0 gs hF => ?_
  unfold laws_markInstrument.f at H
  exact auto
instance laws_markInstrument.ctr {k : Nat} {l0_0 : List Int} {a0_1 : Int} {a1 : Int} {t_ : (Int) × (List Int)} : Ctr (laws_markInstrument.f k l0_0 a0_1 a1 = some t_) (Con Try.prog 16 [.p (.ag [.ow 3 (.int .i64) l0_0, .v (.int .i64 a0_1)]), .p (.c (.v (.int .i64 a1)))] (.p (.c (.v (.int .i64 t_.1)))) [(0, .c (.ow 3 (.int .i64) t_.2))]) := ⟨fun h => laws_markInstrument.con _ _ _ _ (t_.1) (t_.2) h⟩
/-! ### laws_markNoteS: function 17 -/
def laws_markNoteS.l0 : Nat → List (S51) → Int → Int → Option (Int × (List (S51)))
  | 0, _, _, _ => none
  | k + 1, x0, x1, x5 => if x5 < (x0.length : Int) then (if 0 ≤ x5 then ((some (x0.set (x5 : Int).toNat (⟨x1, (rd_T51 x0 x5).f1, (rd_T51 x0 x5).f2⟩ : S51) : List (S51))).bind fun y398 => ((some (y398.set (x5 : Int).toNat (⟨(rd_T51 y398 x5).f0, wrap64 (x1 + 1), (rd_T51 y398 x5).f2⟩ : S51) : List (S51))).bind fun y399 => (laws_markNoteS.l0 k (y399.set (x5 : Int).toNat (⟨(rd_T51 y399 x5).f0, (rd_T51 y399 x5).f1, wrap64 ((wrap64 (x1 + 1)) + 1)⟩ : S51)) (wrap64 ((wrap64 ((wrap64 (x1 + 1)) + 1)) + 1)) (wrap64 (x5 + 1))))) else (none)) else (some (x1, x0))
def laws_markNoteS.f (k : Nat) (l0 : List (S51)) (a1 : Int) : Option (Int × (List (S51))) := laws_markNoteS.l0 k l0 a1 0
instance laws_markNoteS.lp0 {k : Nat} {r : Int × (List (S51))} {Q : Wr → Prop}  {x0_1 : List (S51)} {x1_1 : Int} {x5_1 : Int} : Lp (laws_markNoteS.l0 k x0_1 x1_1 x5_1 = some r) Q (fun k => ∀ {x0_1 : List (S51)} {x1_1 : Int} {x5_1 : Int}, laws_markNoteS.l0 k x0_1 x1_1 x5_1 = some r → Q [(0, .p (.c (.rp (2 * Try.f17.ntmps + 0)))), (2 * (2 * Try.f17.ntmps + 0) + 1, .row 51 K51 x0_1), (2, .p (.c (.v (.int .i64 x1_1)))), (10, .p (.c (.v (.int .i64 x5_1))))]) k [(0, .p (.c (.rp (2 * Try.f17.ntmps + 0)))), (2 * (2 * Try.f17.ntmps + 0) + 1, .row 51 K51 x0_1), (2, .p (.c (.v (.int .i64 x1_1)))), (10, .p (.c (.v (.int .i64 x5_1))))] := ⟨fun j h => j h⟩
set_option maxRecDepth 8000 in
set_option maxHeartbeats 2000000 in
theorem laws_markNoteS.con (k : Nat) (l0 : List (S51)) (a1 : Int) (r1 : Int) (r2 : List (S51)) (H : laws_markNoteS.f k l0 a1 = some (r1, r2)) : Con Try.prog 17 [.p (.c (.ow 51 K51 l0)), .p (.c (.v (.int .i64 a1)))] (.p (.c (.v (.int .i64 r1)))) [(0, .c (.ow 51 K51 r2))] := by
  refine Con.mk' (fn := Try.f17) Try.func17 rfl (by kernel_rfl) rfl rfl rfl fun X w0 gs hF => ?_
  unfold laws_markNoteS.f at H
  exact auto
instance laws_markNoteS.ctr {k : Nat} {l0 : List (S51)} {a1 : Int} {t_ : (Int) × (List (S51))} : Ctr (laws_markNoteS.f k l0 a1 = some t_) (Con Try.prog 17 [.p (.c (.ow 51 K51 l0)), .p (.c (.v (.int .i64 a1)))] (.p (.c (.v (.int .i64 t_.1)))) [(0, .c (.ow 51 K51 t_.2))]) := ⟨fun h => laws_markNoteS.con _ _ _ (t_.1) (t_.2) h⟩
/-! ### spec_thAsked: function 44 -/
def spec_thAsked.f (k : Nat) (l0_0 : List Int) (a0_1 : Int) (l1 : List (S51)) (a2 : Int) : Option (Bool) := (spec_inGood.f k l0_0 a0_1).bind fun t402 => (if t402 = true then ((spec_thGood.f k l1).bind fun t403 => (if t403 = true then ((spec_l1In.f a2 1 20).bind fun t404 => (some t404)) else (some false))) else (some false))
set_option maxRecDepth 8000 in
set_option maxHeartbeats 2000000 in
theorem spec_thAsked.con (k : Nat) (l0_0 : List Int) (a0_1 : Int) (l1 : List (S51)) (a2 : Int) (r : Bool) (H : spec_thAsked.f k l0_0 a0_1 l1 a2 = some r) : Con Try.prog 44 [.p (.ag [.sl (.int .i64) l0_0, .v (.int .i64 a0_1)]), .p (.c (.sl K51 l1)), .p (.c (.v (.int .i64 a2)))] (.p (.c (.v (.bool r)))) := by
  refine Con.mk' (fn := Try.f44) Try.func44 rfl (by kernel_rfl) rfl rfl rfl fun X w0 gs hF => ?_
  unfold spec_thAsked.f at H
  exact auto
instance spec_thAsked.ctr {k : Nat} {l0_0 : List Int} {a0_1 : Int} {l1 : List (S51)} {a2 : Int} {r : Bool} : Ctr (spec_thAsked.f k l0_0 a0_1 l1 a2 = some r) (Con Try.prog 44 [.p (.ag [.sl (.int .i64) l0_0, .v (.int .i64 a0_1)]), .p (.c (.sl K51 l1)), .p (.c (.v (.int .i64 a2)))] (.p (.c (.v (.bool r))))) := ⟨spec_thAsked.con _ _ _ _ _ _⟩
/-! ### impl_isVoices: function 48 -/
def impl_isVoices.f (a0 : Int) : Option (Bool) := if a0 ≥ 1 then (some (decide (a0 ≤ 20))) else (some false)
set_option maxRecDepth 8000 in
set_option maxHeartbeats 2000000 in
theorem impl_isVoices.con (a0 : Int) (r : Bool) (H : impl_isVoices.f a0 = some r) : Con Try.prog 48 [.p (.c (.v (.int .i64 a0)))] (.p (.c (.v (.bool r)))) := by
  refine Con.mk' (fn := Try.f48) Try.func48 rfl (by kernel_rfl) rfl rfl rfl fun X w0 gs hF => ?_
  unfold impl_isVoices.f at H
  exact auto
instance impl_isVoices.ctr {a0 : Int} {r : Bool} : Ctr (impl_isVoices.f a0 = some r) (Con Try.prog 48 [.p (.c (.v (.int .i64 a0)))] (.p (.c (.v (.bool r))))) := ⟨impl_isVoices.con _ _⟩
/-! ### impl_AlwaysKept: function 24 -/
mutual
def impl_AlwaysKept.j0 : Nat → List (S51) → Int → Bool → List Int → Int → Option (List Int × Bool)
  | 0, _, _, _, _, _ => none
  | k + 1, x1, x2, x27, x406000, x406001 => if x27 = true then (some (([] : List Int), false)) else ((impl_leastParts.f k x406000 x406001 x1 x2).bind fun bt409 => (impl_AlwaysKept.l0 k bt409.1 (([] : List Int)) (x1.length : Int) 0))
def impl_AlwaysKept.l0 : Nat → List (List Int) → List Int → Int → Int → Option (List Int × Bool)
  | 0, _, _, _, _ => none
  | k + 1, x8, x10, x37, x38 => if x38 < x37 then (impl_AlwaysKept.l1 k x8 x10 x38 true x37 x38 x8 (x8.length : Int) 0) else (some (x10, true))
def impl_AlwaysKept.l1 : Nat → List (List Int) → List Int → Int → Bool → Int → Int → List (List Int) → Int → Int → Option (List Int × Bool)
  | 0, _, _, _, _, _, _, _, _, _ => none
  | k + 1, x8, x10, x11, x12, x37, x38, x41, x42, x43 => if x43 < x42 then (if 0 ≤ x43 then (if x43 < (x41.length : Int) then (if x12 = true then ((slices_Contains_int_int.f k (rd_L3 x41 x43) x11).bind fun t417 => (impl_AlwaysKept.l1 k x8 x10 x11 t417 x37 x38 x41 x42 (wrap64 (x43 + 1)))) else (impl_AlwaysKept.l1 k x8 x10 x11 false x37 x38 x41 x42 (wrap64 (x43 + 1)))) else (none)) else (none)) else (if x12 = true then (if x10.length < 17592186044416 then (impl_AlwaysKept.l0 k x8 (x10 ++ [x11]) x37 (wrap64 (x38 + 1))) else (none)) else (impl_AlwaysKept.l0 k x8 x10 x37 (wrap64 (x38 + 1))))
end
def impl_AlwaysKept.f (k : Nat) (l0_0 : List Int) (a0_1 : Int) (l1 : List (S51)) (a2 : Int) : Option (List Int × Bool) := (impl_IsInstrument.f k l0_0 a0_1).bind fun t406 => (if t406 = true then ((impl_isThin.f k l1).bind fun t407 => (if t407 = true then ((impl_isVoices.f a2).bind fun t408 => (impl_AlwaysKept.j0 k l1 a2 (!t408) l0_0 a0_1)) else (impl_AlwaysKept.j0 k l1 a2 true l0_0 a0_1))) else (impl_AlwaysKept.j0 k l1 a2 true l0_0 a0_1))
instance impl_AlwaysKept.lp0 {k : Nat} {r : List Int × Bool} {Q : Wr → Prop} {p0 : List (List Int)} {p2 : Int} {x10_2 : List Int} {x38_2 : Int} : Lp (impl_AlwaysKept.l0 k p0 x10_2 p2 x38_2 = some r) Q (fun k => ∀ {x10_2 : List Int} {x38_2 : Int}, impl_AlwaysKept.l0 k p0 x10_2 p2 x38_2 = some r → Q [(20, .p (.c (.rp (Try.f24.ntmps + 10)))), (2 * (Try.f24.ntmps + 10) + 1, .row 3 (.int .i64) x10_2), (76, .p (.c (.v (.int .i64 x38_2))))]) k [(20, .p (.c (.rp (Try.f24.ntmps + 10)))), (2 * (Try.f24.ntmps + 10) + 1, .row 3 (.int .i64) x10_2), (76, .p (.c (.v (.int .i64 x38_2))))] := ⟨fun j h => j h⟩
instance impl_AlwaysKept.lp1 {k : Nat} {r : List Int × Bool} {Q : Wr → Prop} {p0 : List (List Int)} {p1 : List Int} {p2 : Int} {p4 : Int} {p5 : Int} {p6 : List (List Int)} {p7 : Int} {x12_3 : Bool} {x43_3 : Int} : Lp (impl_AlwaysKept.l1 k p0 p1 p2 x12_3 p4 p5 p6 p7 x43_3 = some r) Q (fun k => ∀ {x12_3 : Bool} {x43_3 : Int}, impl_AlwaysKept.l1 k p0 p1 p2 x12_3 p4 p5 p6 p7 x43_3 = some r → Q [(24, .p (.c (.v (.bool x12_3)))), (86, .p (.c (.v (.int .i64 x43_3))))]) k [(24, .p (.c (.v (.bool x12_3)))), (86, .p (.c (.v (.int .i64 x43_3))))] := ⟨fun j h => j h⟩
set_option maxRecDepth 8000 in
set_option maxHeartbeats 2000000 in
theorem impl_AlwaysKept.con (k : Nat) (l0_0 : List Int) (a0_1 : Int) (l1 : List (S51)) (a2 : Int) (r1 : List Int) (r2 : Bool) (H : impl_AlwaysKept.f k l0_0 a0_1 l1 a2 = some (r1, r2)) : Con Try.prog 24 [.p (.ag [.sl (.int .i64) l0_0, .v (.int .i64 a0_1)]), .p (.c (.sl K51 l1)), .p (.c (.v (.int .i64 a2)))] (.tp [.c (.ow 3 (.int .i64) r1), .c (.v (.bool r2))]) := by
  refine Con.mk' (fn := Try.f24) Try.func24 rfl (by kernel_rfl) rfl rfl rfl fun X w0 gs hF => ?_
  unfold impl_AlwaysKept.f at H
  exact auto
instance impl_AlwaysKept.ctr {k : Nat} {l0_0 : List Int} {a0_1 : Int} {l1 : List (S51)} {a2 : Int} {t_ : (List Int) × (Bool)} : Ctr (impl_AlwaysKept.f k l0_0 a0_1 l1 a2 = some t_) (Con Try.prog 24 [.p (.ag [.sl (.int .i64) l0_0, .v (.int .i64 a0_1)]), .p (.c (.sl K51 l1)), .p (.c (.v (.int .i64 a2)))] (.tp [.c (.ow 3 (.int .i64) t_.1), .c (.v (.bool t_.2))])) := ⟨fun h => impl_AlwaysKept.con _ _ _ _ _ (t_.1) (t_.2) h⟩
/-! ### laws_heldIntS: function 27 -/
def laws_heldIntS.l0 : Nat → List Int → Int → Int → Option (Int)
  | 0, _, _, _ => none
  | k + 1, x0, x1, x5 => if x5 < (x0.length : Int) then (if 0 ≤ x5 then (if (rd x0 x5) = x1 then (laws_heldIntS.l0 k x0 (wrap64 (x1 + 1)) (wrap64 (x5 + 1))) else (some (-1))) else (none)) else (some x1)
def laws_heldIntS.f (k : Nat) (l0 : List Int) (a1 : Int) : Option (Int) := laws_heldIntS.l0 k l0 a1 0
instance laws_heldIntS.lp0 {k : Nat} {r : Int} {Q : Wr → Prop} {p0 : List Int} {x1_1 : Int} {x5_1 : Int} : Lp (laws_heldIntS.l0 k p0 x1_1 x5_1 = some r) Q (fun k => ∀ {x1_1 : Int} {x5_1 : Int}, laws_heldIntS.l0 k p0 x1_1 x5_1 = some r → Q [(2, .p (.c (.v (.int .i64 x1_1)))), (10, .p (.c (.v (.int .i64 x5_1))))]) k [(2, .p (.c (.v (.int .i64 x1_1)))), (10, .p (.c (.v (.int .i64 x5_1))))] := ⟨fun j h => j h⟩
set_option maxRecDepth 8000 in
set_option maxHeartbeats 2000000 in
theorem laws_heldIntS.con (k : Nat) (l0 : List Int) (a1 : Int) (r : Int) (H : laws_heldIntS.f k l0 a1 = some r) : Con Try.prog 27 [.p (.c (.sl (.int .i64) l0)), .p (.c (.v (.int .i64 a1)))] (.p (.c (.v (.int .i64 r)))) := by
  refine Con.mk' (fn := Try.f27) Try.func27 rfl (by kernel_rfl) rfl rfl rfl fun X w0 gs hF => ?_
  unfold laws_heldIntS.f at H
  exact auto
instance laws_heldIntS.ctr {k : Nat} {l0 : List Int} {a1 : Int} {r : Int} : Ctr (laws_heldIntS.f k l0 a1 = some r) (Con Try.prog 27 [.p (.c (.sl (.int .i64) l0)), .p (.c (.v (.int .i64 a1)))] (.p (.c (.v (.int .i64 r))))) := ⟨laws_heldIntS.con _ _ _ _⟩
end Go.Proofs.Ytipcjpgonncinaa.V
