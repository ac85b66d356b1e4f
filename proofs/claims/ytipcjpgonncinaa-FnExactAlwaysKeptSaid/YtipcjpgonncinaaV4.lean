/- BY EV: what the Go functions compute (read off the print), and that their calls come to it. No condition. -/
import Derived.Test.YtipcjpgonncinaaVEU
import Derived.Test.YtipcjpgonncinaaV2
import Derived.Test.YtipcjpgonncinaaV3
set_option linter.unusedVariables false
set_option linter.unusedSimpArgs false
namespace Go.Proofs.Ytipcjpgonncinaa.V
open Go.RowKit Go.Proofs Go.Proofs.YtipcjpgonncinaaW.PrintWords Go.Proofs.YtipcjpgonncinaaW.PrintLast EV
/-! ### spec_l1Most: function 81 -/
def spec_l1Most.f (a0 : Int) (a1 : Int) : Option (Int) := if a0 > a1 then (some a0) else (some a1)
set_option maxRecDepth 8000 in
set_option maxHeartbeats 2000000 in
theorem spec_l1Most.con (a0 : Int) (a1 : Int) (r : Int) (H : spec_l1Most.f a0 a1 = some r) : Con Try.prog 81 [.p (.c (.v (.int .i64 a0))), .p (.c (.v (.int .i64 a1)))] (.p (.c (.v (.int .i64 r)))) := by
  refine Con.mk' (fn := Try.f81) Try.func81 rfl (by kernel_rfl) rfl rfl rfl fun X w0 gs hF => ?_
  unfold spec_l1Most.f at H
  exact auto
instance spec_l1Most.ctr {a0 : Int} {a1 : Int} {r : Int} : Ctr (spec_l1Most.f a0 a1 = some r) (Con Try.prog 81 [.p (.c (.v (.int .i64 a0))), .p (.c (.v (.int .i64 a1)))] (.p (.c (.v (.int .i64 r))))) := ⟨spec_l1Most.con _ _ _⟩
/-! ### spec_ntAt: function 82 -/
def spec_ntAt.l0 : Nat → Int → List Int → List (S51) → Int → Int → Option (List Int)
  | 0, _, _, _, _, _ => none
  | k + 1, x1, x5, x8, x9, x10 => if x10 < x9 then (if 0 ≤ x10 then (if x10 < (x8.length : Int) then ((spec_l1In.f x1 ((rd_T51 x8 x10).f1) (wrap64 ((wrap64 (((rd_T51 x8 x10).f1) + ((rd_T51 x8 x10).f2))) - 1))).bind fun t252 => (if t252 = true then ((spec_l1Put.f k x5 ((rd_T51 x8 x10).f0)).bind fun t253 => (spec_ntAt.l0 k x1 t253 x8 x9 (wrap64 (x10 + 1)))) else (spec_ntAt.l0 k x1 x5 x8 x9 (wrap64 (x10 + 1))))) else (none)) else (none)) else (some x5)
def spec_ntAt.f (k : Nat) (l0 : List (S51)) (a1 : Int) : Option (List Int) := spec_ntAt.l0 k a1 ([] : List Int) l0 (l0.length : Int) 0
instance spec_ntAt.lp0 {k : Nat} {r : List Int} {Q : Wr → Prop} {p0 : Int} {p2 : List (S51)} {p3 : Int} {x5_1 : List Int} {x10_1 : Int} : Lp (spec_ntAt.l0 k p0 x5_1 p2 p3 x10_1 = some r) Q (fun k => ∀ {x5_1 : List Int} {x10_1 : Int}, spec_ntAt.l0 k p0 x5_1 p2 p3 x10_1 = some r → Q [(10, .p (.c (.rp (Try.f82.ntmps + 5)))), (2 * (Try.f82.ntmps + 5) + 1, .row 3 (.int .i64) x5_1), (20, .p (.c (.v (.int .i64 x10_1))))]) k [(10, .p (.c (.rp (Try.f82.ntmps + 5)))), (2 * (Try.f82.ntmps + 5) + 1, .row 3 (.int .i64) x5_1), (20, .p (.c (.v (.int .i64 x10_1))))] := ⟨fun j h => j h⟩
set_option maxRecDepth 8000 in
set_option maxHeartbeats 2000000 in
theorem spec_ntAt.con (k : Nat) (l0 : List (S51)) (a1 : Int) (r : List Int) (H : spec_ntAt.f k l0 a1 = some r) : Con Try.prog 82 [.p (.c (.sl K51 l0)), .p (.c (.v (.int .i64 a1)))] (.p (.c (.ow 3 (.int .i64) r))) := by
  refine Con.mk' (fn := Try.f82) Try.func82 rfl (by kernel_rfl) rfl rfl rfl fun X w0 gs hF => ?_
  unfold spec_ntAt.f at H
  exact auto
instance spec_ntAt.ctr {k : Nat} {l0 : List (S51)} {a1 : Int} {r : List Int} : Ctr (spec_ntAt.f k l0 a1 = some r) (Con Try.prog 82 [.p (.c (.sl K51 l0)), .p (.c (.v (.int .i64 a1)))] (.p (.c (.ow 3 (.int .i64) r)))) := ⟨spec_ntAt.con _ _ _ _⟩
/-! ### spec_thVoices: function 79 -/
def spec_thVoices.l0 : Nat → List (S51) → Int → List (S51) → Int → Int → Option (Int)
  | 0, _, _, _, _, _ => none
  | k + 1, x0, x3, x6, x7, x8 => if x8 < x7 then (if 0 ≤ x8 then (if x8 < (x6.length : Int) then ((spec_ntAt.f k x0 ((rd_T51 x6 x8).f1)).bind fun t258 => ((spec_l1Most.f x3 (t258.length : Int)).bind fun t261 => (spec_thVoices.l0 k x0 t261 x6 x7 (wrap64 (x8 + 1))))) else (none)) else (none)) else (some x3)
def spec_thVoices.f (k : Nat) (l0 : List (S51)) : Option (Int) := spec_thVoices.l0 k l0 0 l0 (l0.length : Int) 0
instance spec_thVoices.lp0 {k : Nat} {r : Int} {Q : Wr → Prop} {p0 : List (S51)} {p2 : List (S51)} {p3 : Int} {x3_1 : Int} {x8_1 : Int} : Lp (spec_thVoices.l0 k p0 x3_1 p2 p3 x8_1 = some r) Q (fun k => ∀ {x3_1 : Int} {x8_1 : Int}, spec_thVoices.l0 k p0 x3_1 p2 p3 x8_1 = some r → Q [(6, .p (.c (.v (.int .i64 x3_1)))), (16, .p (.c (.v (.int .i64 x8_1))))]) k [(6, .p (.c (.v (.int .i64 x3_1)))), (16, .p (.c (.v (.int .i64 x8_1))))] := ⟨fun j h => j h⟩
set_option maxRecDepth 8000 in
set_option maxHeartbeats 2000000 in
theorem spec_thVoices.con (k : Nat) (l0 : List (S51)) (r : Int) (H : spec_thVoices.f k l0 = some r) : Con Try.prog 79 [.p (.c (.sl K51 l0))] (.p (.c (.v (.int .i64 r)))) := by
  refine Con.mk' (fn := Try.f79) Try.func79 rfl (by kernel_rfl) rfl rfl rfl fun X w0 gs hF => ?_
  unfold spec_thVoices.f at H
  exact auto
instance spec_thVoices.ctr {k : Nat} {l0 : List (S51)} {r : Int} : Ctr (spec_thVoices.f k l0 = some r) (Con Try.prog 79 [.p (.c (.sl K51 l0))] (.p (.c (.v (.int .i64 r))))) := ⟨spec_thVoices.con _ _ _⟩
/-! ### spec_thIs: function 72 -/
def spec_thIs.f (k : Nat) (l0_0 : List Int) (a0_1 : Int) (l1 : List (S51)) (a2 : Int) (l3 : List Int) : Option (Bool) := (spec_thKept.f k l1 l3).bind fun t263 => ((spec_inPlays.f k l0_0 a0_1 t263).bind fun t266 => (if t266 = true then ((spec_thVoices.f k t263).bind fun t267 => (some (decide (t267 ≤ a2)))) else (some false)))
set_option maxRecDepth 8000 in
set_option maxHeartbeats 2000000 in
theorem spec_thIs.con (k : Nat) (l0_0 : List Int) (a0_1 : Int) (l1 : List (S51)) (a2 : Int) (l3 : List Int) (r : Bool) (H : spec_thIs.f k l0_0 a0_1 l1 a2 l3 = some r) : Con Try.prog 72 [.p (.ag [.sl (.int .i64) l0_0, .v (.int .i64 a0_1)]), .p (.c (.sl K51 l1)), .p (.c (.v (.int .i64 a2))), .p (.c (.sl (.int .i64) l3))] (.p (.c (.v (.bool r)))) := by
  refine Con.mk' (fn := Try.f72) Try.func72 rfl (by kernel_rfl) rfl rfl rfl fun X w0 gs hF => ?_
  unfold spec_thIs.f at H
  exact auto
instance spec_thIs.ctr {k : Nat} {l0_0 : List Int} {a0_1 : Int} {l1 : List (S51)} {a2 : Int} {l3 : List Int} {r : Bool} : Ctr (spec_thIs.f k l0_0 a0_1 l1 a2 l3 = some r) (Con Try.prog 72 [.p (.ag [.sl (.int .i64) l0_0, .v (.int .i64 a0_1)]), .p (.c (.sl K51 l1)), .p (.c (.v (.int .i64 a2))), .p (.c (.sl (.int .i64) l3))] (.p (.c (.v (.bool r))))) := ⟨spec_thIs.con _ _ _ _ _ _ _⟩
/-! ### impl_isPitch: function 59 -/
def impl_isPitch.f (a0 : Int) : Option (Bool) := if a0 ≥ 24 then (some (decide (a0 ≤ 96))) else (some false)
set_option maxRecDepth 8000 in
set_option maxHeartbeats 2000000 in
theorem impl_isPitch.con (a0 : Int) (r : Bool) (H : impl_isPitch.f a0 = some r) : Con Try.prog 59 [.p (.c (.v (.int .i64 a0)))] (.p (.c (.v (.bool r)))) := by
  refine Con.mk' (fn := Try.f59) Try.func59 rfl (by kernel_rfl) rfl rfl rfl fun X w0 gs hF => ?_
  unfold impl_isPitch.f at H
  exact auto
instance impl_isPitch.ctr {a0 : Int} {r : Bool} : Ctr (impl_isPitch.f a0 = some r) (Con Try.prog 59 [.p (.c (.v (.int .i64 a0)))] (.p (.c (.v (.bool r))))) := ⟨impl_isPitch.con _ _⟩
/-! ### impl_IsInstrument: function 38 -/
mutual
def impl_IsInstrument.j0 : Nat → Bool → List Int → Int → Option (Bool)
  | 0, _, _, _ => none
  | k + 1, x24, x269000, x269001 => if x24 = true then (some false) else (impl_IsInstrument.l0 k x269000 (x269000.length : Int) 0 x269000 x269001)
def impl_IsInstrument.l0 : Nat → List Int → Int → Int → List Int → Int → Option (Bool)
  | 0, _, _, _, _, _ => none
  | k + 1, x26, x27, x28, x269000, x269001 => if x28 < x27 then (if 0 ≤ x28 then (if x28 < (x26.length : Int) then ((impl_isPitch.f (rd x26 x28)).bind fun t270 => (if t270 = true then (if x28 > 0 then (if 0 ≤ (wrap64 (x28 - 1)) then (if (wrap64 (x28 - 1)) < (x269000.length : Int) then (if (rd x26 x28) ≤ (rd x269000 (wrap64 (x28 - 1))) then (some false) else (impl_IsInstrument.l0 k x26 x27 (wrap64 (x28 + 1)) x269000 x269001)) else (none)) else (none)) else (impl_IsInstrument.l0 k x26 x27 (wrap64 (x28 + 1)) x269000 x269001)) else (some false))) else (none)) else (none)) else (some true)
end
def impl_IsInstrument.f (k : Nat) (l0_0 : List Int) (a0_1 : Int) : Option (Bool) := if (l0_0.length : Int) < 1 then (impl_IsInstrument.j0 k true l0_0 a0_1) else (if (l0_0.length : Int) > 20 then (impl_IsInstrument.j0 k true l0_0 a0_1) else (if a0_1 < 1 then (impl_IsInstrument.j0 k true l0_0 a0_1) else (impl_IsInstrument.j0 k (decide (a0_1 > 20)) l0_0 a0_1)))
instance impl_IsInstrument.lp0 {k : Nat} {r : Bool} {Q : Wr → Prop} {p0 : List Int} {p1 : Int} {p3 : List Int} {p4 : Int} {x28_2 : Int} : Lp (impl_IsInstrument.l0 k p0 p1 x28_2 p3 p4 = some r) Q (fun k => ∀ {x28_2 : Int}, impl_IsInstrument.l0 k p0 p1 x28_2 p3 p4 = some r → Q [(56, .p (.c (.v (.int .i64 x28_2))))]) k [(56, .p (.c (.v (.int .i64 x28_2))))] := ⟨fun j h => j h⟩
set_option maxRecDepth 8000 in
set_option maxHeartbeats 2000000 in
theorem impl_IsInstrument.con (k : Nat) (l0_0 : List Int) (a0_1 : Int) (r : Bool) (H : impl_IsInstrument.f k l0_0 a0_1 = some r) : Con Try.prog 38 [.p (.ag [.sl (.int .i64) l0_0, .v (.int .i64 a0_1)])] (.p (.c (.v (.bool r)))) := by
  refine Con.mk' (fn := Try.f38) Try.func38 rfl (by kernel_rfl) rfl rfl rfl fun X w0 gs hF => ?_
  unfold impl_IsInstrument.f at H
  exact auto
instance impl_IsInstrument.ctr {k : Nat} {l0_0 : List Int} {a0_1 : Int} {r : Bool} : Ctr (impl_IsInstrument.f k l0_0 a0_1 = some r) (Con Try.prog 38 [.p (.ag [.sl (.int .i64) l0_0, .v (.int .i64 a0_1)])] (.p (.c (.v (.bool r))))) := ⟨impl_IsInstrument.con _ _ _ _⟩
/-! ### impl_noteEnd: function 41 -/
def impl_noteEnd.f (a0_0 : Int) (a0_1 : Int) (a0_2 : Int) : Option (Int) := some (wrap64 (a0_1 + a0_2))
set_option maxRecDepth 8000 in
set_option maxHeartbeats 2000000 in
theorem impl_noteEnd.con (a0_0 : Int) (a0_1 : Int) (a0_2 : Int) (r : Int) (H : impl_noteEnd.f a0_0 a0_1 a0_2 = some r) : Con Try.prog 41 [.p (.ag [.v (.int .i64 a0_0), .v (.int .i64 a0_1), .v (.int .i64 a0_2)])] (.p (.c (.v (.int .i64 r)))) := by
  refine Con.mk' (fn := Try.f41) Try.func41 rfl (by kernel_rfl) rfl rfl rfl fun X w0 gs hF => ?_
  unfold impl_noteEnd.f at H
  exact auto
instance impl_noteEnd.ctr {a0_0 : Int} {a0_1 : Int} {a0_2 : Int} {r : Int} : Ctr (impl_noteEnd.f a0_0 a0_1 a0_2 = some r) (Con Try.prog 41 [.p (.ag [.v (.int .i64 a0_0), .v (.int .i64 a0_1), .v (.int .i64 a0_2)])] (.p (.c (.v (.int .i64 r))))) := ⟨impl_noteEnd.con _ _ _ _⟩
/-! ### impl_IsNote: function 68 -/
def impl_IsNote.f (a0_0 : Int) (a0_1 : Int) (a0_2 : Int) : Option (Bool) := if a0_0 ≥ 24 then (if a0_0 ≤ 96 then (if a0_1 ≥ 0 then (if a0_1 ≤ 999 then (if a0_2 ≥ 1 then (some (decide (a0_2 ≤ 99))) else (some false)) else (some false)) else (some false)) else (some false)) else (some false)
set_option maxRecDepth 8000 in
set_option maxHeartbeats 2000000 in
theorem impl_IsNote.con (a0_0 : Int) (a0_1 : Int) (a0_2 : Int) (r : Bool) (H : impl_IsNote.f a0_0 a0_1 a0_2 = some r) : Con Try.prog 68 [.p (.ag [.v (.int .i64 a0_0), .v (.int .i64 a0_1), .v (.int .i64 a0_2)])] (.p (.c (.v (.bool r)))) := by
  refine Con.mk' (fn := Try.f68) Try.func68 rfl (by kernel_rfl) rfl rfl rfl fun X w0 gs hF => ?_
  unfold impl_IsNote.f at H
  exact auto
instance impl_IsNote.ctr {a0_0 : Int} {a0_1 : Int} {a0_2 : Int} {r : Bool} : Ctr (impl_IsNote.f a0_0 a0_1 a0_2 = some r) (Con Try.prog 68 [.p (.ag [.v (.int .i64 a0_0), .v (.int .i64 a0_1), .v (.int .i64 a0_2)])] (.p (.c (.v (.bool r))))) := ⟨impl_IsNote.con _ _ _ _⟩
/-! ### impl_noteLess: function 69 -/
def impl_noteLess.f (a0_0 : Int) (a0_1 : Int) (a0_2 : Int) (a1_0 : Int) (a1_1 : Int) (a1_2 : Int) : Option (Bool) := if a0_1 = a1_1 then (some (decide (a0_0 < a1_0))) else (some (decide (a0_1 < a1_1)))
set_option maxRecDepth 8000 in
set_option maxHeartbeats 2000000 in
theorem impl_noteLess.con (a0_0 : Int) (a0_1 : Int) (a0_2 : Int) (a1_0 : Int) (a1_1 : Int) (a1_2 : Int) (r : Bool) (H : impl_noteLess.f a0_0 a0_1 a0_2 a1_0 a1_1 a1_2 = some r) : Con Try.prog 69 [.p (.ag [.v (.int .i64 a0_0), .v (.int .i64 a0_1), .v (.int .i64 a0_2)]), .p (.ag [.v (.int .i64 a1_0), .v (.int .i64 a1_1), .v (.int .i64 a1_2)])] (.p (.c (.v (.bool r)))) := by
  refine Con.mk' (fn := Try.f69) Try.func69 rfl (by kernel_rfl) rfl rfl rfl fun X w0 gs hF => ?_
  unfold impl_noteLess.f at H
  exact auto
instance impl_noteLess.ctr {a0_0 : Int} {a0_1 : Int} {a0_2 : Int} {a1_0 : Int} {a1_1 : Int} {a1_2 : Int} {r : Bool} : Ctr (impl_noteLess.f a0_0 a0_1 a0_2 a1_0 a1_1 a1_2 = some r) (Con Try.prog 69 [.p (.ag [.v (.int .i64 a0_0), .v (.int .i64 a0_1), .v (.int .i64 a0_2)]), .p (.ag [.v (.int .i64 a1_0), .v (.int .i64 a1_1), .v (.int .i64 a1_2)])] (.p (.c (.v (.bool r))))) := ⟨impl_noteLess.con _ _ _ _ _ _ _⟩
/-! ### impl_IsScore: function 60 -/
mutual
def impl_IsScore.l0 : Nat → List (S51) → List (S51) → Int → Int → Option (Bool)
  | 0, _, _, _, _ => none
  | k + 1, x0, x10, x11, x12 => if x12 < x11 then (if 0 ≤ x12 then (if x12 < (x10.length : Int) then ((impl_IsNote.f ((rd_T51 x10 x12).f0) ((rd_T51 x10 x12).f1) ((rd_T51 x10 x12).f2)).bind fun t278 => (if t278 = true then (if x12 > 0 then (if 0 ≤ (wrap64 (x12 - 1)) then (if (wrap64 (x12 - 1)) < (x0.length : Int) then ((impl_noteLess.f ((rd_T51 x0 (wrap64 (x12 - 1))).f0) ((rd_T51 x0 (wrap64 (x12 - 1))).f1) ((rd_T51 x0 (wrap64 (x12 - 1))).f2) ((rd_T51 x10 x12).f0) ((rd_T51 x10 x12).f1) ((rd_T51 x10 x12).f2)).bind fun t280 => (impl_IsScore.j1 k x0 x12 x10 x11 x12 (!t280) ((rd_T51 x10 x12).f0) ((rd_T51 x10 x12).f1) ((rd_T51 x10 x12).f2))) else (none)) else (none)) else (impl_IsScore.j1 k x0 x12 x10 x11 x12 false ((rd_T51 x10 x12).f0) ((rd_T51 x10 x12).f1) ((rd_T51 x10 x12).f2))) else (impl_IsScore.j1 k x0 x12 x10 x11 x12 true ((rd_T51 x10 x12).f0) ((rd_T51 x10 x12).f1) ((rd_T51 x10 x12).f2)))) else (none)) else (none)) else (some true)
def impl_IsScore.j1 : Nat → List (S51) → Int → List (S51) → Int → Int → Bool → Int → Int → Int → Option (Bool)
  | 0, _, _, _, _, _, _, _, _, _ => none
  | k + 1, x0, x3, x10, x11, x12, x33, x278000, x278001, x278002 => if x33 = true then (some false) else (if 0 ≤ x3 then (if x3 ≤ (x0.length : Int) then ((some (x0.take (x3 : Int).toNat : List (S51))).bind fun y281 => (impl_IsScore.l1 k x0 x10 x11 x12 y281 (y281.length : Int) 0 x278000 x278001 x278002)) else (none)) else (none))
def impl_IsScore.l1 : Nat → List (S51) → List (S51) → Int → Int → List (S51) → Int → Int → Int → Int → Int → Option (Bool)
  | 0, _, _, _, _, _, _, _, _, _, _ => none
  | k + 1, x0, x10, x11, x12, x36, x37, x38, x278000, x278001, x278002 => if x38 < x37 then (if 0 ≤ x38 then (if x38 < (x36.length : Int) then (if ((rd_T51 x36 x38).f0) = x278000 then ((impl_noteEnd.f ((rd_T51 x36 x38).f0) ((rd_T51 x36 x38).f1) ((rd_T51 x36 x38).f2)).bind fun t287 => (if t287 > x278001 then (some false) else (impl_IsScore.l1 k x0 x10 x11 x12 x36 x37 (wrap64 (x38 + 1)) x278000 x278001 x278002))) else (impl_IsScore.l1 k x0 x10 x11 x12 x36 x37 (wrap64 (x38 + 1)) x278000 x278001 x278002)) else (none)) else (none)) else (impl_IsScore.l0 k x0 x10 x11 (wrap64 (x12 + 1)))
end
def impl_IsScore.f (k : Nat) (l0 : List (S51)) : Option (Bool) := if (l0.length : Int) > 30 then (some false) else (impl_IsScore.l0 k l0 l0 (l0.length : Int) 0)
instance impl_IsScore.lp0 {k : Nat} {r : Bool} {Q : Wr → Prop} {p0 : List (S51)} {p1 : List (S51)} {p2 : Int} {x12_1 : Int} : Lp (impl_IsScore.l0 k p0 p1 p2 x12_1 = some r) Q (fun k => ∀ {x12_1 : Int}, impl_IsScore.l0 k p0 p1 p2 x12_1 = some r → Q [(24, .p (.c (.v (.int .i64 x12_1))))]) k [(24, .p (.c (.v (.int .i64 x12_1))))] := ⟨fun j h => j h⟩
instance impl_IsScore.lp1 {k : Nat} {r : Bool} {Q : Wr → Prop} {p0 : List (S51)} {p1 : List (S51)} {p2 : Int} {p3 : Int} {p4 : List (S51)} {p5 : Int} {p7 : Int} {p8 : Int} {p9 : Int} {x38_3 : Int} : Lp (impl_IsScore.l1 k p0 p1 p2 p3 p4 p5 x38_3 p7 p8 p9 = some r) Q (fun k => ∀ {x38_3 : Int}, impl_IsScore.l1 k p0 p1 p2 p3 p4 p5 x38_3 p7 p8 p9 = some r → Q [(76, .p (.c (.v (.int .i64 x38_3))))]) k [(76, .p (.c (.v (.int .i64 x38_3))))] := ⟨fun j h => j h⟩
set_option maxRecDepth 8000 in
set_option maxHeartbeats 2000000 in
theorem impl_IsScore.con (k : Nat) (l0 : List (S51)) (r : Bool) (H : impl_IsScore.f k l0 = some r) : Con Try.prog 60 [.p (.c (.sl K51 l0))] (.p (.c (.v (.bool r)))) := by
  refine Con.mk' (fn := Try.f60) Try.func60 rfl (by kernel_rfl) rfl rfl rfl fun X w0 gs hF => ?_
  unfold impl_IsScore.f at H
  exact auto
instance impl_IsScore.ctr {k : Nat} {l0 : List (S51)} {r : Bool} : Ctr (impl_IsScore.f k l0 = some r) (Con Try.prog 60 [.p (.c (.sl K51 l0))] (.p (.c (.v (.bool r))))) := ⟨impl_IsScore.con _ _ _⟩
end Go.Proofs.Ytipcjpgonncinaa.V
