/- BY EV: what the Go functions compute (read off the print), and that their calls come to it. No condition. -/
import Derived.Test.YtgjpphcbdbfhlaaGreatLEU
import Derived.Test.YtgjpphcbdbfhlaaGreatL2
import Derived.Test.YtgjpphcbdbfhlaaGreatL3
import Derived.Test.YtgjpphcbdbfhlaaGreatL4
import Derived.Test.YtgjpphcbdbfhlaaGreatL5
import Derived.Test.YtgjpphcbdbfhlaaGreatL6
set_option linter.unusedVariables false
set_option linter.unusedSimpArgs false
namespace Go.Proofs.YtgjpphcbdbfhlaaGreat.L
open Go.RowKit Go.Proofs Go.Proofs.YtgjpphcbdbfhlaaGreatW.PrintWords Go.Proofs.YtgjpphcbdbfhlaaGreatW.PrintLast EV
/-! ### impl_NoteFor: function 15 -/
def impl_NoteFor.f (k : Nat) (l0_0 : List Int) (a0_1 : Int) (a1_0 : Int) (a1_1 : Int) (a1_2 : Int) : Option (Int × Int × Int × Bool) := (impl_IsInstrument.f k l0_0 a0_1).bind fun t730 => (if t730 = true then ((impl_IsHole.f a1_0 a1_1 a1_2).bind fun t731 => (if t731 = true then ((impl_noteFor.f k l0_0 a0_1 a1_0 a1_1 a1_2).bind fun bt732 => (some (bt732.1, bt732.2.1, bt732.2.2.1, bt732.2.2.2))) else (some (0, 0, 0, false)))) else (some (0, 0, 0, false)))
set_option maxRecDepth 20000 in
set_option maxHeartbeats 2000000 in
theorem impl_NoteFor.con (k : Nat) (l0_0 : List Int) (a0_1 : Int) (a1_0 : Int) (a1_1 : Int) (a1_2 : Int) (r1 : Int) (r2 : Int) (r3 : Int) (r4 : Bool) (H : impl_NoteFor.f k l0_0 a0_1 a1_0 a1_1 a1_2 = some (r1, r2, r3, r4)) : Con Tryz.prog 15 [.p (.ag [.sl (.int .i64) l0_0, .v (.int .i64 a0_1)]), .p (.ag [.v (.int .i64 a1_0), .v (.int .i64 a1_1), .v (.int .i64 a1_2)])] (.tp [.ag [.v (.int .i64 r1), .v (.int .i64 r2), .v (.int .i64 r3)], .c (.v (.bool r4))]) := by
  refine Con.mk' (fn := Tryz.f15) Tryz.func15 rfl (by kernel_rfl) rfl rfl rfl fun X w0 gs hF => ?_
  unfold impl_NoteFor.f at H
  exact auto
instance impl_NoteFor.ctr {k : Nat} {l0_0 : List Int} {a0_1 : Int} {a1_0 : Int} {a1_1 : Int} {a1_2 : Int} {t_ : (Int) × (Int) × (Int) × (Bool)} : Ctr (impl_NoteFor.f k l0_0 a0_1 a1_0 a1_1 a1_2 = some t_) (Con Tryz.prog 15 [.p (.ag [.sl (.int .i64) l0_0, .v (.int .i64 a0_1)]), .p (.ag [.v (.int .i64 a1_0), .v (.int .i64 a1_1), .v (.int .i64 a1_2)])] (.tp [.ag [.v (.int .i64 t_.1), .v (.int .i64 t_.2.1), .v (.int .i64 t_.2.2.1)], .c (.v (.bool t_.2.2.2))])) := ⟨fun h => impl_NoteFor.con _ _ _ _ _ _ (t_.1) (t_.2.1) (t_.2.2.1) (t_.2.2.2) h⟩
/-! ### spec_laNote: function 64 -/
def spec_laNote.j0 : Nat → Bool → List Int → Int → Int → Int → Int → Option (Int × Int × Int × Bool)
  | 0, _, _, _, _, _, _ => none
  | k + 1, x24, x737000, x737001, x738000, x738001, x738002 => if x24 = true then (some (0, 0, 0, false)) else (if 0 ≤ x738000 then (if x738000 < (x737000.length : Int) then ((spec_ntNote.f (rd x737000 x738000) (wrap64 (Int.tdiv x738001 2)) (wrap64 ((wrap64 (Int.tdiv (wrap64 (x738002 + 1)) 2)) - (wrap64 (Int.tdiv x738001 2))))).bind fun t741 => (if t741 = true then (some (rd x737000 x738000, wrap64 (Int.tdiv x738001 2), wrap64 ((wrap64 (Int.tdiv (wrap64 (x738002 + 1)) 2)) - (wrap64 (Int.tdiv x738001 2))), true)) else (some (0, 0, 0, false)))) else (none)) else (none))
def spec_laNote.f (k : Nat) (l0_0 : List Int) (a0_1 : Int) (a1_0 : Int) (a1_1 : Int) (a1_2 : Int) : Option (Int × Int × Int × Bool) := if a1_0 ≥ (l0_0.length : Int) then (spec_laNote.j0 k true l0_0 a0_1 a1_0 a1_1 a1_2) else (if (Int.tmod a1_1 2) = 0 then (spec_laNote.j0 k ((Int.tmod a1_2 2) != 1) l0_0 a0_1 a1_0 a1_1 a1_2) else (spec_laNote.j0 k true l0_0 a0_1 a1_0 a1_1 a1_2))
set_option maxRecDepth 20000 in
set_option maxHeartbeats 2000000 in
theorem spec_laNote.con (k : Nat) (l0_0 : List Int) (a0_1 : Int) (a1_0 : Int) (a1_1 : Int) (a1_2 : Int) (r1 : Int) (r2 : Int) (r3 : Int) (r4 : Bool) (H : spec_laNote.f k l0_0 a0_1 a1_0 a1_1 a1_2 = some (r1, r2, r3, r4)) : Con Tryz.prog 64 [.p (.ag [.sl (.int .i64) l0_0, .v (.int .i64 a0_1)]), .p (.ag [.v (.int .i64 a1_0), .v (.int .i64 a1_1), .v (.int .i64 a1_2)])] (.tp [.ag [.v (.int .i64 r1), .v (.int .i64 r2), .v (.int .i64 r3)], .c (.v (.bool r4))]) := by
  refine Con.mk' (fn := Tryz.f64) Tryz.func64 rfl (by kernel_rfl) rfl rfl rfl fun X w0 gs hF => ?_
  unfold spec_laNote.f at H
  exact auto
instance spec_laNote.ctr {k : Nat} {l0_0 : List Int} {a0_1 : Int} {a1_0 : Int} {a1_1 : Int} {a1_2 : Int} {t_ : (Int) × (Int) × (Int) × (Bool)} : Ctr (spec_laNote.f k l0_0 a0_1 a1_0 a1_1 a1_2 = some t_) (Con Tryz.prog 64 [.p (.ag [.sl (.int .i64) l0_0, .v (.int .i64 a0_1)]), .p (.ag [.v (.int .i64 a1_0), .v (.int .i64 a1_1), .v (.int .i64 a1_2)])] (.tp [.ag [.v (.int .i64 t_.1), .v (.int .i64 t_.2.1), .v (.int .i64 t_.2.2.1)], .c (.v (.bool t_.2.2.2))])) := ⟨fun h => spec_laNote.con _ _ _ _ _ _ (t_.1) (t_.2.1) (t_.2.2.1) (t_.2.2.2) h⟩
/-! ### spec_NoteFor: function 16 -/
def spec_NoteFor.f (k : Nat) (l0_0 : List Int) (a0_1 : Int) (a1_0 : Int) (a1_1 : Int) (a1_2 : Int) : Option (Int × Int × Int × Bool) := (spec_inGood.f k l0_0 a0_1).bind fun t745 => (if t745 = true then ((spec_shHole.f a1_0 a1_1 a1_2).bind fun t746 => (if t746 = true then ((spec_laNote.f k l0_0 a0_1 a1_0 a1_1 a1_2).bind fun bt747 => (some (bt747.1, bt747.2.1, bt747.2.2.1, bt747.2.2.2))) else (some (0, 0, 0, false)))) else (some (0, 0, 0, false)))
set_option maxRecDepth 20000 in
set_option maxHeartbeats 2000000 in
theorem spec_NoteFor.con (k : Nat) (l0_0 : List Int) (a0_1 : Int) (a1_0 : Int) (a1_1 : Int) (a1_2 : Int) (r1 : Int) (r2 : Int) (r3 : Int) (r4 : Bool) (H : spec_NoteFor.f k l0_0 a0_1 a1_0 a1_1 a1_2 = some (r1, r2, r3, r4)) : Con Tryz.prog 16 [.p (.ag [.sl (.int .i64) l0_0, .v (.int .i64 a0_1)]), .p (.ag [.v (.int .i64 a1_0), .v (.int .i64 a1_1), .v (.int .i64 a1_2)])] (.tp [.ag [.v (.int .i64 r1), .v (.int .i64 r2), .v (.int .i64 r3)], .c (.v (.bool r4))]) := by
  refine Con.mk' (fn := Tryz.f16) Tryz.func16 rfl (by kernel_rfl) rfl rfl rfl fun X w0 gs hF => ?_
  unfold spec_NoteFor.f at H
  exact auto
instance spec_NoteFor.ctr {k : Nat} {l0_0 : List Int} {a0_1 : Int} {a1_0 : Int} {a1_1 : Int} {a1_2 : Int} {t_ : (Int) × (Int) × (Int) × (Bool)} : Ctr (spec_NoteFor.f k l0_0 a0_1 a1_0 a1_1 a1_2 = some t_) (Con Tryz.prog 16 [.p (.ag [.sl (.int .i64) l0_0, .v (.int .i64 a0_1)]), .p (.ag [.v (.int .i64 a1_0), .v (.int .i64 a1_1), .v (.int .i64 a1_2)])] (.tp [.ag [.v (.int .i64 t_.1), .v (.int .i64 t_.2.1), .v (.int .i64 t_.2.2.1)], .c (.v (.bool t_.2.2.2))])) := ⟨fun h => spec_NoteFor.con _ _ _ _ _ _ (t_.1) (t_.2.1) (t_.2.2.1) (t_.2.2.2) h⟩
/-! ### laws_qSheet: function 17 -/
def laws_qSheet.l0 : Nat → List (S40) → List (S40) → Int → Int → Option (Bool)
  | 0, _, _, _, _ => none
  | k + 1, x0, x1, x12, x13 => if x13 < x12 then (if 0 ≤ x13 then (if x13 < (x0.length : Int) then (if x13 < (x1.length : Int) then (if (!(((rd_T40 x0 x13).f0) == ((rd_T40 x1 x13).f0)) || (!(((rd_T40 x0 x13).f1) == ((rd_T40 x1 x13).f1)) || (!(((rd_T40 x0 x13).f2) == ((rd_T40 x1 x13).f2))))) = true then (some false) else (laws_qSheet.l0 k x0 x1 x12 (wrap64 (x13 + 1)))) else (none)) else (none)) else (none)) else (some true)
def laws_qSheet.f (k : Nat) (l0 : List (S40)) (l1 : List (S40)) : Option (Bool) := if (l0.length : Int) = (l1.length : Int) then (laws_qSheet.l0 k l0 l1 (l0.length : Int) 0) else (some false)
instance laws_qSheet.lp0 {k : Nat} {r : Bool} {Q : Wr → Prop} {p0 : List (S40)} {p1 : List (S40)} {p2 : Int} {x13_1 : Int} : Lp (laws_qSheet.l0 k p0 p1 p2 x13_1 = some r) Q (fun k => ∀ {x13_1 : Int}, laws_qSheet.l0 k p0 p1 p2 x13_1 = some r → Q [(26, .p (.c (.v (.int .i64 x13_1))))]) k [(26, .p (.c (.v (.int .i64 x13_1))))] := ⟨fun j h => j h⟩
set_option maxRecDepth 20000 in
set_option maxHeartbeats 2000000 in
theorem laws_qSheet.con (k : Nat) (l0 : List (S40)) (l1 : List (S40)) (r : Bool) (H : laws_qSheet.f k l0 l1 = some r) : Con Tryz.prog 17 [.p (.c (.sl K40 l0)), .p (.c (.sl K40 l1))] (.p (.c (.v (.bool r)))) := by
  refine Con.mk' (fn := Tryz.f17) Tryz.func17 rfl (by kernel_rfl) rfl rfl rfl fun X w0 gs hF => ?_
  unfold laws_qSheet.f at H
  exact auto
instance laws_qSheet.ctr {k : Nat} {l0 : List (S40)} {l1 : List (S40)} {r : Bool} : Ctr (laws_qSheet.f k l0 l1 = some r) (Con Tryz.prog 17 [.p (.c (.sl K40 l0)), .p (.c (.sl K40 l1))] (.p (.c (.v (.bool r))))) := ⟨laws_qSheet.con _ _ _ _⟩
/-! ### impl_scoreOf: function 98 -/
def impl_scoreOf.f (k : Nat) (l0 : List (S36)) : Option ((List (S36)) × Bool) := (impl_IsScore.f k l0).bind fun t758 => (if t758 = true then (some (l0, true)) else (some (([] : List (S36)), false)))
set_option maxRecDepth 20000 in
set_option maxHeartbeats 2000000 in
theorem impl_scoreOf.con (k : Nat) (l0 : List (S36)) (r1 : List (S36)) (r2 : Bool) (H : impl_scoreOf.f k l0 = some (r1, r2)) : Con Tryz.prog 98 [.p (.c (.ow 36 K36 l0))] (.tp [.c (.ow 36 K36 r1), .c (.v (.bool r2))]) := by
  refine Con.mk' (fn := Tryz.f98) Tryz.func98 rfl (by kernel_rfl) rfl rfl rfl fun X w0 gs hF => ?_
  unfold impl_scoreOf.f at H
  exact auto
instance impl_scoreOf.ctr {k : Nat} {l0 : List (S36)} {t_ : (List (S36)) × (Bool)} : Ctr (impl_scoreOf.f k l0 = some t_) (Con Tryz.prog 98 [.p (.c (.ow 36 K36 l0))] (.tp [.c (.ow 36 K36 t_.1), .c (.v (.bool t_.2))])) := ⟨fun h => impl_scoreOf.con _ _ (t_.1) (t_.2) h⟩
/-! ### impl_Hole_66: function 66 -/
def impl_Hole_66.l0 : Nat → List (S40) → List (S40) → Int → Int → Option (Bool)
  | 0, _, _, _, _ => none
  | k + 1, x0, x1, x12, x13 => if x13 < x12 then (if 0 ≤ x13 then (if x13 < (x0.length : Int) then (if x13 < (x1.length : Int) then (if (!(((rd_T40 x0 x13).f0) == ((rd_T40 x1 x13).f0)) || (!(((rd_T40 x0 x13).f1) == ((rd_T40 x1 x13).f1)) || (!(((rd_T40 x0 x13).f2) == ((rd_T40 x1 x13).f2))))) = true then (some false) else (impl_Hole_66.l0 k x0 x1 x12 (wrap64 (x13 + 1)))) else (none)) else (none)) else (none)) else (some true)
def impl_Hole_66.f (k : Nat) (l0 : List (S40)) (l1 : List (S40)) : Option (Bool) := if (l0.length : Int) = (l1.length : Int) then (impl_Hole_66.l0 k l0 l1 (l0.length : Int) 0) else (some false)
instance impl_Hole_66.lp0 {k : Nat} {r : Bool} {Q : Wr → Prop} {p0 : List (S40)} {p1 : List (S40)} {p2 : Int} {x13_1 : Int} : Lp (impl_Hole_66.l0 k p0 p1 p2 x13_1 = some r) Q (fun k => ∀ {x13_1 : Int}, impl_Hole_66.l0 k p0 p1 p2 x13_1 = some r → Q [(26, .p (.c (.v (.int .i64 x13_1))))]) k [(26, .p (.c (.v (.int .i64 x13_1))))] := ⟨fun j h => j h⟩
set_option maxRecDepth 20000 in
set_option maxHeartbeats 2000000 in
theorem impl_Hole_66.con (k : Nat) (l0 : List (S40)) (l1 : List (S40)) (r : Bool) (H : impl_Hole_66.f k l0 l1 = some r) : Con Tryz.prog 66 [.p (.c (.sl K40 l0)), .p (.c (.sl K40 l1))] (.p (.c (.v (.bool r)))) := by
  refine Con.mk' (fn := Tryz.f66) Tryz.func66 rfl (by kernel_rfl) rfl rfl rfl fun X w0 gs hF => ?_
  unfold impl_Hole_66.f at H
  exact auto
instance impl_Hole_66.ctr {k : Nat} {l0 : List (S40)} {l1 : List (S40)} {r : Bool} : Ctr (impl_Hole_66.f k l0 l1 = some r) (Con Tryz.prog 66 [.p (.c (.sl K40 l0)), .p (.c (.sl K40 l1))] (.p (.c (.v (.bool r))))) := ⟨impl_Hole_66.con _ _ _ _⟩
/-! ### laws_qNotes: function 21 -/
def laws_qNotes.l0 : Nat → List (S36) → List (S36) → Int → Int → Option (Bool)
  | 0, _, _, _, _ => none
  | k + 1, x0, x1, x12, x13 => if x13 < x12 then (if 0 ≤ x13 then (if x13 < (x0.length : Int) then (if x13 < (x1.length : Int) then (if (!(((rd_T36 x0 x13).f0) == ((rd_T36 x1 x13).f0)) || (!(((rd_T36 x0 x13).f1) == ((rd_T36 x1 x13).f1)) || (!(((rd_T36 x0 x13).f2) == ((rd_T36 x1 x13).f2))))) = true then (some false) else (laws_qNotes.l0 k x0 x1 x12 (wrap64 (x13 + 1)))) else (none)) else (none)) else (none)) else (some true)
def laws_qNotes.f (k : Nat) (l0 : List (S36)) (l1 : List (S36)) : Option (Bool) := if (l0.length : Int) = (l1.length : Int) then (laws_qNotes.l0 k l0 l1 (l0.length : Int) 0) else (some false)
instance laws_qNotes.lp0 {k : Nat} {r : Bool} {Q : Wr → Prop} {p0 : List (S36)} {p1 : List (S36)} {p2 : Int} {x13_1 : Int} : Lp (laws_qNotes.l0 k p0 p1 p2 x13_1 = some r) Q (fun k => ∀ {x13_1 : Int}, laws_qNotes.l0 k p0 p1 p2 x13_1 = some r → Q [(26, .p (.c (.v (.int .i64 x13_1))))]) k [(26, .p (.c (.v (.int .i64 x13_1))))] := ⟨fun j h => j h⟩
set_option maxRecDepth 20000 in
set_option maxHeartbeats 2000000 in
theorem laws_qNotes.con (k : Nat) (l0 : List (S36)) (l1 : List (S36)) (r : Bool) (H : laws_qNotes.f k l0 l1 = some r) : Con Tryz.prog 21 [.p (.c (.sl K36 l0)), .p (.c (.sl K36 l1))] (.p (.c (.v (.bool r)))) := by
  refine Con.mk' (fn := Tryz.f21) Tryz.func21 rfl (by kernel_rfl) rfl rfl rfl fun X w0 gs hF => ?_
  unfold laws_qNotes.f at H
  exact auto
instance laws_qNotes.ctr {k : Nat} {l0 : List (S36)} {l1 : List (S36)} {r : Bool} : Ctr (laws_qNotes.f k l0 l1 = some r) (Con Tryz.prog 21 [.p (.c (.sl K36 l0)), .p (.c (.sl K36 l1))] (.p (.c (.v (.bool r))))) := ⟨laws_qNotes.con _ _ _ _⟩
/-! ### spec_laAsked: function 68 -/
def spec_laAsked.f (k : Nat) (l0_0 : List Int) (a0_1 : Int) (l1 : List (S40)) : Option (Bool) := (spec_inGood.f k l0_0 a0_1).bind fun t917 => (if t917 = true then ((spec_shGood.f k l1).bind fun t918 => (some t918)) else (some false))
set_option maxRecDepth 20000 in
set_option maxHeartbeats 2000000 in
theorem spec_laAsked.con (k : Nat) (l0_0 : List Int) (a0_1 : Int) (l1 : List (S40)) (r : Bool) (H : spec_laAsked.f k l0_0 a0_1 l1 = some r) : Con Tryz.prog 68 [.p (.ag [.sl (.int .i64) l0_0, .v (.int .i64 a0_1)]), .p (.c (.sl K40 l1))] (.p (.c (.v (.bool r)))) := by
  refine Con.mk' (fn := Tryz.f68) Tryz.func68 rfl (by kernel_rfl) rfl rfl rfl fun X w0 gs hF => ?_
  unfold spec_laAsked.f at H
  exact auto
instance spec_laAsked.ctr {k : Nat} {l0_0 : List Int} {a0_1 : Int} {l1 : List (S40)} {r : Bool} : Ctr (spec_laAsked.f k l0_0 a0_1 l1 = some r) (Con Tryz.prog 68 [.p (.ag [.sl (.int .i64) l0_0, .v (.int .i64 a0_1)]), .p (.c (.sl K40 l1))] (.p (.c (.v (.bool r))))) := ⟨spec_laAsked.con _ _ _ _ _⟩
/-! ### spec_laTracks: function 73 -/
def spec_laTracks.l0 : Nat → List Int → List (S40) → Int → Int → Option (List Int)
  | 0, _, _, _, _ => none
  | k + 1, x3, x6, x7, x8 => if x8 < x7 then (if 0 ≤ x8 then (if x8 < (x6.length : Int) then ((spec_l1Put.f k x3 ((rd_T40 x6 x8).f0)).bind fun t973 => (spec_laTracks.l0 k t973 x6 x7 (wrap64 (x8 + 1)))) else (none)) else (none)) else (some x3)
def spec_laTracks.f (k : Nat) (l0 : List (S40)) : Option (List Int) := spec_laTracks.l0 k ([] : List Int) l0 (l0.length : Int) 0
instance spec_laTracks.lp0 {k : Nat} {r : List Int} {Q : Wr → Prop} {p1 : List (S40)} {p2 : Int} {x3_1 : List Int} {x8_1 : Int} : Lp (spec_laTracks.l0 k x3_1 p1 p2 x8_1 = some r) Q (fun k => ∀ {x3_1 : List Int} {x8_1 : Int}, spec_laTracks.l0 k x3_1 p1 p2 x8_1 = some r → Q [(6, .p (.c (.rp (Tryz.f73.ntmps + 3)))), (2 * (Tryz.f73.ntmps + 3) + 1, .row 3 (.int .i64) x3_1), (16, .p (.c (.v (.int .i64 x8_1))))]) k [(6, .p (.c (.rp (Tryz.f73.ntmps + 3)))), (2 * (Tryz.f73.ntmps + 3) + 1, .row 3 (.int .i64) x3_1), (16, .p (.c (.v (.int .i64 x8_1))))] := ⟨fun j h => j h⟩
set_option maxRecDepth 20000 in
set_option maxHeartbeats 2000000 in
theorem spec_laTracks.con (k : Nat) (l0 : List (S40)) (r : List Int) (H : spec_laTracks.f k l0 = some r) : Con Tryz.prog 73 [.p (.c (.sl K40 l0))] (.p (.c (.ow 3 (.int .i64) r))) := by
  refine Con.mk' (fn := Tryz.f73) Tryz.func73 rfl (by kernel_rfl) rfl rfl rfl fun X w0 gs hF => ?_
  unfold spec_laTracks.f at H
  exact auto
instance spec_laTracks.ctr {k : Nat} {l0 : List (S40)} {r : List Int} : Ctr (spec_laTracks.f k l0 = some r) (Con Tryz.prog 73 [.p (.c (.sl K40 l0))] (.p (.c (.ow 3 (.int .i64) r)))) := ⟨spec_laTracks.con _ _ _⟩
/-! ### spec_l1Has: function 74 -/
def spec_l1Has.l0 : Nat → Int → List Int → Int → Int → Option (Bool)
  | 0, _, _, _, _ => none
  | k + 1, x1, x7, x8, x9 => if x9 < x8 then (if 0 ≤ x9 then (if x9 < (x7.length : Int) then (if (rd x7 x9) = x1 then (some true) else (spec_l1Has.l0 k x1 x7 x8 (wrap64 (x9 + 1)))) else (none)) else (none)) else (some false)
def spec_l1Has.f (k : Nat) (l0 : List Int) (a1 : Int) : Option (Bool) := spec_l1Has.l0 k a1 l0 (l0.length : Int) 0
instance spec_l1Has.lp0 {k : Nat} {r : Bool} {Q : Wr → Prop} {p0 : Int} {p1 : List Int} {p2 : Int} {x9_1 : Int} : Lp (spec_l1Has.l0 k p0 p1 p2 x9_1 = some r) Q (fun k => ∀ {x9_1 : Int}, spec_l1Has.l0 k p0 p1 p2 x9_1 = some r → Q [(18, .p (.c (.v (.int .i64 x9_1))))]) k [(18, .p (.c (.v (.int .i64 x9_1))))] := ⟨fun j h => j h⟩
set_option maxRecDepth 20000 in
set_option maxHeartbeats 2000000 in
theorem spec_l1Has.con (k : Nat) (l0 : List Int) (a1 : Int) (r : Bool) (H : spec_l1Has.f k l0 a1 = some r) : Con Tryz.prog 74 [.p (.c (.sl (.int .i64) l0)), .p (.c (.v (.int .i64 a1)))] (.p (.c (.v (.bool r)))) := by
  refine Con.mk' (fn := Tryz.f74) Tryz.func74 rfl (by kernel_rfl) rfl rfl rfl fun X w0 gs hF => ?_
  unfold spec_l1Has.f at H
  exact auto
instance spec_l1Has.ctr {k : Nat} {l0 : List Int} {a1 : Int} {r : Bool} : Ctr (spec_l1Has.f k l0 a1 = some r) (Con Tryz.prog 74 [.p (.c (.sl (.int .i64) l0)), .p (.c (.v (.int .i64 a1)))] (.p (.c (.v (.bool r))))) := ⟨spec_l1Has.con _ _ _ _⟩
end Go.Proofs.YtgjpphcbdbfhlaaGreat.L
