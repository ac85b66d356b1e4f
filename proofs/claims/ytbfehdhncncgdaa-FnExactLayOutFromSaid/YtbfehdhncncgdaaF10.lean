/- BY EV: what the Go functions compute (read off the print), and that their calls come to it. No condition. -/
import Derived.Test.YtbfehdhncncgdaaFEU
import Derived.Test.YtbfehdhncncgdaaF1
import Derived.Test.YtbfehdhncncgdaaF2
import Derived.Test.YtbfehdhncncgdaaF3
import Derived.Test.YtbfehdhncncgdaaF4
import Derived.Test.YtbfehdhncncgdaaF5
import Derived.Test.YtbfehdhncncgdaaF6
import Derived.Test.YtbfehdhncncgdaaF7
import Derived.Test.YtbfehdhncncgdaaF8
import Derived.Test.YtbfehdhncncgdaaF9
set_option linter.unusedVariables false
set_option linter.unusedSimpArgs false
namespace Go.Proofs.Ytbfehdhncncgdaa.F
open Go.RowKit Go.Proofs Go.Proofs.YtbfehdhncncgdaaW.PrintWords Go.Proofs.YtbfehdhncncgdaaW.PrintLast EV
/-! ### spec_laHoles: function 30 -/
def spec_laHoles.l0 : Nat → Int → List (S64) → List (S57) → Int → Int → List Int → Int → Option ((List (S64)) × Bool)
  | 0, _, _, _, _, _, _, _ => none
  | k + 1, x2, x8, x17, x18, x19, x293000, x293001 => if x19 < x18 then (if 0 ≤ x19 then (if x19 < (x17.length : Int) then ((spec_laHole.f k x293000 x293001 ((rd_T57 x17 x19).f0) ((rd_T57 x17 x19).f1) ((rd_T57 x17 x19).f2)).bind fun bt296 => (if bt296.2.2.2 = true then (if x8.length < 5864062014805 then (spec_laHoles.l0 k x2 (x8 ++ [(⟨bt296.1, wrap64 (bt296.2.1 + x2), wrap64 (bt296.2.2.1 + x2)⟩ : S64)]) x17 x18 (wrap64 (x19 + 1)) x293000 x293001) else (none)) else (some (([] : List (S64)), false)))) else (none)) else (none)) else ((spec_shSorted.f k x8).bind fun bt304 => (some (bt304.1, bt304.2)))
def spec_laHoles.f (k : Nat) (l0_0 : List Int) (a0_1 : Int) (l1 : List (S57)) (a2 : Int) : Option ((List (S64)) × Bool) := (spec_inPlays.f k l0_0 a0_1 l1).bind fun t293 => (if t293 = true then (spec_laHoles.l0 k a2 ([] : List (S64)) l1 (l1.length : Int) 0 l0_0 a0_1) else (some (([] : List (S64)), false)))
instance spec_laHoles.lp0 {k : Nat} {r : (List (S64)) × Bool} {Q : Wr → Prop} {p0 : Int} {p2 : List (S57)} {p3 : Int} {p5 : List Int} {p6 : Int} {x8_1 : List (S64)} {x19_1 : Int} : Lp (spec_laHoles.l0 k p0 x8_1 p2 p3 x19_1 p5 p6 = some r) Q (fun k => ∀ {x8_1 : List (S64)} {x19_1 : Int}, spec_laHoles.l0 k p0 x8_1 p2 p3 x19_1 p5 p6 = some r → Q [(16, .p (.c (.rp (Try.f30.ntmps + 8)))), (2 * (Try.f30.ntmps + 8) + 1, .row 64 K64 x8_1), (38, .p (.c (.v (.int .i64 x19_1))))]) k [(16, .p (.c (.rp (Try.f30.ntmps + 8)))), (2 * (Try.f30.ntmps + 8) + 1, .row 64 K64 x8_1), (38, .p (.c (.v (.int .i64 x19_1))))] := ⟨fun j h => j h⟩
set_option maxRecDepth 8000 in
set_option maxHeartbeats 2000000 in
theorem spec_laHoles.con (k : Nat) (l0_0 : List Int) (a0_1 : Int) (l1 : List (S57)) (a2 : Int) (r1 : List (S64)) (r2 : Bool) (H : spec_laHoles.f k l0_0 a0_1 l1 a2 = some (r1, r2)) : Con Try.prog 30 [.p (.ag [.sl (.int .i64) l0_0, .v (.int .i64 a0_1)]), .p (.c (.sl K57 l1)), .p (.c (.v (.int .i64 a2)))] (.tp [.c (.ow 64 K64 r1), .c (.v (.bool r2))]) := by
  refine Con.mk' (fn := Try.f30) Try.func30 rfl (by kernel_rfl) rfl rfl rfl fun X w0 gs hF => ?_
  unfold spec_laHoles.f at H
  exact auto
instance spec_laHoles.ctr {k : Nat} {l0_0 : List Int} {a0_1 : Int} {l1 : List (S57)} {a2 : Int} {t_ : (List (S64)) × (Bool)} : Ctr (spec_laHoles.f k l0_0 a0_1 l1 a2 = some t_) (Con Try.prog 30 [.p (.ag [.sl (.int .i64) l0_0, .v (.int .i64 a0_1)]), .p (.c (.sl K57 l1)), .p (.c (.v (.int .i64 a2)))] (.tp [.c (.ow 64 K64 t_.1), .c (.v (.bool t_.2))])) := ⟨fun h => spec_laHoles.con _ _ _ _ _ (t_.1) (t_.2) h⟩
/-! ### spec_LayOutFrom: function 20 -/
def spec_LayOutFrom.f (k : Nat) (l0_0 : List Int) (a0_1 : Int) (l1 : List (S57)) (a2 : Int) : Option ((List (S64)) × Bool) := (spec_inAsked.f k l0_0 a0_1 l1).bind fun t309 => (if t309 = true then ((spec_l1In.f a2 0 2000).bind fun t310 => (if t310 = true then ((spec_laHoles.f k l0_0 a0_1 l1 a2).bind fun bt311 => (some (bt311.1, bt311.2))) else (some (([] : List (S64)), false)))) else (some (([] : List (S64)), false)))
set_option maxRecDepth 8000 in
set_option maxHeartbeats 2000000 in
theorem spec_LayOutFrom.con (k : Nat) (l0_0 : List Int) (a0_1 : Int) (l1 : List (S57)) (a2 : Int) (r1 : List (S64)) (r2 : Bool) (H : spec_LayOutFrom.f k l0_0 a0_1 l1 a2 = some (r1, r2)) : Con Try.prog 20 [.p (.ag [.sl (.int .i64) l0_0, .v (.int .i64 a0_1)]), .p (.c (.sl K57 l1)), .p (.c (.v (.int .i64 a2)))] (.tp [.c (.ow 64 K64 r1), .c (.v (.bool r2))]) := by
  refine Con.mk' (fn := Try.f20) Try.func20 rfl (by kernel_rfl) rfl rfl rfl fun X w0 gs hF => ?_
  unfold spec_LayOutFrom.f at H
  exact auto
instance spec_LayOutFrom.ctr {k : Nat} {l0_0 : List Int} {a0_1 : Int} {l1 : List (S57)} {a2 : Int} {t_ : (List (S64)) × (Bool)} : Ctr (spec_LayOutFrom.f k l0_0 a0_1 l1 a2 = some t_) (Con Try.prog 20 [.p (.ag [.sl (.int .i64) l0_0, .v (.int .i64 a0_1)]), .p (.c (.sl K57 l1)), .p (.c (.v (.int .i64 a2)))] (.tp [.c (.ow 64 K64 t_.1), .c (.v (.bool t_.2))])) := ⟨fun h => spec_LayOutFrom.con _ _ _ _ _ (t_.1) (t_.2) h⟩
/-! ### impl_layOut: function 35 -/
def impl_layOut.l0 : Nat → List (S64) → List (S57) → Int → Int → List Int → Int → Option ((List (S64)) × Bool)
  | 0, _, _, _, _, _, _ => none
  | k + 1, x6, x16, x17, x18, x365000, x365001 => if x18 < x17 then (if 0 ≤ x18 then (if x18 < (x16.length : Int) then ((impl_holeFor.f k x365000 x365001 ((rd_T57 x16 x18).f0) ((rd_T57 x16 x18).f1) ((rd_T57 x16 x18).f2)).bind fun bt371 => (if bt371.2.2.2 = true then (if x6.length < 5864062014805 then (impl_layOut.l0 k (x6 ++ [(⟨bt371.1, bt371.2.1, bt371.2.2.1⟩ : S64)]) x16 x17 (wrap64 (x18 + 1)) x365000 x365001) else (none)) else (some (([] : List (S64)), false)))) else (none)) else (none)) else ((impl_sheetOf.f k x6).bind fun bt379 => (some (bt379.1, bt379.2)))
def impl_layOut.f (k : Nat) (l0_0 : List Int) (a0_1 : Int) (l1 : List (S57)) : Option ((List (S64)) × Bool) := (impl_canPlay.f k l0_0 a0_1 l1).bind fun t365 => (if t365 = true then (impl_layOut.l0 k (([] : List (S64))) l1 (l1.length : Int) 0 l0_0 a0_1) else (some (([] : List (S64)), false)))
instance impl_layOut.lp0 {k : Nat} {r : (List (S64)) × Bool} {Q : Wr → Prop} {p1 : List (S57)} {p2 : Int} {p4 : List Int} {p5 : Int} {x6_1 : List (S64)} {x18_1 : Int} : Lp (impl_layOut.l0 k x6_1 p1 p2 x18_1 p4 p5 = some r) Q (fun k => ∀ {x6_1 : List (S64)} {x18_1 : Int}, impl_layOut.l0 k x6_1 p1 p2 x18_1 p4 p5 = some r → Q [(12, .p (.c (.rp (Try.f35.ntmps + 6)))), (2 * (Try.f35.ntmps + 6) + 1, .row 64 K64 x6_1), (36, .p (.c (.v (.int .i64 x18_1))))]) k [(12, .p (.c (.rp (Try.f35.ntmps + 6)))), (2 * (Try.f35.ntmps + 6) + 1, .row 64 K64 x6_1), (36, .p (.c (.v (.int .i64 x18_1))))] := ⟨fun j h => j h⟩
set_option maxRecDepth 8000 in
set_option maxHeartbeats 2000000 in
theorem impl_layOut.con (k : Nat) (l0_0 : List Int) (a0_1 : Int) (l1 : List (S57)) (r1 : List (S64)) (r2 : Bool) (H : impl_layOut.f k l0_0 a0_1 l1 = some (r1, r2)) : Con Try.prog 35 [.p (.ag [.sl (.int .i64) l0_0, .v (.int .i64 a0_1)]), .p (.c (.sl K57 l1))] (.tp [.c (.ow 64 K64 r1), .c (.v (.bool r2))]) := by
  refine Con.mk' (fn := Try.f35) Try.func35 rfl (by kernel_rfl) rfl rfl rfl fun X w0 gs hF => ?_
  unfold impl_layOut.f at H
  exact auto
instance impl_layOut.ctr {k : Nat} {l0_0 : List Int} {a0_1 : Int} {l1 : List (S57)} {t_ : (List (S64)) × (Bool)} : Ctr (impl_layOut.f k l0_0 a0_1 l1 = some t_) (Con Try.prog 35 [.p (.ag [.sl (.int .i64) l0_0, .v (.int .i64 a0_1)]), .p (.c (.sl K57 l1))] (.tp [.c (.ow 64 K64 t_.1), .c (.v (.bool t_.2))])) := ⟨fun h => impl_layOut.con _ _ _ _ (t_.1) (t_.2) h⟩
/-! ### impl_moveSheet: function 41 -/
def impl_moveSheet.l0 : Nat → Int → List (S64) → Int → Int → Option ((List (S64)) × Bool)
  | 0, _, _, _, _ => none
  | k + 1, x1, x6, x11, x12 => if x12 < x11 then (if 0 ≤ x12 then (if x12 < (x6.length : Int) then ((some (x6.set (x12 : Int).toNat (⟨(rd_T64 x6 x12).f0, wrap64 (((rd_T64 x6 x12).f1) + x1), (rd_T64 x6 x12).f2⟩ : S64) : List (S64))).bind fun y387 => (impl_moveSheet.l0 k x1 (y387.set (x12 : Int).toNat (⟨(rd_T64 y387 x12).f0, (rd_T64 y387 x12).f1, wrap64 (((rd_T64 y387 x12).f2) + x1)⟩ : S64)) x11 (wrap64 (x12 + 1)))) else (none)) else (none)) else ((impl_sheetOf.f k x6).bind fun bt390 => (some (bt390.1, bt390.2)))
def impl_moveSheet.f (k : Nat) (l0 : List (S64)) (a1 : Int) : Option ((List (S64)) × Bool) := (impl_Hole.f l0).bind fun t383 => (impl_moveSheet.l0 k a1 t383 (t383.length : Int) 0)
instance impl_moveSheet.lp0 {k : Nat} {r : (List (S64)) × Bool} {Q : Wr → Prop} {p0 : Int} {p2 : Int} {x6_1 : List (S64)} {x12_1 : Int} : Lp (impl_moveSheet.l0 k p0 x6_1 p2 x12_1 = some r) Q (fun k => ∀ {x6_1 : List (S64)} {x12_1 : Int}, impl_moveSheet.l0 k p0 x6_1 p2 x12_1 = some r → Q [(12, .p (.c (.rp (Try.f41.ntmps + 6)))), (2 * (Try.f41.ntmps + 6) + 1, .row 64 K64 x6_1), (24, .p (.c (.v (.int .i64 x12_1))))]) k [(12, .p (.c (.rp (Try.f41.ntmps + 6)))), (2 * (Try.f41.ntmps + 6) + 1, .row 64 K64 x6_1), (24, .p (.c (.v (.int .i64 x12_1))))] := ⟨fun j h => j h⟩
set_option maxRecDepth 8000 in
set_option maxHeartbeats 2000000 in
theorem impl_moveSheet.con (k : Nat) (l0 : List (S64)) (a1 : Int) (r1 : List (S64)) (r2 : Bool) (H : impl_moveSheet.f k l0 a1 = some (r1, r2)) : Con Try.prog 41 [.p (.c (.sl K64 l0)), .p (.c (.v (.int .i64 a1)))] (.tp [.c (.ow 64 K64 r1), .c (.v (.bool r2))]) := by
  refine Con.mk' (fn := Try.f41) Try.func41 rfl (by kernel_rfl) rfl rfl rfl fun X w0 gs hF => ?_
  unfold impl_moveSheet.f at H
  exact auto
instance impl_moveSheet.ctr {k : Nat} {l0 : List (S64)} {a1 : Int} {t_ : (List (S64)) × (Bool)} : Ctr (impl_moveSheet.f k l0 a1 = some t_) (Con Try.prog 41 [.p (.c (.sl K64 l0)), .p (.c (.v (.int .i64 a1)))] (.tp [.c (.ow 64 K64 t_.1), .c (.v (.bool t_.2))])) := ⟨fun h => impl_moveSheet.con _ _ _ (t_.1) (t_.2) h⟩
/-! ### impl_LayOutFrom: function 21 -/
def impl_LayOutFrom.j0 : Nat → List (S57) → Int → Bool → List Int → Int → Option ((List (S64)) × Bool)
  | 0, _, _, _, _, _ => none
  | k + 1, x1, x2, x25, x395000, x395001 => if x25 = true then (some (([] : List (S64)), false)) else ((impl_layOut.f k x395000 x395001 x1).bind fun bt397 => (if bt397.2 = true then ((impl_moveSheet.f k bt397.1 x2).bind fun bt401 => (some (bt401.1, bt401.2))) else (some (([] : List (S64)), false))))
def impl_LayOutFrom.f (k : Nat) (l0_0 : List Int) (a0_1 : Int) (l1 : List (S57)) (a2 : Int) : Option ((List (S64)) × Bool) := (impl_IsInstrument.f k l0_0 a0_1).bind fun t395 => (if t395 = true then ((impl_IsScore.f k l1).bind fun t396 => (if t396 = true then (if a2 < 0 then (impl_LayOutFrom.j0 k l1 a2 true l0_0 a0_1) else (impl_LayOutFrom.j0 k l1 a2 (decide (a2 > 2000)) l0_0 a0_1)) else (impl_LayOutFrom.j0 k l1 a2 true l0_0 a0_1))) else (impl_LayOutFrom.j0 k l1 a2 true l0_0 a0_1))
set_option maxRecDepth 8000 in
set_option maxHeartbeats 2000000 in
theorem impl_LayOutFrom.con (k : Nat) (l0_0 : List Int) (a0_1 : Int) (l1 : List (S57)) (a2 : Int) (r1 : List (S64)) (r2 : Bool) (H : impl_LayOutFrom.f k l0_0 a0_1 l1 a2 = some (r1, r2)) : Con Try.prog 21 [.p (.ag [.sl (.int .i64) l0_0, .v (.int .i64 a0_1)]), .p (.c (.sl K57 l1)), .p (.c (.v (.int .i64 a2)))] (.tp [.c (.ow 64 K64 r1), .c (.v (.bool r2))]) := by
  refine Con.mk' (fn := Try.f21) Try.func21 rfl (by kernel_rfl) rfl rfl rfl fun X w0 gs hF => ?_
  unfold impl_LayOutFrom.f at H
  exact auto
instance impl_LayOutFrom.ctr {k : Nat} {l0_0 : List Int} {a0_1 : Int} {l1 : List (S57)} {a2 : Int} {t_ : (List (S64)) × (Bool)} : Ctr (impl_LayOutFrom.f k l0_0 a0_1 l1 a2 = some t_) (Con Try.prog 21 [.p (.ag [.sl (.int .i64) l0_0, .v (.int .i64 a0_1)]), .p (.c (.sl K57 l1)), .p (.c (.v (.int .i64 a2)))] (.tp [.c (.ow 64 K64 t_.1), .c (.v (.bool t_.2))])) := ⟨fun h => impl_LayOutFrom.con _ _ _ _ _ (t_.1) (t_.2) h⟩
/-! ### laws_FnExactLayOutFrom: function 4 -/
mutual
def laws_FnExactLayOutFrom.j0 : Nat → List (S59) → Int → List (S64) → Bool → List (S57) → List (S64) → Bool → Bool → List Int → Int → List Int → Int → Option (Bool)
  | 0, _, _, _, _, _, _, _, _, _, _, _, _ => none
  | k + 1, x1, x2, x8, x9, x11, x12, x13, x57, x406000, x406001, x424000, x424001 => if x57 = true then (some false) else ((laws_toInstrument.f k x406000 x406001).bind fun bt432 => ((laws_eqInstrument.f k x424000 x424001 bt432.1 bt432.2).bind fun t436 => (if t436 = true then ((laws_toNoteS.f k x1).bind fun t437 => ((laws_eqNoteS.f k x11 t437).bind fun t440 => (if t440 = true then ((laws_markInstrument.f k x424000 x424001 1).bind fun bt441 => ((laws_markNoteS.f k x11 bt441.1).bind fun bt443 => (if bt443.1 < 0 then (laws_FnExactLayOutFrom.j1 k x1 x2 x8 x9 x12 true x406000 x406001) else ((laws_eqHoleS.f k x12 x8).bind fun t445 => (if t445 = true then (laws_FnExactLayOutFrom.j1 k x1 x2 x8 x9 x12 (x13 != x9) x406000 x406001) else (laws_FnExactLayOutFrom.j1 k x1 x2 x8 x9 x12 true x406000 x406001)))))) else (some false)))) else (some false))))
def laws_FnExactLayOutFrom.j1 : Nat → List (S59) → Int → List (S64) → Bool → List (S64) → Bool → List Int → Int → Option (Bool)
  | 0, _, _, _, _, _, _, _, _ => none
  | k + 1, x1, x2, x8, x9, x12, x86, x406000, x406001 => if x86 = true then (some false) else ((laws_markHoleS.f k x12 1).bind fun bt446 => ((laws_heldHoleS.f k bt446.2 1).bind fun t448 => (if t448 < 0 then (some false) else (if t448 = bt446.1 then ((laws_toInstrument.f k x406000 x406001).bind fun bt449 => ((laws_toNoteS.f k x1).bind fun t453 => ((impl_LayOutFrom.f k bt449.1 bt449.2 t453 x2).bind fun bt456 => ((laws_eqHoleS.f k bt456.1 x8).bind fun t460 => (if t460 = true then (laws_FnExactLayOutFrom.j2 k bt446.2 bt446.1 (bt456.2 != x9)) else (laws_FnExactLayOutFrom.j2 k bt446.2 bt446.1 true)))))) else (some false)))))
def laws_FnExactLayOutFrom.j2 : Nat → List (S64) → Int → Bool → Option (Bool)
  | 0, _, _, _ => none
  | k + 1, x12, x15, x115 => if x115 = true then (some false) else ((laws_heldHoleS.f k x12 1).bind fun t461 => (if t461 < 0 then (some false) else (if t461 = x15 then (some true) else (some false))))
end
def laws_FnExactLayOutFrom.f (k : Nat) (l0_0 : List Int) (a0_1 : Int) (l1 : List (S59)) (a2 : Int) : Option (Bool) := (laws_szInstrument.f l0_0 a0_1 1048576).bind fun t406 => (if t406 < 0 then (some true) else ((laws_szNoteS.f l1 t406).bind fun t407 => (if t407 < 0 then (some true) else ((laws_toInstrument.f k l0_0 a0_1).bind fun bt408 => ((laws_toNoteS.f k l1).bind fun t412 => ((spec_LayOutFrom.f k bt408.1 bt408.2 t412 a2).bind fun bt415 => ((laws_toInstrument.f k l0_0 a0_1).bind fun bt419 => ((laws_toNoteS.f k l1).bind fun t424 => ((impl_LayOutFrom.f k bt419.1 bt419.2 t424 a2).bind fun bt427 => ((laws_eqHoleS.f k bt427.1 bt415.1).bind fun t431 => (if t431 = true then (laws_FnExactLayOutFrom.j0 k l1 a2 bt415.1 bt415.2 t424 bt427.1 bt427.2 (bt427.2 != bt415.2) l0_0 a0_1 bt419.1 bt419.2) else (laws_FnExactLayOutFrom.j0 k l1 a2 bt415.1 bt415.2 t424 bt427.1 bt427.2 true l0_0 a0_1 bt419.1 bt419.2))))))))))))
set_option maxRecDepth 8000 in
set_option maxHeartbeats 2000000 in
theorem laws_FnExactLayOutFrom.con (k : Nat) (l0_0 : List Int) (a0_1 : Int) (l1 : List (S59)) (a2 : Int) (r : Bool) (H : laws_FnExactLayOutFrom.f k l0_0 a0_1 l1 a2 = some r) : Con Try.prog 4 [.p (.ag [.sl (.int .i64) l0_0, .v (.int .i64 a0_1)]), .p (.c (.sl K59 l1)), .p (.c (.v (.int .i64 a2)))] (.p (.c (.v (.bool r)))) := by
  refine Con.mk' (fn := Try.f4) Try.func4 rfl (by kernel_rfl) rfl rfl rfl fun X w0 gs hF => ?_
  unfold laws_FnExactLayOutFrom.f at H
  exact auto
instance laws_FnExactLayOutFrom.ctr {k : Nat} {l0_0 : List Int} {a0_1 : Int} {l1 : List (S59)} {a2 : Int} {r : Bool} : Ctr (laws_FnExactLayOutFrom.f k l0_0 a0_1 l1 a2 = some r) (Con Try.prog 4 [.p (.ag [.sl (.int .i64) l0_0, .v (.int .i64 a0_1)]), .p (.c (.sl K59 l1)), .p (.c (.v (.int .i64 a2)))] (.p (.c (.v (.bool r))))) := ⟨laws_FnExactLayOutFrom.con _ _ _ _ _ _⟩
theorem laws_FnExactLayOutFrom.calls (k : Nat) (A0_0 : Option Addr) (c0_0 : Nat) (l0_0 : List Int) (a0_1 : Int) (A1 : Option Addr) (c1 : Nat) (l1 : List (S59)) (a2 : Int) (r : Bool) (w : World) (hr0_0 : Kd.C (Kd.int .i64) w A0_0 l0_0.length l0_0) (hc0_0 : l0_0.length ≤ c0_0) (hr1 : Kd.C k59 w A1 l1.length l1) (hc1 : l1.length ≤ c1) (h : laws_FnExactLayOutFrom.f k l0_0 a0_1 l1 a2 = some r) :
    Calls Try.prog 4 #[.agg #[.slice A0_0 l0_0.length c0_0, .int .i64 a0_1], .slice A1 l1.length c1, .int .i64 a2] w fun e w' => e = .returned (.bool r) ∧ Below w.heap.size w w' :=
  (laws_FnExactLayOutFrom.con k l0_0 a0_1 l1 a2 r h).val rfl (show Args.relg (fun _ => False) w _ [.agg #[.slice A0_0 l0_0.length c0_0, .int .i64 a0_1], .slice A1 l1.length c1, .int .i64 a2] [.slice A0_0 l0_0.length c0_0, .int .i64 a0_1, .slice A1 l1.length c1, .int .i64 a2] from ⟨_, _, rfl, ⟨rfl, ⟨A0_0, c0_0, rfl, hc0_0, row_of_C rfl (fun _ h => h) hr0_0⟩, rfl, ⟨rfl, rfl, trivial⟩⟩, ⟨_, _, rfl, ⟨rfl, A1, c1, rfl, hc1, row_of_C rfl (fun _ h => h) hr1⟩, ⟨_, _, rfl, ⟨rfl, rfl⟩, rfl⟩⟩⟩)
end Go.Proofs.Ytbfehdhncncgdaa.F
