/- BY EV: what the Go functions compute (read off the print), and that their calls come to it. No condition. -/
import Derived.Test.YtbfehdhncncgdaaLEU
import Derived.Test.YtbfehdhncncgdaaL1
import Derived.Test.YtbfehdhncncgdaaL2
import Derived.Test.YtbfehdhncncgdaaL3
import Derived.Test.YtbfehdhncncgdaaL4
import Derived.Test.YtbfehdhncncgdaaL5
import Derived.Test.YtbfehdhncncgdaaL6
import Derived.Test.YtbfehdhncncgdaaL7
import Derived.Test.YtbfehdhncncgdaaL8
set_option linter.unusedVariables false
set_option linter.unusedSimpArgs false
namespace Go.Proofs.Ytbfehdhncncgdaa.L
open Go.RowKit Go.Proofs Go.Proofs.YtbfehdhncncgdaaW.PrintWords Go.Proofs.YtbfehdhncncgdaaW.PrintLast EV
/-! ### spec_laHoles: function 30 -/
def spec_laHoles.l0 : Nat → Int → List (S64) → List (S57) → Int → Int → List Int → Int → Option ((List (S64)) × Bool)
  | 0, _, _, _, _, _, _, _ => none
  | k + 1, x2, x8, x17, x18, x19, x243000, x243001 => if x19 < x18 then (if 0 ≤ x19 then (if x19 < (x17.length : Int) then ((spec_laHole.f k x243000 x243001 ((rd_T57 x17 x19).f0) ((rd_T57 x17 x19).f1) ((rd_T57 x17 x19).f2)).bind fun bt246 => (if bt246.2.2.2 = true then (if x8.length < 5864062014805 then (spec_laHoles.l0 k x2 (x8 ++ [(⟨bt246.1, wrap64 (bt246.2.1 + x2), wrap64 (bt246.2.2.1 + x2)⟩ : S64)]) x17 x18 (wrap64 (x19 + 1)) x243000 x243001) else (none)) else (some (([] : List (S64)), false)))) else (none)) else (none)) else ((spec_shSorted.f k x8).bind fun bt254 => (some (bt254.1, bt254.2)))
def spec_laHoles.f (k : Nat) (l0_0 : List Int) (a0_1 : Int) (l1 : List (S57)) (a2 : Int) : Option ((List (S64)) × Bool) := (spec_inPlays.f k l0_0 a0_1 l1).bind fun t243 => (if t243 = true then (spec_laHoles.l0 k a2 ([] : List (S64)) l1 (l1.length : Int) 0 l0_0 a0_1) else (some (([] : List (S64)), false)))
instance spec_laHoles.lp0 {k : Nat} {r : (List (S64)) × Bool} {Q : Wr → Prop} {p0 : Int} {p2 : List (S57)} {p3 : Int} {p5 : List Int} {p6 : Int} {x8_1 : List (S64)} {x19_1 : Int} : Lp (spec_laHoles.l0 k p0 x8_1 p2 p3 x19_1 p5 p6 = some r) Q (fun k => ∀ {x8_1 : List (S64)} {x19_1 : Int}, spec_laHoles.l0 k p0 x8_1 p2 p3 x19_1 p5 p6 = some r → Q [(16, .p (.c (.rp (Try.f30.ntmps + 8)))), (2 * (Try.f30.ntmps + 8) + 1, .row 64 K64 x8_1), (38, .p (.c (.v (.int .i64 x19_1))))]) k [(16, .p (.c (.rp (Try.f30.ntmps + 8)))), (2 * (Try.f30.ntmps + 8) + 1, .row 64 K64 x8_1), (38, .p (.c (.v (.int .i64 x19_1))))] := ⟨fun j h => j h⟩
set_option maxRecDepth 8000 in
set_option maxHeartbeats 2000000 in
theorem spec_laHoles.con (k : Nat) (l0_0 : List Int) (a0_1 : Int) (l1 : List (S57)) (a2 : Int) (r1 : List (S64)) (r2 : Bool) (H : spec_laHoles.f k l0_0 a0_1 l1 a2 = some (r1, r2)) : Con Try.prog 30 [.p (.ag [.sl (.int .i64) l0_0, .v (.int .i64 a0_1)]), .p (.c (.sl K57 l1)), .p (.c (.v (.int .i64 a2)))] (.tp [.c (.ow 64 K64 r1), .c (.v (.bool r2))]) := by
  refine Con.mk' (fn := Try.f30) Try.func30 rfl (by kernel_rfl) rfl rfl rfl fun X w0 gs hF => ?_
  unfold spec_laHoles.f at H
  exact auto
instance spec_laHoles.ctr {k : Nat} {l0_0 : List Int} {a0_1 : Int} {l1 : List (S57)} {a2 : Int} {t_ : (List (S64)) × (Bool)} : Ctr (spec_laHoles.f k l0_0 a0_1 l1 a2 = some t_) (Con Try.prog 30 [.p (.ag [.sl (.int .i64) l0_0, .v (.int .i64 a0_1)]), .p (.c (.sl K57 l1)), .p (.c (.v (.int .i64 a2)))] (.tp [.c (.ow 64 K64 t_.1), .c (.v (.bool t_.2))])) := ⟨fun h => spec_laHoles.con _ _ _ _ _ (t_.1) (t_.2) h⟩
/-! ### spec_LayOut: function 9 -/
def spec_LayOut.f (k : Nat) (l0_0 : List Int) (a0_1 : Int) (l1 : List (S57)) : Option ((List (S64)) × Bool) := (spec_inAsked.f k l0_0 a0_1 l1).bind fun t259 => (if t259 = true then ((spec_laHoles.f k l0_0 a0_1 l1 0).bind fun bt260 => (some (bt260.1, bt260.2))) else (some (([] : List (S64)), false)))
set_option maxRecDepth 8000 in
set_option maxHeartbeats 2000000 in
theorem spec_LayOut.con (k : Nat) (l0_0 : List Int) (a0_1 : Int) (l1 : List (S57)) (r1 : List (S64)) (r2 : Bool) (H : spec_LayOut.f k l0_0 a0_1 l1 = some (r1, r2)) : Con Try.prog 9 [.p (.ag [.sl (.int .i64) l0_0, .v (.int .i64 a0_1)]), .p (.c (.sl K57 l1))] (.tp [.c (.ow 64 K64 r1), .c (.v (.bool r2))]) := by
  refine Con.mk' (fn := Try.f9) Try.func9 rfl (by kernel_rfl) rfl rfl rfl fun X w0 gs hF => ?_
  unfold spec_LayOut.f at H
  exact auto
instance spec_LayOut.ctr {k : Nat} {l0_0 : List Int} {a0_1 : Int} {l1 : List (S57)} {t_ : (List (S64)) × (Bool)} : Ctr (spec_LayOut.f k l0_0 a0_1 l1 = some t_) (Con Try.prog 9 [.p (.ag [.sl (.int .i64) l0_0, .v (.int .i64 a0_1)]), .p (.c (.sl K57 l1))] (.tp [.c (.ow 64 K64 t_.1), .c (.v (.bool t_.2))])) := ⟨fun h => spec_LayOut.con _ _ _ _ (t_.1) (t_.2) h⟩
/-! ### impl_layOut: function 35 -/
def impl_layOut.l0 : Nat → List (S64) → List (S57) → Int → Int → List Int → Int → Option ((List (S64)) × Bool)
  | 0, _, _, _, _, _, _ => none
  | k + 1, x6, x16, x17, x18, x336000, x336001 => if x18 < x17 then (if 0 ≤ x18 then (if x18 < (x16.length : Int) then ((impl_holeFor.f k x336000 x336001 ((rd_T57 x16 x18).f0) ((rd_T57 x16 x18).f1) ((rd_T57 x16 x18).f2)).bind fun bt342 => (if bt342.2.2.2 = true then (if x6.length < 5864062014805 then (impl_layOut.l0 k (x6 ++ [(⟨bt342.1, bt342.2.1, bt342.2.2.1⟩ : S64)]) x16 x17 (wrap64 (x18 + 1)) x336000 x336001) else (none)) else (some (([] : List (S64)), false)))) else (none)) else (none)) else ((impl_sheetOf.f k x6).bind fun bt350 => (some (bt350.1, bt350.2)))
def impl_layOut.f (k : Nat) (l0_0 : List Int) (a0_1 : Int) (l1 : List (S57)) : Option ((List (S64)) × Bool) := (impl_canPlay.f k l0_0 a0_1 l1).bind fun t336 => (if t336 = true then (impl_layOut.l0 k (([] : List (S64))) l1 (l1.length : Int) 0 l0_0 a0_1) else (some (([] : List (S64)), false)))
instance impl_layOut.lp0 {k : Nat} {r : (List (S64)) × Bool} {Q : Wr → Prop} {p1 : List (S57)} {p2 : Int} {p4 : List Int} {p5 : Int} {x6_1 : List (S64)} {x18_1 : Int} : Lp (impl_layOut.l0 k x6_1 p1 p2 x18_1 p4 p5 = some r) Q (fun k => ∀ {x6_1 : List (S64)} {x18_1 : Int}, impl_layOut.l0 k x6_1 p1 p2 x18_1 p4 p5 = some r → Q [(12, .p (.c (.rp (Try.f35.ntmps + 6)))), (2 * (Try.f35.ntmps + 6) + 1, .row 64 K64 x6_1), (36, .p (.c (.v (.int .i64 x18_1))))]) k [(12, .p (.c (.rp (Try.f35.ntmps + 6)))), (2 * (Try.f35.ntmps + 6) + 1, .row 64 K64 x6_1), (36, .p (.c (.v (.int .i64 x18_1))))] := ⟨fun j h => j h⟩
set_option maxRecDepth 8000 in
set_option maxHeartbeats 2000000 in
theorem impl_layOut.con (k : Nat) (l0_0 : List Int) (a0_1 : Int) (l1 : List (S57)) (r1 : List (S64)) (r2 : Bool) (H : impl_layOut.f k l0_0 a0_1 l1 = some (r1, r2)) : Con Try.prog 35 [.p (.ag [.sl (.int .i64) l0_0, .v (.int .i64 a0_1)]), .p (.c (.sl K57 l1))] (.tp [.c (.ow 64 K64 r1), .c (.v (.bool r2))]) := by
  refine Con.mk' (fn := Try.f35) Try.func35 rfl (by kernel_rfl) rfl rfl rfl fun X w0 gs hF => ?_
  unfold impl_layOut.f at H
  exact auto
instance impl_layOut.ctr {k : Nat} {l0_0 : List Int} {a0_1 : Int} {l1 : List (S57)} {t_ : (List (S64)) × (Bool)} : Ctr (impl_layOut.f k l0_0 a0_1 l1 = some t_) (Con Try.prog 35 [.p (.ag [.sl (.int .i64) l0_0, .v (.int .i64 a0_1)]), .p (.c (.sl K57 l1))] (.tp [.c (.ow 64 K64 t_.1), .c (.v (.bool t_.2))])) := ⟨fun h => impl_layOut.con _ _ _ _ (t_.1) (t_.2) h⟩
/-! ### impl_LayOut: function 12 -/
def impl_LayOut.f (k : Nat) (l0_0 : List Int) (a0_1 : Int) (l1 : List (S57)) : Option ((List (S64)) × Bool) := (impl_IsInstrument.f k l0_0 a0_1).bind fun t355 => (if t355 = true then ((impl_IsScore.f k l1).bind fun t356 => (if t356 = true then ((impl_layOut.f k l0_0 a0_1 l1).bind fun bt357 => (some (bt357.1, bt357.2))) else (some (([] : List (S64)), false)))) else (some (([] : List (S64)), false)))
set_option maxRecDepth 8000 in
set_option maxHeartbeats 2000000 in
theorem impl_LayOut.con (k : Nat) (l0_0 : List Int) (a0_1 : Int) (l1 : List (S57)) (r1 : List (S64)) (r2 : Bool) (H : impl_LayOut.f k l0_0 a0_1 l1 = some (r1, r2)) : Con Try.prog 12 [.p (.ag [.sl (.int .i64) l0_0, .v (.int .i64 a0_1)]), .p (.c (.sl K57 l1))] (.tp [.c (.ow 64 K64 r1), .c (.v (.bool r2))]) := by
  refine Con.mk' (fn := Try.f12) Try.func12 rfl (by kernel_rfl) rfl rfl rfl fun X w0 gs hF => ?_
  unfold impl_LayOut.f at H
  exact auto
instance impl_LayOut.ctr {k : Nat} {l0_0 : List Int} {a0_1 : Int} {l1 : List (S57)} {t_ : (List (S64)) × (Bool)} : Ctr (impl_LayOut.f k l0_0 a0_1 l1 = some t_) (Con Try.prog 12 [.p (.ag [.sl (.int .i64) l0_0, .v (.int .i64 a0_1)]), .p (.c (.sl K57 l1))] (.tp [.c (.ow 64 K64 t_.1), .c (.v (.bool t_.2))])) := ⟨fun h => impl_LayOut.con _ _ _ _ (t_.1) (t_.2) h⟩
/-! ### laws_FnExactLayOut: function 3 -/
mutual
def laws_FnExactLayOut.j0 : Nat → List (S59) → List (S64) → Bool → List (S57) → List (S64) → Bool → Bool → List Int → Int → List Int → Int → Option (Bool)
  | 0, _, _, _, _, _, _, _, _, _, _, _ => none
  | k + 1, x1, x6, x7, x9, x10, x11, x53, x390000, x390001, x408000, x408001 => if x53 = true then (some false) else ((laws_toInstrument.f k x390000 x390001).bind fun bt416 => ((laws_eqInstrument.f k x408000 x408001 bt416.1 bt416.2).bind fun t420 => (if t420 = true then ((laws_toNoteS.f k x1).bind fun t421 => ((laws_eqNoteS.f k x9 t421).bind fun t424 => (if t424 = true then ((laws_markInstrument.f k x408000 x408001 1).bind fun bt425 => ((laws_markNoteS.f k x9 bt425.1).bind fun bt427 => (if bt427.1 < 0 then (laws_FnExactLayOut.j1 k x1 x6 x7 x10 true x390000 x390001) else ((laws_eqHoleS.f k x10 x6).bind fun t429 => (if t429 = true then (laws_FnExactLayOut.j1 k x1 x6 x7 x10 (x11 != x7) x390000 x390001) else (laws_FnExactLayOut.j1 k x1 x6 x7 x10 true x390000 x390001)))))) else (some false)))) else (some false))))
def laws_FnExactLayOut.j1 : Nat → List (S59) → List (S64) → Bool → List (S64) → Bool → List Int → Int → Option (Bool)
  | 0, _, _, _, _, _, _, _ => none
  | k + 1, x1, x6, x7, x10, x82, x390000, x390001 => if x82 = true then (some false) else ((laws_markHoleS.f k x10 1).bind fun bt430 => ((laws_heldHoleS.f k bt430.2 1).bind fun t432 => (if t432 < 0 then (some false) else (if t432 = bt430.1 then ((laws_toInstrument.f k x390000 x390001).bind fun bt433 => ((laws_toNoteS.f k x1).bind fun t437 => ((impl_LayOut.f k bt433.1 bt433.2 t437).bind fun bt440 => ((laws_eqHoleS.f k bt440.1 x6).bind fun t444 => (if t444 = true then (laws_FnExactLayOut.j2 k bt430.2 bt430.1 (bt440.2 != x7)) else (laws_FnExactLayOut.j2 k bt430.2 bt430.1 true)))))) else (some false)))))
def laws_FnExactLayOut.j2 : Nat → List (S64) → Int → Bool → Option (Bool)
  | 0, _, _, _ => none
  | k + 1, x10, x13, x110 => if x110 = true then (some false) else ((laws_heldHoleS.f k x10 1).bind fun t445 => (if t445 < 0 then (some false) else (if t445 = x13 then (some true) else (some false))))
end
def laws_FnExactLayOut.f (k : Nat) (l0_0 : List Int) (a0_1 : Int) (l1 : List (S59)) : Option (Bool) := (laws_szInstrument.f l0_0 a0_1 1048576).bind fun t390 => (if t390 < 0 then (some true) else ((laws_szNoteS.f l1 t390).bind fun t391 => (if t391 < 0 then (some true) else ((laws_toInstrument.f k l0_0 a0_1).bind fun bt392 => ((laws_toNoteS.f k l1).bind fun t396 => ((spec_LayOut.f k bt392.1 bt392.2 t396).bind fun bt399 => ((laws_toInstrument.f k l0_0 a0_1).bind fun bt403 => ((laws_toNoteS.f k l1).bind fun t408 => ((impl_LayOut.f k bt403.1 bt403.2 t408).bind fun bt411 => ((laws_eqHoleS.f k bt411.1 bt399.1).bind fun t415 => (if t415 = true then (laws_FnExactLayOut.j0 k l1 bt399.1 bt399.2 t408 bt411.1 bt411.2 (bt411.2 != bt399.2) l0_0 a0_1 bt403.1 bt403.2) else (laws_FnExactLayOut.j0 k l1 bt399.1 bt399.2 t408 bt411.1 bt411.2 true l0_0 a0_1 bt403.1 bt403.2))))))))))))
set_option maxRecDepth 8000 in
set_option maxHeartbeats 2000000 in
theorem laws_FnExactLayOut.con (k : Nat) (l0_0 : List Int) (a0_1 : Int) (l1 : List (S59)) (r : Bool) (H : laws_FnExactLayOut.f k l0_0 a0_1 l1 = some r) : Con Try.prog 3 [.p (.ag [.sl (.int .i64) l0_0, .v (.int .i64 a0_1)]), .p (.c (.sl K59 l1))] (.p (.c (.v (.bool r)))) := by
  refine Con.mk' (fn := Try.f3) Try.func3 rfl (by kernel_rfl) rfl rfl rfl fun X w0 gs hF => ?_
  unfold laws_FnExactLayOut.f at H
  exact auto
instance laws_FnExactLayOut.ctr {k : Nat} {l0_0 : List Int} {a0_1 : Int} {l1 : List (S59)} {r : Bool} : Ctr (laws_FnExactLayOut.f k l0_0 a0_1 l1 = some r) (Con Try.prog 3 [.p (.ag [.sl (.int .i64) l0_0, .v (.int .i64 a0_1)]), .p (.c (.sl K59 l1))] (.p (.c (.v (.bool r))))) := ⟨laws_FnExactLayOut.con _ _ _ _ _⟩
theorem laws_FnExactLayOut.calls (k : Nat) (A0_0 : Option Addr) (c0_0 : Nat) (l0_0 : List Int) (a0_1 : Int) (A1 : Option Addr) (c1 : Nat) (l1 : List (S59)) (r : Bool) (w : World) (hr0_0 : Kd.C (Kd.int .i64) w A0_0 l0_0.length l0_0) (hc0_0 : l0_0.length ≤ c0_0) (hr1 : Kd.C k59 w A1 l1.length l1) (hc1 : l1.length ≤ c1) (h : laws_FnExactLayOut.f k l0_0 a0_1 l1 = some r) :
    Calls Try.prog 3 #[.agg #[.slice A0_0 l0_0.length c0_0, .int .i64 a0_1], .slice A1 l1.length c1] w fun e w' => e = .returned (.bool r) ∧ Below w.heap.size w w' :=
  (laws_FnExactLayOut.con k l0_0 a0_1 l1 r h).val rfl (show Args.relg (fun _ => False) w _ [.agg #[.slice A0_0 l0_0.length c0_0, .int .i64 a0_1], .slice A1 l1.length c1] [.slice A0_0 l0_0.length c0_0, .int .i64 a0_1, .slice A1 l1.length c1] from ⟨_, _, rfl, ⟨rfl, ⟨A0_0, c0_0, rfl, hc0_0, row_of_C rfl (fun _ h => h) hr0_0⟩, rfl, ⟨rfl, rfl, trivial⟩⟩, ⟨_, _, rfl, ⟨rfl, A1, c1, rfl, hc1, row_of_C rfl (fun _ h => h) hr1⟩, rfl⟩⟩)
end Go.Proofs.Ytbfehdhncncgdaa.L
