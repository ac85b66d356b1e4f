/- BY EV: what the Go functions compute (read off the print), and that their calls come to it. No condition. -/
import Derived.Test.YtbfehdhncncgdaaIEU
import Derived.Test.YtbfehdhncncgdaaI1
import Derived.Test.YtbfehdhncncgdaaI2
import Derived.Test.YtbfehdhncncgdaaI3
import Derived.Test.YtbfehdhncncgdaaI5
import Derived.Test.YtbfehdhncncgdaaI6
import Derived.Test.YtbfehdhncncgdaaI7
import Derived.Test.YtbfehdhncncgdaaI8
import Derived.Test.YtbfehdhncncgdaaI9
set_option linter.unusedVariables false
set_option linter.unusedSimpArgs false
namespace Go.Proofs.Ytbfehdhncncgdaa.I
open Go.RowKit Go.Proofs Go.Proofs.YtbfehdhncncgdaaW.PrintWords Go.Proofs.YtbfehdhncncgdaaW.PrintLast EV
/-! ### spec_laNotes: function 43 -/
def spec_laNotes.l0 : Nat → List (S57) → List (S64) → Int → Int → List Int → Int → Option ((List (S57)) × Bool)
  | 0, _, _, _, _, _, _ => none
  | k + 1, x6, x11, x12, x13, x195000, x195001 => if x13 < x12 then (if 0 ≤ x13 then (if x13 < (x11.length : Int) then ((spec_laNote.f k x195000 x195001 ((rd_T64 x11 x13).f0) ((rd_T64 x11 x13).f1) ((rd_T64 x11 x13).f2)).bind fun bt197 => (if bt197.2.2.2 = true then (if x6.length < 5864062014805 then (spec_laNotes.l0 k (x6 ++ [(⟨bt197.1, bt197.2.1, bt197.2.2.1⟩ : S57)]) x11 x12 (wrap64 (x13 + 1)) x195000 x195001) else (none)) else (some (([] : List (S57)), false)))) else (none)) else (none)) else ((spec_ntSorted.f k x6).bind fun bt205 => (some (bt205.1, bt205.2)))
def spec_laNotes.f (k : Nat) (l0_0 : List Int) (a0_1 : Int) (l1 : List (S64)) : Option ((List (S57)) × Bool) := spec_laNotes.l0 k ([] : List (S57)) l1 (l1.length : Int) 0 l0_0 a0_1
instance spec_laNotes.lp0 {k : Nat} {r : (List (S57)) × Bool} {Q : Wr → Prop} {p1 : List (S64)} {p2 : Int} {p4 : List Int} {p5 : Int} {x6_1 : List (S57)} {x13_1 : Int} : Lp (spec_laNotes.l0 k x6_1 p1 p2 x13_1 p4 p5 = some r) Q (fun k => ∀ {x6_1 : List (S57)} {x13_1 : Int}, spec_laNotes.l0 k x6_1 p1 p2 x13_1 p4 p5 = some r → Q [(12, .p (.c (.rp (Try.f43.ntmps + 6)))), (2 * (Try.f43.ntmps + 6) + 1, .row 57 K57 x6_1), (26, .p (.c (.v (.int .i64 x13_1))))]) k [(12, .p (.c (.rp (Try.f43.ntmps + 6)))), (2 * (Try.f43.ntmps + 6) + 1, .row 57 K57 x6_1), (26, .p (.c (.v (.int .i64 x13_1))))] := ⟨fun j h => j h⟩
set_option maxRecDepth 8000 in
set_option maxHeartbeats 2000000 in
theorem spec_laNotes.con (k : Nat) (l0_0 : List Int) (a0_1 : Int) (l1 : List (S64)) (r1 : List (S57)) (r2 : Bool) (H : spec_laNotes.f k l0_0 a0_1 l1 = some (r1, r2)) : Con Try.prog 43 [.p (.ag [.sl (.int .i64) l0_0, .v (.int .i64 a0_1)]), .p (.c (.sl K64 l1))] (.tp [.c (.ow 57 K57 r1), .c (.v (.bool r2))]) := by
  refine Con.mk' (fn := Try.f43) Try.func43 rfl (by kernel_rfl) rfl rfl rfl fun X w0 gs hF => ?_
  unfold spec_laNotes.f at H
  exact auto
instance spec_laNotes.ctr {k : Nat} {l0_0 : List Int} {a0_1 : Int} {l1 : List (S64)} {t_ : (List (S57)) × (Bool)} : Ctr (spec_laNotes.f k l0_0 a0_1 l1 = some t_) (Con Try.prog 43 [.p (.ag [.sl (.int .i64) l0_0, .v (.int .i64 a0_1)]), .p (.c (.sl K64 l1))] (.tp [.c (.ow 57 K57 t_.1), .c (.v (.bool t_.2))])) := ⟨fun h => spec_laNotes.con _ _ _ _ (t_.1) (t_.2) h⟩
/-! ### spec_IsLayOut: function 23 -/
def spec_IsLayOut.f (k : Nat) (l0_0 : List Int) (a0_1 : Int) (l1 : List (S64)) : Option (Bool × Bool) := (spec_laAsked.f k l0_0 a0_1 l1).bind fun t280 => (if t280 = true then ((spec_laNotes.f k l0_0 a0_1 l1).bind fun bt281 => (if bt281.2 = true then ((spec_inPlays.f k l0_0 a0_1 bt281.1).bind fun t285 => (some (t285, true))) else (some (false, true)))) else (some (false, false)))
set_option maxRecDepth 8000 in
set_option maxHeartbeats 2000000 in
theorem spec_IsLayOut.con (k : Nat) (l0_0 : List Int) (a0_1 : Int) (l1 : List (S64)) (r1 : Bool) (r2 : Bool) (H : spec_IsLayOut.f k l0_0 a0_1 l1 = some (r1, r2)) : Con Try.prog 23 [.p (.ag [.sl (.int .i64) l0_0, .v (.int .i64 a0_1)]), .p (.c (.sl K64 l1))] (.tp [.c (.v (.bool r1)), .c (.v (.bool r2))]) := by
  refine Con.mk' (fn := Try.f23) Try.func23 rfl (by kernel_rfl) rfl rfl rfl fun X w0 gs hF => ?_
  unfold spec_IsLayOut.f at H
  exact auto
instance spec_IsLayOut.ctr {k : Nat} {l0_0 : List Int} {a0_1 : Int} {l1 : List (S64)} {t_ : (Bool) × (Bool)} : Ctr (spec_IsLayOut.f k l0_0 a0_1 l1 = some t_) (Con Try.prog 23 [.p (.ag [.sl (.int .i64) l0_0, .v (.int .i64 a0_1)]), .p (.c (.sl K64 l1))] (.tp [.c (.v (.bool t_.1)), .c (.v (.bool t_.2))])) := ⟨fun h => spec_IsLayOut.con _ _ _ _ (t_.1) (t_.2) h⟩
/-! ### impl_layOut: function 35 -/
def impl_layOut.l0 : Nat → List (S64) → List (S57) → Int → Int → List Int → Int → Option ((List (S64)) × Bool)
  | 0, _, _, _, _, _, _ => none
  | k + 1, x6, x16, x17, x18, x346000, x346001 => if x18 < x17 then (if 0 ≤ x18 then (if x18 < (x16.length : Int) then ((impl_holeFor.f k x346000 x346001 ((rd_T57 x16 x18).f0) ((rd_T57 x16 x18).f1) ((rd_T57 x16 x18).f2)).bind fun bt352 => (if bt352.2.2.2 = true then (if x6.length < 5864062014805 then (impl_layOut.l0 k (x6 ++ [(⟨bt352.1, bt352.2.1, bt352.2.2.1⟩ : S64)]) x16 x17 (wrap64 (x18 + 1)) x346000 x346001) else (none)) else (some (([] : List (S64)), false)))) else (none)) else (none)) else ((impl_sheetOf.f k x6).bind fun bt360 => (some (bt360.1, bt360.2)))
def impl_layOut.f (k : Nat) (l0_0 : List Int) (a0_1 : Int) (l1 : List (S57)) : Option ((List (S64)) × Bool) := (impl_canPlay.f k l0_0 a0_1 l1).bind fun t346 => (if t346 = true then (impl_layOut.l0 k (([] : List (S64))) l1 (l1.length : Int) 0 l0_0 a0_1) else (some (([] : List (S64)), false)))
instance impl_layOut.lp0 {k : Nat} {r : (List (S64)) × Bool} {Q : Wr → Prop} {p1 : List (S57)} {p2 : Int} {p4 : List Int} {p5 : Int} {x6_1 : List (S64)} {x18_1 : Int} : Lp (impl_layOut.l0 k x6_1 p1 p2 x18_1 p4 p5 = some r) Q (fun k => ∀ {x6_1 : List (S64)} {x18_1 : Int}, impl_layOut.l0 k x6_1 p1 p2 x18_1 p4 p5 = some r → Q [(12, .p (.c (.rp (Try.f35.ntmps + 6)))), (2 * (Try.f35.ntmps + 6) + 1, .row 64 K64 x6_1), (36, .p (.c (.v (.int .i64 x18_1))))]) k [(12, .p (.c (.rp (Try.f35.ntmps + 6)))), (2 * (Try.f35.ntmps + 6) + 1, .row 64 K64 x6_1), (36, .p (.c (.v (.int .i64 x18_1))))] := ⟨fun j h => j h⟩
set_option maxRecDepth 8000 in
set_option maxHeartbeats 2000000 in
theorem impl_layOut.con (k : Nat) (l0_0 : List Int) (a0_1 : Int) (l1 : List (S57)) (r1 : List (S64)) (r2 : Bool) (H : impl_layOut.f k l0_0 a0_1 l1 = some (r1, r2)) : Con Try.prog 35 [.p (.ag [.sl (.int .i64) l0_0, .v (.int .i64 a0_1)]), .p (.c (.sl K57 l1))] (.tp [.c (.ow 64 K64 r1), .c (.v (.bool r2))]) := by
  refine Con.mk' (fn := Try.f35) Try.func35 rfl (by kernel_rfl) rfl rfl rfl fun X w0 gs hF => ?_
  unfold impl_layOut.f at H
  exact auto
instance impl_layOut.ctr {k : Nat} {l0_0 : List Int} {a0_1 : Int} {l1 : List (S57)} {t_ : (List (S64)) × (Bool)} : Ctr (impl_layOut.f k l0_0 a0_1 l1 = some t_) (Con Try.prog 35 [.p (.ag [.sl (.int .i64) l0_0, .v (.int .i64 a0_1)]), .p (.c (.sl K57 l1))] (.tp [.c (.ow 64 K64 t_.1), .c (.v (.bool t_.2))])) := ⟨fun h => impl_layOut.con _ _ _ _ (t_.1) (t_.2) h⟩
/-! ### impl_readBack: function 47 -/
def impl_readBack.l0 : Nat → List (S57) → List (S64) → Int → Int → List Int → Int → Option ((List (S57)) × Bool)
  | 0, _, _, _, _, _, _ => none
  | k + 1, x6, x12, x13, x14, x372000, x372001 => if x14 < x13 then (if 0 ≤ x14 then (if x14 < (x12.length : Int) then ((impl_noteFor.f k x372000 x372001 ((rd_T64 x12 x14).f0) ((rd_T64 x12 x14).f1) ((rd_T64 x12 x14).f2)).bind fun bt377 => (if bt377.2.2.2 = true then (if x6.length < 5864062014805 then (impl_readBack.l0 k (x6 ++ [(⟨bt377.1, bt377.2.1, bt377.2.2.1⟩ : S57)]) x12 x13 (wrap64 (x14 + 1)) x372000 x372001) else (none)) else (some (([] : List (S57)), false)))) else (none)) else (none)) else ((impl_sortedNotes.f x6).bind fun t385 => ((impl_scoreOf.f k t385).bind fun bt388 => (some (bt388.1, bt388.2))))
def impl_readBack.f (k : Nat) (l0_0 : List Int) (a0_1 : Int) (l1 : List (S64)) : Option ((List (S57)) × Bool) := impl_readBack.l0 k (([] : List (S57))) l1 (l1.length : Int) 0 l0_0 a0_1
instance impl_readBack.lp0 {k : Nat} {r : (List (S57)) × Bool} {Q : Wr → Prop} {p1 : List (S64)} {p2 : Int} {p4 : List Int} {p5 : Int} {x6_1 : List (S57)} {x14_1 : Int} : Lp (impl_readBack.l0 k x6_1 p1 p2 x14_1 p4 p5 = some r) Q (fun k => ∀ {x6_1 : List (S57)} {x14_1 : Int}, impl_readBack.l0 k x6_1 p1 p2 x14_1 p4 p5 = some r → Q [(12, .p (.c (.rp (Try.f47.ntmps + 6)))), (2 * (Try.f47.ntmps + 6) + 1, .row 57 K57 x6_1), (28, .p (.c (.v (.int .i64 x14_1))))]) k [(12, .p (.c (.rp (Try.f47.ntmps + 6)))), (2 * (Try.f47.ntmps + 6) + 1, .row 57 K57 x6_1), (28, .p (.c (.v (.int .i64 x14_1))))] := ⟨fun j h => j h⟩
set_option maxRecDepth 8000 in
set_option maxHeartbeats 2000000 in
theorem impl_readBack.con (k : Nat) (l0_0 : List Int) (a0_1 : Int) (l1 : List (S64)) (r1 : List (S57)) (r2 : Bool) (H : impl_readBack.f k l0_0 a0_1 l1 = some (r1, r2)) : Con Try.prog 47 [.p (.ag [.sl (.int .i64) l0_0, .v (.int .i64 a0_1)]), .p (.c (.sl K64 l1))] (.tp [.c (.ow 57 K57 r1), .c (.v (.bool r2))]) := by
  refine Con.mk' (fn := Try.f47) Try.func47 rfl (by kernel_rfl) rfl rfl rfl fun X w0 gs hF => ?_
  unfold impl_readBack.f at H
  exact auto
instance impl_readBack.ctr {k : Nat} {l0_0 : List Int} {a0_1 : Int} {l1 : List (S64)} {t_ : (List (S57)) × (Bool)} : Ctr (impl_readBack.f k l0_0 a0_1 l1 = some t_) (Con Try.prog 47 [.p (.ag [.sl (.int .i64) l0_0, .v (.int .i64 a0_1)]), .p (.c (.sl K64 l1))] (.tp [.c (.ow 57 K57 t_.1), .c (.v (.bool t_.2))])) := ⟨fun h => impl_readBack.con _ _ _ _ (t_.1) (t_.2) h⟩
/-! ### impl_IsLayOut: function 25 -/
def impl_IsLayOut.j0 : Nat → List (S64) → Bool → List Int → Int → Option (Bool × Bool)
  | 0, _, _, _, _ => none
  | k + 1, x1, x16, x395000, x395001 => if x16 = true then (some (false, false)) else ((impl_readBack.f k x395000 x395001 x1).bind fun bt397 => (if bt397.2 = true then ((impl_layOut.f k x395000 x395001 bt397.1).bind fun bt401 => (if bt401.2 = true then ((impl_Hole.f k bt401.1 x1).bind fun t405 => (some (t405, true))) else (some (false, true)))) else (some (false, true))))
def impl_IsLayOut.f (k : Nat) (l0_0 : List Int) (a0_1 : Int) (l1 : List (S64)) : Option (Bool × Bool) := (impl_IsInstrument.f k l0_0 a0_1).bind fun t395 => (if t395 = true then ((impl_IsSheet.f k l1).bind fun t396 => (impl_IsLayOut.j0 k l1 (!t396) l0_0 a0_1)) else (impl_IsLayOut.j0 k l1 true l0_0 a0_1))
set_option maxRecDepth 8000 in
set_option maxHeartbeats 2000000 in
theorem impl_IsLayOut.con (k : Nat) (l0_0 : List Int) (a0_1 : Int) (l1 : List (S64)) (r1 : Bool) (r2 : Bool) (H : impl_IsLayOut.f k l0_0 a0_1 l1 = some (r1, r2)) : Con Try.prog 25 [.p (.ag [.sl (.int .i64) l0_0, .v (.int .i64 a0_1)]), .p (.c (.sl K64 l1))] (.tp [.c (.v (.bool r1)), .c (.v (.bool r2))]) := by
  refine Con.mk' (fn := Try.f25) Try.func25 rfl (by kernel_rfl) rfl rfl rfl fun X w0 gs hF => ?_
  unfold impl_IsLayOut.f at H
  exact auto
instance impl_IsLayOut.ctr {k : Nat} {l0_0 : List Int} {a0_1 : Int} {l1 : List (S64)} {t_ : (Bool) × (Bool)} : Ctr (impl_IsLayOut.f k l0_0 a0_1 l1 = some t_) (Con Try.prog 25 [.p (.ag [.sl (.int .i64) l0_0, .v (.int .i64 a0_1)]), .p (.c (.sl K64 l1))] (.tp [.c (.v (.bool t_.1)), .c (.v (.bool t_.2))])) := ⟨fun h => impl_IsLayOut.con _ _ _ _ (t_.1) (t_.2) h⟩
/-! ### laws_FnExactIsLayOut: function 5 -/
def laws_FnExactIsLayOut.j0 : Nat → List (S73) → List (S64) → Bool → List Int → Int → List Int → Int → Option (Bool)
  | 0, _, _, _, _, _, _, _ => none
  | k + 1, x1, x9, x47, x407000, x407001, x423000, x423001 => if x47 = true then (some false) else ((laws_toInstrument.f k x407000 x407001).bind fun bt428 => ((laws_eqInstrument.f k x423000 x423001 bt428.1 bt428.2).bind fun t432 => (if t432 = true then ((laws_toHoleS.f k x1).bind fun t433 => ((laws_eqHoleS.f k x9 t433).bind fun t436 => (if t436 = true then (some true) else (some false)))) else (some false))))
def laws_FnExactIsLayOut.f (k : Nat) (l0_0 : List Int) (a0_1 : Int) (l1 : List (S73)) : Option (Bool) := (laws_szInstrument.f l0_0 a0_1 1048576).bind fun t407 => (if t407 < 0 then (some true) else ((laws_szHoleS.f l1 t407).bind fun t408 => (if t408 < 0 then (some true) else ((laws_toInstrument.f k l0_0 a0_1).bind fun bt409 => ((laws_toHoleS.f k l1).bind fun t413 => ((spec_IsLayOut.f k bt409.1 bt409.2 t413).bind fun bt416 => ((laws_toInstrument.f k l0_0 a0_1).bind fun bt418 => ((laws_toHoleS.f k l1).bind fun t423 => ((impl_IsLayOut.f k bt418.1 bt418.2 t423).bind fun bt426 => (if (bt426.1 != bt416.1) = true then (laws_FnExactIsLayOut.j0 k l1 t423 true l0_0 a0_1 bt418.1 bt418.2) else (laws_FnExactIsLayOut.j0 k l1 t423 (bt426.2 != bt416.2) l0_0 a0_1 bt418.1 bt418.2)))))))))))
set_option maxRecDepth 8000 in
set_option maxHeartbeats 2000000 in
theorem laws_FnExactIsLayOut.con (k : Nat) (l0_0 : List Int) (a0_1 : Int) (l1 : List (S73)) (r : Bool) (H : laws_FnExactIsLayOut.f k l0_0 a0_1 l1 = some r) : Con Try.prog 5 [.p (.ag [.sl (.int .i64) l0_0, .v (.int .i64 a0_1)]), .p (.c (.sl K73 l1))] (.p (.c (.v (.bool r)))) := by
  refine Con.mk' (fn := Try.f5) Try.func5 rfl (by kernel_rfl) rfl rfl rfl fun X w0 gs hF => ?_
  unfold laws_FnExactIsLayOut.f at H
  exact auto
instance laws_FnExactIsLayOut.ctr {k : Nat} {l0_0 : List Int} {a0_1 : Int} {l1 : List (S73)} {r : Bool} : Ctr (laws_FnExactIsLayOut.f k l0_0 a0_1 l1 = some r) (Con Try.prog 5 [.p (.ag [.sl (.int .i64) l0_0, .v (.int .i64 a0_1)]), .p (.c (.sl K73 l1))] (.p (.c (.v (.bool r))))) := ⟨laws_FnExactIsLayOut.con _ _ _ _ _⟩
theorem laws_FnExactIsLayOut.calls (k : Nat) (A0_0 : Option Addr) (c0_0 : Nat) (l0_0 : List Int) (a0_1 : Int) (A1 : Option Addr) (c1 : Nat) (l1 : List (S73)) (r : Bool) (w : World) (hr0_0 : Kd.C (Kd.int .i64) w A0_0 l0_0.length l0_0) (hc0_0 : l0_0.length ≤ c0_0) (hr1 : Kd.C k73 w A1 l1.length l1) (hc1 : l1.length ≤ c1) (h : laws_FnExactIsLayOut.f k l0_0 a0_1 l1 = some r) :
    Calls Try.prog 5 #[.agg #[.slice A0_0 l0_0.length c0_0, .int .i64 a0_1], .slice A1 l1.length c1] w fun e w' => e = .returned (.bool r) ∧ Below w.heap.size w w' :=
  (laws_FnExactIsLayOut.con k l0_0 a0_1 l1 r h).val rfl (show Args.relg (fun _ => False) w _ [.agg #[.slice A0_0 l0_0.length c0_0, .int .i64 a0_1], .slice A1 l1.length c1] [.slice A0_0 l0_0.length c0_0, .int .i64 a0_1, .slice A1 l1.length c1] from ⟨_, _, rfl, ⟨rfl, ⟨A0_0, c0_0, rfl, hc0_0, row_of_C rfl (fun _ h => h) hr0_0⟩, rfl, ⟨rfl, rfl, trivial⟩⟩, ⟨_, _, rfl, ⟨rfl, A1, c1, rfl, hc1, row_of_C rfl (fun _ h => h) hr1⟩, rfl⟩⟩)
end Go.Proofs.Ytbfehdhncncgdaa.I
