/- BY EV: what the Go functions compute (read off the print), and that their calls come to it. No condition. -/
import Derived.Test.YtipcjpgonncinaaVEU
import Derived.Test.YtipcjpgonncinaaV1
import Derived.Test.YtipcjpgonncinaaV2
import Derived.Test.YtipcjpgonncinaaV6
import Derived.Test.YtipcjpgonncinaaV8
import Derived.Test.YtipcjpgonncinaaV9
set_option linter.unusedVariables false
set_option linter.unusedSimpArgs false
namespace Go.Proofs.Ytipcjpgonncinaa.V
open Go.RowKit Go.Proofs Go.Proofs.YtipcjpgonncinaaW.PrintWords Go.Proofs.YtipcjpgonncinaaW.PrintLast EV
/-! ### laws_FnExactVoicesFor: function 5 -/
def laws_FnExactVoicesFor.j0 : Nat → List (S54) → List (S51) → Bool → List Int → Int → List Int → Int → Option (Bool)
  | 0, _, _, _, _, _, _, _ => none
  | k + 1, x1, x11, x51, x364000, x364001, x380000, x380001 => if x51 = true then (some false) else ((laws_toInstrument.f k x364000 x364001).bind fun bt385 => ((laws_eqInstrument.f k x380000 x380001 bt385.1 bt385.2).bind fun t389 => (if t389 = true then ((laws_toNoteS.f k x1).bind fun t390 => ((laws_eqNoteS.f k x11 t390).bind fun t393 => (if t393 = true then (some true) else (some false)))) else (some false))))
def laws_FnExactVoicesFor.f (k : Nat) (l0_0 : List Int) (a0_1 : Int) (l1 : List (S54)) (a2 : Int) : Option (Bool) := (laws_szInstrument.f l0_0 a0_1 1048576).bind fun t364 => (if t364 < 0 then (some true) else ((laws_szNoteS.f l1 t364).bind fun t365 => (if t365 < 0 then (some true) else ((laws_toInstrument.f k l0_0 a0_1).bind fun bt366 => ((laws_toNoteS.f k l1).bind fun t370 => ((spec_VoicesFor.f k bt366.1 bt366.2 t370 a2).bind fun bt373 => ((laws_toInstrument.f k l0_0 a0_1).bind fun bt375 => ((laws_toNoteS.f k l1).bind fun t380 => ((impl_VoicesFor.f k bt375.1 bt375.2 t380 a2).bind fun bt383 => (if bt383.1 = bt373.1 then (laws_FnExactVoicesFor.j0 k l1 t380 (bt383.2 != bt373.2) l0_0 a0_1 bt375.1 bt375.2) else (laws_FnExactVoicesFor.j0 k l1 t380 true l0_0 a0_1 bt375.1 bt375.2)))))))))))
set_option maxRecDepth 8000 in
set_option maxHeartbeats 2000000 in
theorem laws_FnExactVoicesFor.con (k : Nat) (l0_0 : List Int) (a0_1 : Int) (l1 : List (S54)) (a2 : Int) (r : Bool) (H : laws_FnExactVoicesFor.f k l0_0 a0_1 l1 a2 = some r) : Con Try.prog 5 [.p (.ag [.sl (.int .i64) l0_0, .v (.int .i64 a0_1)]), .p (.c (.sl K54 l1)), .p (.c (.v (.int .i64 a2)))] (.p (.c (.v (.bool r)))) := by
  refine Con.mk' (fn := Try.f5) Try.func5 rfl (by kernel_rfl) rfl rfl rfl fun X w0 gs hF => ?_
  unfold laws_FnExactVoicesFor.f at H
  exact auto
instance laws_FnExactVoicesFor.ctr {k : Nat} {l0_0 : List Int} {a0_1 : Int} {l1 : List (S54)} {a2 : Int} {r : Bool} : Ctr (laws_FnExactVoicesFor.f k l0_0 a0_1 l1 a2 = some r) (Con Try.prog 5 [.p (.ag [.sl (.int .i64) l0_0, .v (.int .i64 a0_1)]), .p (.c (.sl K54 l1)), .p (.c (.v (.int .i64 a2)))] (.p (.c (.v (.bool r))))) := ⟨laws_FnExactVoicesFor.con _ _ _ _ _ _⟩
theorem laws_FnExactVoicesFor.calls (k : Nat) (A0_0 : Option Addr) (c0_0 : Nat) (l0_0 : List Int) (a0_1 : Int) (A1 : Option Addr) (c1 : Nat) (l1 : List (S54)) (a2 : Int) (r : Bool) (w : World) (hr0_0 : Kd.C (Kd.int .i64) w A0_0 l0_0.length l0_0) (hc0_0 : l0_0.length ≤ c0_0) (hr1 : Kd.C k54 w A1 l1.length l1) (hc1 : l1.length ≤ c1) (h : laws_FnExactVoicesFor.f k l0_0 a0_1 l1 a2 = some r) :
    Calls Try.prog 5 #[.agg #[.slice A0_0 l0_0.length c0_0, .int .i64 a0_1], .slice A1 l1.length c1, .int .i64 a2] w fun e w' => e = .returned (.bool r) ∧ Below w.heap.size w w' :=
  (laws_FnExactVoicesFor.con k l0_0 a0_1 l1 a2 r h).val rfl (show Args.relg (fun _ => False) w _ [.agg #[.slice A0_0 l0_0.length c0_0, .int .i64 a0_1], .slice A1 l1.length c1, .int .i64 a2] [.slice A0_0 l0_0.length c0_0, .int .i64 a0_1, .slice A1 l1.length c1, .int .i64 a2] from ⟨_, _, rfl, ⟨rfl, ⟨A0_0, c0_0, rfl, hc0_0, row_of_C rfl (fun _ h => h) hr0_0⟩, rfl, ⟨rfl, rfl, trivial⟩⟩, ⟨_, _, rfl, ⟨rfl, A1, c1, rfl, hc1, row_of_C rfl (fun _ h => h) hr1⟩, ⟨_, _, rfl, ⟨rfl, rfl⟩, rfl⟩⟩⟩)
/-! ### laws_FnExactAlwaysKept: function 6 -/
mutual
def laws_FnExactAlwaysKept.j0 : Nat → List (S54) → Int → List Int → Bool → List (S51) → List Int → Bool → Bool → List Int → Int → List Int → Int → Option (Bool)
  | 0, _, _, _, _, _, _, _, _, _, _, _, _ => none
  | k + 1, x1, x2, x8, x9, x11, x12, x13, x57, x423000, x423001, x441000, x441001 => if x57 = true then (some false) else ((laws_toInstrument.f k x423000 x423001).bind fun bt449 => ((laws_eqInstrument.f k x441000 x441001 bt449.1 bt449.2).bind fun t453 => (if t453 = true then ((laws_toNoteS.f k x1).bind fun t454 => ((laws_eqNoteS.f k x11 t454).bind fun t457 => (if t457 = true then ((laws_markInstrument.f k x441000 x441001 1).bind fun bt458 => ((laws_markNoteS.f k x11 bt458.1).bind fun bt460 => (if bt460.1 < 0 then (laws_FnExactAlwaysKept.j1 k x1 x2 x8 x9 x12 true x423000 x423001) else ((laws_eqIntS.f k x12 x8).bind fun t462 => (if t462 = true then (laws_FnExactAlwaysKept.j1 k x1 x2 x8 x9 x12 (x13 != x9) x423000 x423001) else (laws_FnExactAlwaysKept.j1 k x1 x2 x8 x9 x12 true x423000 x423001)))))) else (some false)))) else (some false))))
def laws_FnExactAlwaysKept.j1 : Nat → List (S54) → Int → List Int → Bool → List Int → Bool → List Int → Int → Option (Bool)
  | 0, _, _, _, _, _, _, _, _ => none
  | k + 1, x1, x2, x8, x9, x12, x86, x423000, x423001 => if x86 = true then (some false) else ((laws_markIntS.f k x12 1).bind fun bt463 => ((laws_heldIntS.f k bt463.2 1).bind fun t465 => (if t465 < 0 then (some false) else (if t465 = bt463.1 then ((laws_toInstrument.f k x423000 x423001).bind fun bt466 => ((laws_toNoteS.f k x1).bind fun t470 => ((impl_AlwaysKept.f k bt466.1 bt466.2 t470 x2).bind fun bt473 => ((laws_eqIntS.f k bt473.1 x8).bind fun t477 => (if t477 = true then (laws_FnExactAlwaysKept.j2 k bt463.2 bt463.1 (bt473.2 != x9)) else (laws_FnExactAlwaysKept.j2 k bt463.2 bt463.1 true)))))) else (some false)))))
def laws_FnExactAlwaysKept.j2 : Nat → List Int → Int → Bool → Option (Bool)
  | 0, _, _, _ => none
  | k + 1, x12, x15, x115 => if x115 = true then (some false) else ((laws_heldIntS.f k x12 1).bind fun t478 => (if t478 < 0 then (some false) else (if t478 = x15 then (some true) else (some false))))
end
def laws_FnExactAlwaysKept.f (k : Nat) (l0_0 : List Int) (a0_1 : Int) (l1 : List (S54)) (a2 : Int) : Option (Bool) := (laws_szInstrument.f l0_0 a0_1 1048576).bind fun t423 => (if t423 < 0 then (some true) else ((laws_szNoteS.f l1 t423).bind fun t424 => (if t424 < 0 then (some true) else ((laws_toInstrument.f k l0_0 a0_1).bind fun bt425 => ((laws_toNoteS.f k l1).bind fun t429 => ((spec_AlwaysKept.f k bt425.1 bt425.2 t429 a2).bind fun bt432 => ((laws_toInstrument.f k l0_0 a0_1).bind fun bt436 => ((laws_toNoteS.f k l1).bind fun t441 => ((impl_AlwaysKept.f k bt436.1 bt436.2 t441 a2).bind fun bt444 => ((laws_eqIntS.f k bt444.1 bt432.1).bind fun t448 => (if t448 = true then (laws_FnExactAlwaysKept.j0 k l1 a2 bt432.1 bt432.2 t441 bt444.1 bt444.2 (bt444.2 != bt432.2) l0_0 a0_1 bt436.1 bt436.2) else (laws_FnExactAlwaysKept.j0 k l1 a2 bt432.1 bt432.2 t441 bt444.1 bt444.2 true l0_0 a0_1 bt436.1 bt436.2))))))))))))
set_option maxRecDepth 8000 in
set_option maxHeartbeats 2000000 in
theorem laws_FnExactAlwaysKept.con (k : Nat) (l0_0 : List Int) (a0_1 : Int) (l1 : List (S54)) (a2 : Int) (r : Bool) (H : laws_FnExactAlwaysKept.f k l0_0 a0_1 l1 a2 = some r) : Con Try.prog 6 [.p (.ag [.sl (.int .i64) l0_0, .v (.int .i64 a0_1)]), .p (.c (.sl K54 l1)), .p (.c (.v (.int .i64 a2)))] (.p (.c (.v (.bool r)))) := by
  refine Con.mk' (fn := Try.f6) Try.func6 rfl (by kernel_rfl) rfl rfl rfl fun X w0 gs hF => ?_
  unfold laws_FnExactAlwaysKept.f at H
  exact auto
instance laws_FnExactAlwaysKept.ctr {k : Nat} {l0_0 : List Int} {a0_1 : Int} {l1 : List (S54)} {a2 : Int} {r : Bool} : Ctr (laws_FnExactAlwaysKept.f k l0_0 a0_1 l1 a2 = some r) (Con Try.prog 6 [.p (.ag [.sl (.int .i64) l0_0, .v (.int .i64 a0_1)]), .p (.c (.sl K54 l1)), .p (.c (.v (.int .i64 a2)))] (.p (.c (.v (.bool r))))) := ⟨laws_FnExactAlwaysKept.con _ _ _ _ _ _⟩
theorem laws_FnExactAlwaysKept.calls (k : Nat) (A0_0 : Option Addr) (c0_0 : Nat) (l0_0 : List Int) (a0_1 : Int) (A1 : Option Addr) (c1 : Nat) (l1 : List (S54)) (a2 : Int) (r : Bool) (w : World) (hr0_0 : Kd.C (Kd.int .i64) w A0_0 l0_0.length l0_0) (hc0_0 : l0_0.length ≤ c0_0) (hr1 : Kd.C k54 w A1 l1.length l1) (hc1 : l1.length ≤ c1) (h : laws_FnExactAlwaysKept.f k l0_0 a0_1 l1 a2 = some r) :
    Calls Try.prog 6 #[.agg #[.slice A0_0 l0_0.length c0_0, .int .i64 a0_1], .slice A1 l1.length c1, .int .i64 a2] w fun e w' => e = .returned (.bool r) ∧ Below w.heap.size w w' :=
  (laws_FnExactAlwaysKept.con k l0_0 a0_1 l1 a2 r h).val rfl (show Args.relg (fun _ => False) w _ [.agg #[.slice A0_0 l0_0.length c0_0, .int .i64 a0_1], .slice A1 l1.length c1, .int .i64 a2] [.slice A0_0 l0_0.length c0_0, .int .i64 a0_1, .slice A1 l1.length c1, .int .i64 a2] from ⟨_, _, rfl, ⟨rfl, ⟨A0_0, c0_0, rfl, hc0_0, row_of_C rfl (fun _ h => h) hr0_0⟩, rfl, ⟨rfl, rfl, trivial⟩⟩, ⟨_, _, rfl, ⟨rfl, A1, c1, rfl, hc1, row_of_C rfl (fun _ h => h) hr1⟩, ⟨_, _, rfl, ⟨rfl, rfl⟩, rfl⟩⟩⟩)
end Go.Proofs.Ytipcjpgonncinaa.V
