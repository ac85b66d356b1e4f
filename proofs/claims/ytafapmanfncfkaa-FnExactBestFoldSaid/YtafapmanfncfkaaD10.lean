/- BY EV: what the Go functions compute (read off the print), and that their calls come to it. No condition. -/
import Derived.Test.YtafapmanfncfkaaDEU
import Derived.Test.YtafapmanfncfkaaD1
import Derived.Test.YtafapmanfncfkaaD2
import Derived.Test.YtafapmanfncfkaaD8
import Derived.Test.YtafapmanfncfkaaD9
set_option linter.unusedVariables false
set_option linter.unusedSimpArgs false
namespace Go.Proofs.Ytafapmanfncfkaa.D
open Go.RowKit Go.Proofs Go.Proofs.YtafapmanfncfkaaW.PrintWords Go.Proofs.YtafapmanfncfkaaW.PrintLast EV
/-! ### laws_FnExactBestFold: function 4 -/
def laws_FnExactBestFold.j0 : Nat → List (S57) → List (S55) → Bool → List Int → Int → List Int → Int → Option (Bool)
  | 0, _, _, _, _, _, _, _ => none
  | k + 1, x1, x10, x56, x256000, x256001, x273000, x273001 => if x56 = true then (some false) else ((laws_toInstrument.f k x256000 x256001).bind fun bt279 => ((laws_eqInstrument.f k x273000 x273001 bt279.1 bt279.2).bind fun t283 => (if t283 = true then ((laws_toNoteS.f k x1).bind fun t284 => ((laws_eqNoteS.f k x10 t284).bind fun t287 => (if t287 = true then (some true) else (some false)))) else (some false))))
def laws_FnExactBestFold.f (k : Nat) (l0_0 : List Int) (a0_1 : Int) (l1 : List (S57)) : Option (Bool) := (laws_szInstrument.f l0_0 a0_1 1048576).bind fun t256 => (if t256 < 0 then (some true) else ((laws_szNoteS.f l1 t256).bind fun t257 => (if t257 < 0 then (some true) else ((laws_toInstrument.f k l0_0 a0_1).bind fun bt258 => ((laws_toNoteS.f k l1).bind fun t262 => ((spec_BestFold.f k bt258.1 bt258.2 t262).bind fun bt265 => ((laws_toInstrument.f k l0_0 a0_1).bind fun bt268 => ((laws_toNoteS.f k l1).bind fun t273 => ((impl_BestFold.f k bt268.1 bt268.2 t273).bind fun bt276 => (if bt276.1 = bt265.1 then (if bt276.2.1 = bt265.2.1 then (laws_FnExactBestFold.j0 k l1 t273 (bt276.2.2 != bt265.2.2) l0_0 a0_1 bt268.1 bt268.2) else (laws_FnExactBestFold.j0 k l1 t273 true l0_0 a0_1 bt268.1 bt268.2)) else (laws_FnExactBestFold.j0 k l1 t273 true l0_0 a0_1 bt268.1 bt268.2)))))))))))
set_option maxRecDepth 8000 in
set_option maxHeartbeats 2000000 in
theorem laws_FnExactBestFold.con (k : Nat) (l0_0 : List Int) (a0_1 : Int) (l1 : List (S57)) (r : Bool) (H : laws_FnExactBestFold.f k l0_0 a0_1 l1 = some r) : Con Try.prog 4 [.p (.ag [.sl (.int .i64) l0_0, .v (.int .i64 a0_1)]), .p (.c (.sl K57 l1))] (.p (.c (.v (.bool r)))) := by
  refine Con.mk' (fn := Try.f4) Try.func4 rfl (by kernel_rfl) rfl rfl rfl fun X w0 gs hF => ?_
  unfold laws_FnExactBestFold.f at H
  exact auto
instance laws_FnExactBestFold.ctr {k : Nat} {l0_0 : List Int} {a0_1 : Int} {l1 : List (S57)} {r : Bool} : Ctr (laws_FnExactBestFold.f k l0_0 a0_1 l1 = some r) (Con Try.prog 4 [.p (.ag [.sl (.int .i64) l0_0, .v (.int .i64 a0_1)]), .p (.c (.sl K57 l1))] (.p (.c (.v (.bool r))))) := ⟨laws_FnExactBestFold.con _ _ _ _ _⟩
theorem laws_FnExactBestFold.calls (k : Nat) (A0_0 : Option Addr) (c0_0 : Nat) (l0_0 : List Int) (a0_1 : Int) (A1 : Option Addr) (c1 : Nat) (l1 : List (S57)) (r : Bool) (w : World) (hr0_0 : Kd.C (Kd.int .i64) w A0_0 l0_0.length l0_0) (hc0_0 : l0_0.length ≤ c0_0) (hr1 : Kd.C k57 w A1 l1.length l1) (hc1 : l1.length ≤ c1) (h : laws_FnExactBestFold.f k l0_0 a0_1 l1 = some r) :
    Calls Try.prog 4 #[.agg #[.slice A0_0 l0_0.length c0_0, .int .i64 a0_1], .slice A1 l1.length c1] w fun e w' => e = .returned (.bool r) ∧ Below w.heap.size w w' :=
  (laws_FnExactBestFold.con k l0_0 a0_1 l1 r h).val rfl (show Args.relg (fun _ => False) w _ [.agg #[.slice A0_0 l0_0.length c0_0, .int .i64 a0_1], .slice A1 l1.length c1] [.slice A0_0 l0_0.length c0_0, .int .i64 a0_1, .slice A1 l1.length c1] from ⟨_, _, rfl, ⟨rfl, ⟨A0_0, c0_0, rfl, hc0_0, row_of_C rfl (fun _ h => h) hr0_0⟩, rfl, ⟨rfl, rfl, trivial⟩⟩, ⟨_, _, rfl, ⟨rfl, A1, c1, rfl, hc1, row_of_C rfl (fun _ h => h) hr1⟩, rfl⟩⟩)
end Go.Proofs.Ytafapmanfncfkaa.D
