/- BY EV: what the Go functions compute (read off the print), and that their calls come to it. No condition. -/
import Derived.Test.YtafapmanfncfkaaBEU
import Derived.Test.YtafapmanfncfkaaB1
import Derived.Test.YtafapmanfncfkaaB2
import Derived.Test.YtafapmanfncfkaaB4
import Derived.Test.YtafapmanfncfkaaB5
set_option linter.unusedVariables false
set_option linter.unusedSimpArgs false
namespace Go.Proofs.Ytafapmanfncfkaa.B
open Go.RowKit Go.Proofs Go.Proofs.YtafapmanfncfkaaW.PrintWords Go.Proofs.YtafapmanfncfkaaW.PrintLast EV
/-! ### laws_FnExactBestTransposition: function 3 -/
def laws_FnExactBestTransposition.j0 : Nat → List (S57) → List (S55) → Bool → List Int → Int → List Int → Int → Option (Bool)
  | 0, _, _, _, _, _, _, _ => none
  | k + 1, x1, x10, x56, x215000, x215001, x232000, x232001 => if x56 = true then (some false) else ((laws_toInstrument.f k x215000 x215001).bind fun bt238 => ((laws_eqInstrument.f k x232000 x232001 bt238.1 bt238.2).bind fun t242 => (if t242 = true then ((laws_toNoteS.f k x1).bind fun t243 => ((laws_eqNoteS.f k x10 t243).bind fun t246 => (if t246 = true then (some true) else (some false)))) else (some false))))
def laws_FnExactBestTransposition.f (k : Nat) (l0_0 : List Int) (a0_1 : Int) (l1 : List (S57)) : Option (Bool) := (laws_szInstrument.f l0_0 a0_1 1048576).bind fun t215 => (if t215 < 0 then (some true) else ((laws_szNoteS.f l1 t215).bind fun t216 => (if t216 < 0 then (some true) else ((laws_toInstrument.f k l0_0 a0_1).bind fun bt217 => ((laws_toNoteS.f k l1).bind fun t221 => ((spec_BestTransposition.f k bt217.1 bt217.2 t221).bind fun bt224 => ((laws_toInstrument.f k l0_0 a0_1).bind fun bt227 => ((laws_toNoteS.f k l1).bind fun t232 => ((impl_BestTransposition.f k bt227.1 bt227.2 t232).bind fun bt235 => (if bt235.1 = bt224.1 then (if bt235.2.1 = bt224.2.1 then (laws_FnExactBestTransposition.j0 k l1 t232 (bt235.2.2 != bt224.2.2) l0_0 a0_1 bt227.1 bt227.2) else (laws_FnExactBestTransposition.j0 k l1 t232 true l0_0 a0_1 bt227.1 bt227.2)) else (laws_FnExactBestTransposition.j0 k l1 t232 true l0_0 a0_1 bt227.1 bt227.2)))))))))))
set_option maxRecDepth 8000 in
set_option maxHeartbeats 2000000 in
theorem laws_FnExactBestTransposition.con (k : Nat) (l0_0 : List Int) (a0_1 : Int) (l1 : List (S57)) (r : Bool) (H : laws_FnExactBestTransposition.f k l0_0 a0_1 l1 = some r) : Con Try.prog 3 [.p (.ag [.sl (.int .i64) l0_0, .v (.int .i64 a0_1)]), .p (.c (.sl K57 l1))] (.p (.c (.v (.bool r)))) := by
  refine Con.mk' (fn := Try.f3) Try.func3 rfl (by kernel_rfl) rfl rfl rfl fun X w0 gs hF => ?_
  unfold laws_FnExactBestTransposition.f at H
  exact auto
instance laws_FnExactBestTransposition.ctr {k : Nat} {l0_0 : List Int} {a0_1 : Int} {l1 : List (S57)} {r : Bool} : Ctr (laws_FnExactBestTransposition.f k l0_0 a0_1 l1 = some r) (Con Try.prog 3 [.p (.ag [.sl (.int .i64) l0_0, .v (.int .i64 a0_1)]), .p (.c (.sl K57 l1))] (.p (.c (.v (.bool r))))) := ⟨laws_FnExactBestTransposition.con _ _ _ _ _⟩
theorem laws_FnExactBestTransposition.calls (k : Nat) (A0_0 : Option Addr) (c0_0 : Nat) (l0_0 : List Int) (a0_1 : Int) (A1 : Option Addr) (c1 : Nat) (l1 : List (S57)) (r : Bool) (w : World) (hr0_0 : Kd.C (Kd.int .i64) w A0_0 l0_0.length l0_0) (hc0_0 : l0_0.length ≤ c0_0) (hr1 : Kd.C k57 w A1 l1.length l1) (hc1 : l1.length ≤ c1) (h : laws_FnExactBestTransposition.f k l0_0 a0_1 l1 = some r) :
    Calls Try.prog 3 #[.agg #[.slice A0_0 l0_0.length c0_0, .int .i64 a0_1], .slice A1 l1.length c1] w fun e w' => e = .returned (.bool r) ∧ Below w.heap.size w w' :=
  (laws_FnExactBestTransposition.con k l0_0 a0_1 l1 r h).val rfl (show Args.relg (fun _ => False) w _ [.agg #[.slice A0_0 l0_0.length c0_0, .int .i64 a0_1], .slice A1 l1.length c1] [.slice A0_0 l0_0.length c0_0, .int .i64 a0_1, .slice A1 l1.length c1] from ⟨_, _, rfl, ⟨rfl, ⟨A0_0, c0_0, rfl, hc0_0, row_of_C rfl (fun _ h => h) hr0_0⟩, rfl, ⟨rfl, rfl, trivial⟩⟩, ⟨_, _, rfl, ⟨rfl, A1, c1, rfl, hc1, row_of_C rfl (fun _ h => h) hr1⟩, rfl⟩⟩)
end Go.Proofs.Ytafapmanfncfkaa.B
