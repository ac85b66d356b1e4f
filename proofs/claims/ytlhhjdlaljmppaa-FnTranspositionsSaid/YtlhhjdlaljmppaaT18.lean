/- BY EV: what the Go functions compute (read off the print), and that their calls come to it. No condition. -/
import Derived.Test.YtlhhjdlaljmppaaTEU
import Derived.Test.YtlhhjdlaljmppaaT2
import Derived.Test.YtlhhjdlaljmppaaT3
import Derived.Test.YtlhhjdlaljmppaaT6
import Derived.Test.YtlhhjdlaljmppaaT7
import Derived.Test.YtlhhjdlaljmppaaT10
import Derived.Test.YtlhhjdlaljmppaaT11
import Derived.Test.YtlhhjdlaljmppaaT12
import Derived.Test.YtlhhjdlaljmppaaT15
import Derived.Test.YtlhhjdlaljmppaaT17
set_option linter.unusedVariables false
set_option linter.unusedSimpArgs false
namespace Go.Proofs.Ytlhhjdlaljmppaa.T
open Go.RowKit Go.Proofs Go.Proofs.YtlhhjdlaljmppaaW.PrintWords Go.Proofs.YtlhhjdlaljmppaaW.PrintLast EV
/-! ### laws_FnTranspositions: function 3 -/
mutual
def laws_FnTranspositions.j0 : Nat → List Int → List (S60) → Bool → Int → Int → List Int → List Int → Bool → List Int → Int → Option (Bool)
  | 0, _, _, _, _, _, _, _, _, _, _ => none
  | k + 1, x1, x6, x9, x10, x11, x15, x19, x129, x480000, x480001 => if x129 = true then (some false) else (if x9 = true then (if (x15.length : Int) = 49 then (if 0 ≤ (wrap64 (x10 + 24)) then (if (wrap64 (x10 + 24)) < (x15.length : Int) then (if (rd x15 (wrap64 (x10 + 24))) = x11 then (laws_FnTranspositions.j1 k x1 x6 x10 x11 x15 x19 ((x11 == 0) != (decide ((x19.length : Int) > 0))) x480000 x480001) else (laws_FnTranspositions.j1 k x1 x6 x10 x11 x15 x19 true x480000 x480001)) else (none)) else (none)) else (laws_FnTranspositions.j1 k x1 x6 x10 x11 x15 x19 true x480000 x480001)) else (laws_FnTranspositions.j3 k x1))
def laws_FnTranspositions.j3 : Nat → List Int → Option (Bool)
  | 0, _ => none
  | k + 1, x1 => (spec_DrawTransposeLoss.f k x1).bind fun bt511 => ((impl_TransposeLoss.f k bt511.1 bt511.2.1 bt511.2.2.1 bt511.2.2.2).bind fun bt520 => ((spec_TransposeLoss.f k bt511.1 bt511.2.1 bt511.2.2.1 bt511.2.2.2).bind fun bt522 => (if (bt520.2 != bt522.2) = true then (laws_FnTranspositions.j4 k bt511.2.2.1 bt511.2.2.2 bt520.2 bt522.1 true bt511.1 bt511.2.1) else (laws_FnTranspositions.j4 k bt511.2.2.1 bt511.2.2.2 bt520.2 bt522.1 (bt520.1 != bt522.1) bt511.1 bt511.2.1))))
def laws_FnTranspositions.j4 : Nat → List (S60) → Int → Bool → Int → Bool → List Int → Int → Option (Bool)
  | 0, _, _, _, _, _, _, _ => none
  | k + 1, x27, x28, x30, x31, x240, x520000, x520001 => if x240 = true then (some false) else (if x30 = true then ((impl_TransposeScore.f k x27 x28).bind fun bt524 => ((spec_TransposeScore.f k x27 x28).bind fun bt528 => (if (bt524.2 != bt528.2) = true then (laws_FnTranspositions.j5 k x31 bt524.1 bt524.2 true x520000 x520001) else ((laws_pSameNotes.f k bt524.1 bt528.1).bind fun t532 => (laws_FnTranspositions.j5 k x31 bt524.1 bt524.2 (!t532) x520000 x520001))))) else (some true))
def laws_FnTranspositions.j5 : Nat → Int → List (S60) → Bool → Bool → List Int → Int → Option (Bool)
  | 0, _, _, _, _, _, _ => none
  | k + 1, x31, x33, x34, x262, x520000, x520001 => if x262 = true then (some false) else (if x34 = true then ((impl_MissingPitches.f k x520000 x520001 x33).bind fun bt533 => (if bt533.2 = true then (if (((bt533.1.length : Int) == 0) != (x31 == 0)) = true then (some false) else (some true)) else (some false))) else (some true))
def laws_FnTranspositions.j1 : Nat → List Int → List (S60) → Int → Int → List Int → List Int → Bool → List Int → Int → Option (Bool)
  | 0, _, _, _, _, _, _, _, _, _ => none
  | k + 1, x1, x6, x10, x11, x15, x19, x150, x480000, x480001 => if x150 = true then (some false) else (laws_FnTranspositions.l0 k x1 x6 x10 x11 x19 x15 (x15.length : Int) 0 x480000 x480001)
def laws_FnTranspositions.l0 : Nat → List Int → List (S60) → Int → Int → List Int → List Int → Int → Int → List Int → Int → Option (Bool)
  | 0, _, _, _, _, _, _, _, _, _, _ => none
  | k + 1, x1, x6, x10, x11, x19, x151, x152, x153, x480000, x480001 => if x153 < x152 then (if 0 ≤ x153 then (if x153 < (x151.length : Int) then ((impl_TransposeLoss.f k x480000 x480001 x6 (wrap64 (x153 - 24))).bind fun bt506 => (if bt506.2 = true then (if bt506.1 = (rd x151 x153) then (if (rd x151 x153) < x11 then (some false) else (if (rd x151 x153) = x11 then (if (wrap64 ((wrap64 (x153 - 24)) * (wrap64 (x153 - 24)))) < (wrap64 (x10 * x10)) then (some false) else (if (wrap64 (x153 - 24)) = (wrap64 (-x10)) then (if (wrap64 (x153 - 24)) < x10 then (some false) else ((laws_pIn.f k x19 (wrap64 (x153 - 24))).bind fun t508 => (if (t508 != ((rd x151 x153) == 0)) = true then (some false) else (laws_FnTranspositions.l0 k x1 x6 x10 x11 x19 x151 x152 (wrap64 (x153 + 1)) x480000 x480001)))) else ((laws_pIn.f k x19 (wrap64 (x153 - 24))).bind fun t509 => (if (t509 != ((rd x151 x153) == 0)) = true then (some false) else (laws_FnTranspositions.l0 k x1 x6 x10 x11 x19 x151 x152 (wrap64 (x153 + 1)) x480000 x480001))))) else ((laws_pIn.f k x19 (wrap64 (x153 - 24))).bind fun t510 => (if (t510 != ((rd x151 x153) == 0)) = true then (some false) else (laws_FnTranspositions.l0 k x1 x6 x10 x11 x19 x151 x152 (wrap64 (x153 + 1)) x480000 x480001))))) else (some false)) else (some false))) else (none)) else (none)) else (laws_FnTranspositions.j3 k x1)
end
def laws_FnTranspositions.f (k : Nat) (l0 : List Int) (l1 : List Int) : Option (Bool) := (laws_big.f l0 l1).bind fun t471 => (if t471 = true then (some true) else ((spec_DrawBestTransposition.f k l0).bind fun bt472 => ((impl_BestTransposition.f k bt472.1 bt472.2.1 bt472.2.2).bind fun bt480 => ((spec_BestTransposition.f k bt472.1 bt472.2.1 bt472.2.2).bind fun bt483 => ((impl_LossTable.f k bt472.1 bt472.2.1 bt472.2.2).bind fun bt486 => ((spec_LossTable.f k bt472.1 bt472.2.1 bt472.2.2).bind fun bt490 => ((impl_FullTranspositions.f k bt472.1 bt472.2.1 bt472.2.2).bind fun bt494 => ((spec_FullTranspositions.f k bt472.1 bt472.2.1 bt472.2.2).bind fun bt498 => (if (bt480.2.2 != bt483.2.2) = true then (laws_FnTranspositions.j0 k l1 bt472.2.2 bt480.2.2 bt483.1 bt483.2.1 bt490.1 bt498.1 true bt472.1 bt472.2.1) else (if bt480.1 = bt483.1 then (if bt480.2.1 = bt483.2.1 then (if (bt486.2 != bt490.2) = true then (laws_FnTranspositions.j0 k l1 bt472.2.2 bt480.2.2 bt483.1 bt483.2.1 bt490.1 bt498.1 true bt472.1 bt472.2.1) else ((laws_sameInts.f k bt486.1 bt490.1).bind fun t502 => (if t502 = true then (if (bt494.2 != bt498.2) = true then (laws_FnTranspositions.j0 k l1 bt472.2.2 bt480.2.2 bt483.1 bt483.2.1 bt490.1 bt498.1 true bt472.1 bt472.2.1) else ((laws_sameInts.f k bt494.1 bt498.1).bind fun t503 => (if t503 = true then (if (bt486.2 != bt480.2.2) = true then (laws_FnTranspositions.j0 k l1 bt472.2.2 bt480.2.2 bt483.1 bt483.2.1 bt490.1 bt498.1 true bt472.1 bt472.2.1) else (laws_FnTranspositions.j0 k l1 bt472.2.2 bt480.2.2 bt483.1 bt483.2.1 bt490.1 bt498.1 (bt494.2 != bt480.2.2) bt472.1 bt472.2.1)) else (laws_FnTranspositions.j0 k l1 bt472.2.2 bt480.2.2 bt483.1 bt483.2.1 bt490.1 bt498.1 true bt472.1 bt472.2.1)))) else (laws_FnTranspositions.j0 k l1 bt472.2.2 bt480.2.2 bt483.1 bt483.2.1 bt490.1 bt498.1 true bt472.1 bt472.2.1)))) else (laws_FnTranspositions.j0 k l1 bt472.2.2 bt480.2.2 bt483.1 bt483.2.1 bt490.1 bt498.1 true bt472.1 bt472.2.1)) else (laws_FnTranspositions.j0 k l1 bt472.2.2 bt480.2.2 bt483.1 bt483.2.1 bt490.1 bt498.1 true bt472.1 bt472.2.1)))))))))))
instance laws_FnTranspositions.lp0 {k : Nat} {r : Bool} {Q : Wr → Prop} {p0 : List Int} {p1 : List (S60)} {p2 : Int} {p3 : Int} {p4 : List Int} {p5 : List Int} {p6 : Int} {p8 : List Int} {p9 : Int} {x153_3 : Int} : Lp (laws_FnTranspositions.l0 k p0 p1 p2 p3 p4 p5 p6 x153_3 p8 p9 = some r) Q (fun k => ∀ {x153_3 : Int}, laws_FnTranspositions.l0 k p0 p1 p2 p3 p4 p5 p6 x153_3 p8 p9 = some r → Q [(306, .p (.c (.v (.int .i64 x153_3))))]) k [(306, .p (.c (.v (.int .i64 x153_3))))] := ⟨fun j h => j h⟩
set_option maxRecDepth 100000 in
set_option maxHeartbeats 40000000 in
theorem laws_FnTranspositions.con (k : Nat) (l0 : List Int) (l1 : List Int) (r : Bool) (H : laws_FnTranspositions.f k l0 l1 = some r) : Con Try.prog 3 [.p (.c (.sl (.int .u8) l0)), .p (.c (.sl (.int .u8) l1))] (.p (.c (.v (.bool r)))) := by
  refine Con.mk' (fn := Try.f3) Try.func3 rfl (by kernel_rfl) rfl rfl rfl fun X w0 gs hF => ?_
  unfold laws_FnTranspositions.f at H
  exact auto
instance laws_FnTranspositions.ctr {k : Nat} {l0 : List Int} {l1 : List Int} {r : Bool} : Ctr (laws_FnTranspositions.f k l0 l1 = some r) (Con Try.prog 3 [.p (.c (.sl (.int .u8) l0)), .p (.c (.sl (.int .u8) l1))] (.p (.c (.v (.bool r))))) := ⟨laws_FnTranspositions.con _ _ _ _⟩
theorem laws_FnTranspositions.calls (k : Nat) (A0 : Option Addr) (c0 : Nat) (l0 : List Int) (A1 : Option Addr) (c1 : Nat) (l1 : List Int) (r : Bool) (w : World) (hr0 : Kd.C (Kd.int .u8) w A0 l0.length l0) (hc0 : l0.length ≤ c0) (hr1 : Kd.C (Kd.int .u8) w A1 l1.length l1) (hc1 : l1.length ≤ c1) (h : laws_FnTranspositions.f k l0 l1 = some r) :
    Calls Try.prog 3 #[.slice A0 l0.length c0, .slice A1 l1.length c1] w fun e w' => e = .returned (.bool r) ∧ Below w.heap.size w w' :=
  (laws_FnTranspositions.con k l0 l1 r h).val rfl (show Args.relg (fun _ => False) w _ [.slice A0 l0.length c0, .slice A1 l1.length c1] [.slice A0 l0.length c0, .slice A1 l1.length c1] from ⟨_, _, rfl, ⟨rfl, A0, c0, rfl, hc0, row_of_C rfl (fun _ h => h) hr0⟩, ⟨_, _, rfl, ⟨rfl, A1, c1, rfl, hc1, row_of_C rfl (fun _ h => h) hr1⟩, rfl⟩⟩)
end Go.Proofs.Ytlhhjdlaljmppaa.T
