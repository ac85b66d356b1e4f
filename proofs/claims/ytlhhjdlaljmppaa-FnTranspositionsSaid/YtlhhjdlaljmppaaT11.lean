/- BY EV: what the Go functions compute (read off the print), and that their calls come to it. No condition. -/
import Derived.Test.YtlhhjdlaljmppaaTEU
import Derived.Test.YtlhhjdlaljmppaaT1
import Derived.Test.YtlhhjdlaljmppaaT4
import Derived.Test.YtlhhjdlaljmppaaT5
set_option linter.unusedVariables false
set_option linter.unusedSimpArgs false
namespace Go.Proofs.Ytlhhjdlaljmppaa.T
open Go.RowKit Go.Proofs Go.Proofs.YtlhhjdlaljmppaaW.PrintWords Go.Proofs.YtlhhjdlaljmppaaW.PrintLast EV
/-! ### impl_MissingPitches: function 20 -/
mutual
def impl_MissingPitches.j0 : Nat → List (S60) → Bool → List Int → Int → Option (List Int × Bool)
  | 0, _, _, _, _ => none
  | k + 1, x1, x16, x457000, x457001 => if x16 = true then (some (([] : List Int), false)) else (impl_MissingPitches.l0 k (([] : List Int)) x1 (x1.length : Int) 0 x457000 x457001)
def impl_MissingPitches.l0 : Nat → List Int → List (S60) → Int → Int → List Int → Int → Option (List Int × Bool)
  | 0, _, _, _, _, _, _ => none
  | k + 1, x6, x18, x19, x20, x457000, x457001 => if x20 < x19 then (if 0 ≤ x20 then (if x20 < (x18.length : Int) then ((slices_Contains_int_int.f k x457000 ((rd_T60 x18 x20).f0)).bind fun t464 => (if t464 = true then (impl_MissingPitches.l0 k x6 x18 x19 (wrap64 (x20 + 1)) x457000 x457001) else (if x6.length < 17592186044416 then (impl_MissingPitches.l0 k (x6 ++ [(rd_T60 x18 x20).f0]) x18 x19 (wrap64 (x20 + 1)) x457000 x457001) else (none)))) else (none)) else (none)) else ((impl_sortedSet.f x6).bind fun t468 => (some (t468, true)))
end
def impl_MissingPitches.f (k : Nat) (l0_0 : List Int) (a0_1 : Int) (l1 : List (S60)) : Option (List Int × Bool) := (impl_IsInstrument.f k l0_0 a0_1).bind fun t457 => (if t457 = true then ((impl_IsScore.f k l1).bind fun t458 => (impl_MissingPitches.j0 k l1 (!t458) l0_0 a0_1)) else (impl_MissingPitches.j0 k l1 true l0_0 a0_1))
instance impl_MissingPitches.lp0 {k : Nat} {r : List Int × Bool} {Q : Wr → Prop} {p1 : List (S60)} {p2 : Int} {p4 : List Int} {p5 : Int} {x6_2 : List Int} {x20_2 : Int} : Lp (impl_MissingPitches.l0 k x6_2 p1 p2 x20_2 p4 p5 = some r) Q (fun k => ∀ {x6_2 : List Int} {x20_2 : Int}, impl_MissingPitches.l0 k x6_2 p1 p2 x20_2 p4 p5 = some r → Q [(12, .p (.c (.rp (Try.f20.ntmps + 6)))), (2 * (Try.f20.ntmps + 6) + 1, .row 3 (.int .i64) x6_2), (40, .p (.c (.v (.int .i64 x20_2))))]) k [(12, .p (.c (.rp (Try.f20.ntmps + 6)))), (2 * (Try.f20.ntmps + 6) + 1, .row 3 (.int .i64) x6_2), (40, .p (.c (.v (.int .i64 x20_2))))] := ⟨fun j h => j h⟩
set_option maxRecDepth 8000 in
set_option maxHeartbeats 2000000 in
theorem impl_MissingPitches.con (k : Nat) (l0_0 : List Int) (a0_1 : Int) (l1 : List (S60)) (r1 : List Int) (r2 : Bool) (H : impl_MissingPitches.f k l0_0 a0_1 l1 = some (r1, r2)) : Con Try.prog 20 [.p (.ag [.sl (.int .i64) l0_0, .v (.int .i64 a0_1)]), .p (.c (.sl K60 l1))] (.tp [.c (.ow 3 (.int .i64) r1), .c (.v (.bool r2))]) := by
  refine Con.mk' (fn := Try.f20) Try.func20 rfl (by kernel_rfl) rfl rfl rfl fun X w0 gs hF => ?_
  unfold impl_MissingPitches.f at H
  exact auto
instance impl_MissingPitches.ctr {k : Nat} {l0_0 : List Int} {a0_1 : Int} {l1 : List (S60)} {t_ : (List Int) × (Bool)} : Ctr (impl_MissingPitches.f k l0_0 a0_1 l1 = some t_) (Con Try.prog 20 [.p (.ag [.sl (.int .i64) l0_0, .v (.int .i64 a0_1)]), .p (.c (.sl K60 l1))] (.tp [.c (.ow 3 (.int .i64) t_.1), .c (.v (.bool t_.2))])) := ⟨fun h => impl_MissingPitches.con _ _ _ _ (t_.1) (t_.2) h⟩
end Go.Proofs.Ytlhhjdlaljmppaa.T
