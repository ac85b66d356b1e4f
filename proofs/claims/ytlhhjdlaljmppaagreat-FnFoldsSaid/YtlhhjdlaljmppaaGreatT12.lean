/- BY EV: what the Go functions compute (read off the print), and that their calls come to it. No condition. -/
import Derived.Test.YtlhhjdlaljmppaaGreatTEU
import Derived.Test.YtlhhjdlaljmppaaGreatT1
import Derived.Test.YtlhhjdlaljmppaaGreatT3
import Derived.Test.YtlhhjdlaljmppaaGreatT5
import Derived.Test.YtlhhjdlaljmppaaGreatT6
set_option linter.unusedVariables false
set_option linter.unusedSimpArgs false
namespace Go.Proofs.YtlhhjdlaljmppaaGreat.T
open Go.RowKit Go.Proofs Go.Proofs.YtlhhjdlaljmppaaGreatW.PrintWords Go.Proofs.YtlhhjdlaljmppaaGreatW.PrintLast EV
/-! ### impl_MissingPitches: function 18 -/
mutual
def impl_MissingPitches.j0 : Nat → List (S47) → Bool → List Int → Int → Option (List Int × Bool)
  | 0, _, _, _, _ => none
  | k + 1, x1, x16, x472000, x472001 => if x16 = true then (some (([] : List Int), false)) else (impl_MissingPitches.l0 k (([] : List Int)) x1 (x1.length : Int) 0 x472000 x472001)
def impl_MissingPitches.l0 : Nat → List Int → List (S47) → Int → Int → List Int → Int → Option (List Int × Bool)
  | 0, _, _, _, _, _, _ => none
  | k + 1, x6, x18, x19, x20, x472000, x472001 => if x20 < x19 then (if 0 ≤ x20 then (if x20 < (x18.length : Int) then ((slices_Contains_int_int.f k x472000 ((rd_T47 x18 x20).f0)).bind fun t479 => (if t479 = true then (impl_MissingPitches.l0 k x6 x18 x19 (wrap64 (x20 + 1)) x472000 x472001) else (if x6.length < 17592186044416 then (impl_MissingPitches.l0 k (x6 ++ [(rd_T47 x18 x20).f0]) x18 x19 (wrap64 (x20 + 1)) x472000 x472001) else (none)))) else (none)) else (none)) else ((impl_sortedSet.f x6).bind fun t483 => (some (t483, true)))
end
def impl_MissingPitches.f (k : Nat) (l0_0 : List Int) (a0_1 : Int) (l1 : List (S47)) : Option (List Int × Bool) := (impl_IsInstrument.f k l0_0 a0_1).bind fun t472 => (if t472 = true then ((impl_IsScore.f k l1).bind fun t473 => (impl_MissingPitches.j0 k l1 (!t473) l0_0 a0_1)) else (impl_MissingPitches.j0 k l1 true l0_0 a0_1))
instance impl_MissingPitches.lp0 {k : Nat} {r : List Int × Bool} {Q : Wr → Prop} {p1 : List (S47)} {p2 : Int} {p4 : List Int} {p5 : Int} {x6_2 : List Int} {x20_2 : Int} : Lp (impl_MissingPitches.l0 k x6_2 p1 p2 x20_2 p4 p5 = some r) Q (fun k => ∀ {x6_2 : List Int} {x20_2 : Int}, impl_MissingPitches.l0 k x6_2 p1 p2 x20_2 p4 p5 = some r → Q [(12, .p (.c (.rp (Tryz.f18.ntmps + 6)))), (2 * (Tryz.f18.ntmps + 6) + 1, .row 3 (.int .i64) x6_2), (40, .p (.c (.v (.int .i64 x20_2))))]) k [(12, .p (.c (.rp (Tryz.f18.ntmps + 6)))), (2 * (Tryz.f18.ntmps + 6) + 1, .row 3 (.int .i64) x6_2), (40, .p (.c (.v (.int .i64 x20_2))))] := ⟨fun j h => j h⟩
set_option maxRecDepth 20000 in
set_option maxHeartbeats 2000000 in
theorem impl_MissingPitches.con (k : Nat) (l0_0 : List Int) (a0_1 : Int) (l1 : List (S47)) (r1 : List Int) (r2 : Bool) (H : impl_MissingPitches.f k l0_0 a0_1 l1 = some (r1, r2)) : Con Tryz.prog 18 [.p (.ag [.sl (.int .i64) l0_0, .v (.int .i64 a0_1)]), .p (.c (.sl K47 l1))] (.tp [.c (.ow 3 (.int .i64) r1), .c (.v (.bool r2))]) := by
  refine Con.mk' (fn := Tryz.f18) Tryz.func18 rfl (by kernel_rfl) rfl rfl rfl fun X w0 gs hF => ?_
  unfold impl_MissingPitches.f at H
  exact auto
instance impl_MissingPitches.ctr {k : Nat} {l0_0 : List Int} {a0_1 : Int} {l1 : List (S47)} {t_ : (List Int) × (Bool)} : Ctr (impl_MissingPitches.f k l0_0 a0_1 l1 = some t_) (Con Tryz.prog 18 [.p (.ag [.sl (.int .i64) l0_0, .v (.int .i64 a0_1)]), .p (.c (.sl K47 l1))] (.tp [.c (.ow 3 (.int .i64) t_.1), .c (.v (.bool t_.2))])) := ⟨fun h => impl_MissingPitches.con _ _ _ _ (t_.1) (t_.2) h⟩
/-! ### impl_PlayableClasses: function 19 -/
def impl_PlayableClasses.l0 : Nat → List Int → List Int → Int → Int → Option (List Int × Bool)
  | 0, _, _, _, _ => none
  | k + 1, x4, x12, x13, x14 => if x14 < x13 then (if 0 ≤ x14 then (if x14 < (x12.length : Int) then (if x4.length < 17592186044416 then (impl_PlayableClasses.l0 k (x4 ++ [Int.tmod (rd x12 x14) 12]) x12 x13 (wrap64 (x14 + 1))) else (none)) else (none)) else (none)) else ((impl_sortedSet.f x4).bind fun t495 => (some (t495, true)))
def impl_PlayableClasses.f (k : Nat) (l0_0 : List Int) (a0_1 : Int) : Option (List Int × Bool) := (impl_IsInstrument.f k l0_0 a0_1).bind fun t487 => (if t487 = true then (impl_PlayableClasses.l0 k (([] : List Int)) l0_0 (l0_0.length : Int) 0) else (some (([] : List Int), false)))
instance impl_PlayableClasses.lp0 {k : Nat} {r : List Int × Bool} {Q : Wr → Prop} {p1 : List Int} {p2 : Int} {x4_1 : List Int} {x14_1 : Int} : Lp (impl_PlayableClasses.l0 k x4_1 p1 p2 x14_1 = some r) Q (fun k => ∀ {x4_1 : List Int} {x14_1 : Int}, impl_PlayableClasses.l0 k x4_1 p1 p2 x14_1 = some r → Q [(8, .p (.c (.rp (Tryz.f19.ntmps + 4)))), (2 * (Tryz.f19.ntmps + 4) + 1, .row 3 (.int .i64) x4_1), (28, .p (.c (.v (.int .i64 x14_1))))]) k [(8, .p (.c (.rp (Tryz.f19.ntmps + 4)))), (2 * (Tryz.f19.ntmps + 4) + 1, .row 3 (.int .i64) x4_1), (28, .p (.c (.v (.int .i64 x14_1))))] := ⟨fun j h => j h⟩
set_option maxRecDepth 20000 in
set_option maxHeartbeats 2000000 in
theorem impl_PlayableClasses.con (k : Nat) (l0_0 : List Int) (a0_1 : Int) (r1 : List Int) (r2 : Bool) (H : impl_PlayableClasses.f k l0_0 a0_1 = some (r1, r2)) : Con Tryz.prog 19 [.p (.ag [.sl (.int .i64) l0_0, .v (.int .i64 a0_1)])] (.tp [.c (.ow 3 (.int .i64) r1), .c (.v (.bool r2))]) := by
  refine Con.mk' (fn := Tryz.f19) Tryz.func19 rfl (by kernel_rfl) rfl rfl rfl fun X w0 gs hF => ?_
  unfold impl_PlayableClasses.f at H
  exact auto
instance impl_PlayableClasses.ctr {k : Nat} {l0_0 : List Int} {a0_1 : Int} {t_ : (List Int) × (Bool)} : Ctr (impl_PlayableClasses.f k l0_0 a0_1 = some t_) (Con Tryz.prog 19 [.p (.ag [.sl (.int .i64) l0_0, .v (.int .i64 a0_1)])] (.tp [.c (.ow 3 (.int .i64) t_.1), .c (.v (.bool t_.2))])) := ⟨fun h => impl_PlayableClasses.con _ _ _ (t_.1) (t_.2) h⟩
end Go.Proofs.YtlhhjdlaljmppaaGreat.T
