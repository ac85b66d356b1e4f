/- BY EV: what the Go functions compute (read off the print), and that their calls come to it. No condition. -/
import Derived.Test.YtgjpphcbdbfhlaaGreatLEU
import Derived.Test.YtgjpphcbdbfhlaaGreatL1
import Derived.Test.YtgjpphcbdbfhlaaGreatL4
import Derived.Test.YtgjpphcbdbfhlaaGreatL5
set_option linter.unusedVariables false
set_option linter.unusedSimpArgs false
namespace Go.Proofs.YtgjpphcbdbfhlaaGreat.L
open Go.RowKit Go.Proofs Go.Proofs.YtgjpphcbdbfhlaaGreatW.PrintWords Go.Proofs.YtgjpphcbdbfhlaaGreatW.PrintLast EV
/-! ### impl_tracksUsed: function 71 -/
def impl_tracksUsed.l0 : Nat → List Int → List (S40) → Int → Int → Option (List Int)
  | 0, _, _, _, _ => none
  | k + 1, x3, x7, x8, x9 => if x9 < x8 then (if 0 ≤ x9 then (if x9 < (x7.length : Int) then (if x3.length < 17592186044416 then (impl_tracksUsed.l0 k (x3 ++ [(rd_T40 x7 x9).f0]) x7 x8 (wrap64 (x9 + 1))) else (none)) else (none)) else (none)) else ((impl_sortedSet.f x3).bind fun t955 => (some t955))
def impl_tracksUsed.f (k : Nat) (l0 : List (S40)) : Option (List Int) := impl_tracksUsed.l0 k (([] : List Int)) l0 (l0.length : Int) 0
instance impl_tracksUsed.lp0 {k : Nat} {r : List Int} {Q : Wr → Prop} {p1 : List (S40)} {p2 : Int} {x3_1 : List Int} {x9_1 : Int} : Lp (impl_tracksUsed.l0 k x3_1 p1 p2 x9_1 = some r) Q (fun k => ∀ {x3_1 : List Int} {x9_1 : Int}, impl_tracksUsed.l0 k x3_1 p1 p2 x9_1 = some r → Q [(6, .p (.c (.rp (Tryz.f71.ntmps + 3)))), (2 * (Tryz.f71.ntmps + 3) + 1, .row 3 (.int .i64) x3_1), (18, .p (.c (.v (.int .i64 x9_1))))]) k [(6, .p (.c (.rp (Tryz.f71.ntmps + 3)))), (2 * (Tryz.f71.ntmps + 3) + 1, .row 3 (.int .i64) x3_1), (18, .p (.c (.v (.int .i64 x9_1))))] := ⟨fun j h => j h⟩
set_option maxRecDepth 20000 in
set_option maxHeartbeats 2000000 in
theorem impl_tracksUsed.con (k : Nat) (l0 : List (S40)) (r : List Int) (H : impl_tracksUsed.f k l0 = some r) : Con Tryz.prog 71 [.p (.c (.sl K40 l0))] (.p (.c (.ow 3 (.int .i64) r))) := by
  refine Con.mk' (fn := Tryz.f71) Tryz.func71 rfl (by kernel_rfl) rfl rfl rfl fun X w0 gs hF => ?_
  unfold impl_tracksUsed.f at H
  exact auto
instance impl_tracksUsed.ctr {k : Nat} {l0 : List (S40)} {r : List Int} : Ctr (impl_tracksUsed.f k l0 = some r) (Con Tryz.prog 71 [.p (.c (.sl K40 l0))] (.p (.c (.ow 3 (.int .i64) r)))) := ⟨impl_tracksUsed.con _ _ _⟩
/-! ### impl_SpareTracks: function 26 -/
mutual
def impl_SpareTracks.j0 : Nat → List (S40) → Bool → List Int → Int → Option (List Int × Bool)
  | 0, _, _, _, _ => none
  | k + 1, x1, x16, x959000, x959001 => if x16 = true then (some (([] : List Int), false)) else ((impl_tracksUsed.f k x1).bind fun t961 => (impl_SpareTracks.l0 k t961 (([] : List Int)) (x959000.length : Int) 0))
def impl_SpareTracks.l0 : Nat → List Int → List Int → Int → Int → Option (List Int × Bool)
  | 0, _, _, _, _ => none
  | k + 1, x6, x7, x22, x23 => if x23 < x22 then ((slices_Contains_int_int.f k x6 x23).bind fun t967 => (if t967 = true then (impl_SpareTracks.l0 k x6 x7 x22 (wrap64 (x23 + 1))) else (if x7.length < 17592186044416 then (impl_SpareTracks.l0 k x6 (x7 ++ [x23]) x22 (wrap64 (x23 + 1))) else (none)))) else (some (x7, true))
end
def impl_SpareTracks.f (k : Nat) (l0_0 : List Int) (a0_1 : Int) (l1 : List (S40)) : Option (List Int × Bool) := (impl_IsInstrument.f k l0_0 a0_1).bind fun t959 => (if t959 = true then ((impl_IsSheet.f k l1).bind fun t960 => (impl_SpareTracks.j0 k l1 (!t960) l0_0 a0_1)) else (impl_SpareTracks.j0 k l1 true l0_0 a0_1))
instance impl_SpareTracks.lp0 {k : Nat} {r : List Int × Bool} {Q : Wr → Prop} {p0 : List Int} {p2 : Int} {x7_2 : List Int} {x23_2 : Int} : Lp (impl_SpareTracks.l0 k p0 x7_2 p2 x23_2 = some r) Q (fun k => ∀ {x7_2 : List Int} {x23_2 : Int}, impl_SpareTracks.l0 k p0 x7_2 p2 x23_2 = some r → Q [(14, .p (.c (.rp (Tryz.f26.ntmps + 7)))), (2 * (Tryz.f26.ntmps + 7) + 1, .row 3 (.int .i64) x7_2), (46, .p (.c (.v (.int .i64 x23_2))))]) k [(14, .p (.c (.rp (Tryz.f26.ntmps + 7)))), (2 * (Tryz.f26.ntmps + 7) + 1, .row 3 (.int .i64) x7_2), (46, .p (.c (.v (.int .i64 x23_2))))] := ⟨fun j h => j h⟩
set_option maxRecDepth 20000 in
set_option maxHeartbeats 2000000 in
theorem impl_SpareTracks.con (k : Nat) (l0_0 : List Int) (a0_1 : Int) (l1 : List (S40)) (r1 : List Int) (r2 : Bool) (H : impl_SpareTracks.f k l0_0 a0_1 l1 = some (r1, r2)) : Con Tryz.prog 26 [.p (.ag [.sl (.int .i64) l0_0, .v (.int .i64 a0_1)]), .p (.c (.sl K40 l1))] (.tp [.c (.ow 3 (.int .i64) r1), .c (.v (.bool r2))]) := by
  refine Con.mk' (fn := Tryz.f26) Tryz.func26 rfl (by kernel_rfl) rfl rfl rfl fun X w0 gs hF => ?_
  unfold impl_SpareTracks.f at H
  exact auto
instance impl_SpareTracks.ctr {k : Nat} {l0_0 : List Int} {a0_1 : Int} {l1 : List (S40)} {t_ : (List Int) × (Bool)} : Ctr (impl_SpareTracks.f k l0_0 a0_1 l1 = some t_) (Con Tryz.prog 26 [.p (.ag [.sl (.int .i64) l0_0, .v (.int .i64 a0_1)]), .p (.c (.sl K40 l1))] (.tp [.c (.ow 3 (.int .i64) t_.1), .c (.v (.bool t_.2))])) := ⟨fun h => impl_SpareTracks.con _ _ _ _ (t_.1) (t_.2) h⟩
/-! ### impl_TracksUsed: function 28 -/
def impl_TracksUsed.f (k : Nat) (l0 : List (S40)) : Option (List Int × Bool) := (impl_IsSheet.f k l0).bind fun t986 => (if t986 = true then ((impl_tracksUsed.f k l0).bind fun t987 => (some (t987, true))) else (some (([] : List Int), false)))
set_option maxRecDepth 20000 in
set_option maxHeartbeats 2000000 in
theorem impl_TracksUsed.con (k : Nat) (l0 : List (S40)) (r1 : List Int) (r2 : Bool) (H : impl_TracksUsed.f k l0 = some (r1, r2)) : Con Tryz.prog 28 [.p (.c (.sl K40 l0))] (.tp [.c (.ow 3 (.int .i64) r1), .c (.v (.bool r2))]) := by
  refine Con.mk' (fn := Tryz.f28) Tryz.func28 rfl (by kernel_rfl) rfl rfl rfl fun X w0 gs hF => ?_
  unfold impl_TracksUsed.f at H
  exact auto
instance impl_TracksUsed.ctr {k : Nat} {l0 : List (S40)} {t_ : (List Int) × (Bool)} : Ctr (impl_TracksUsed.f k l0 = some t_) (Con Tryz.prog 28 [.p (.c (.sl K40 l0))] (.tp [.c (.ow 3 (.int .i64) t_.1), .c (.v (.bool t_.2))])) := ⟨fun h => impl_TracksUsed.con _ _ (t_.1) (t_.2) h⟩
end Go.Proofs.YtgjpphcbdbfhlaaGreat.L
