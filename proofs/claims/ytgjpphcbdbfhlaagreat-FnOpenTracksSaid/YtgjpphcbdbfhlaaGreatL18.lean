/- BY EV: what the Go functions compute (read off the print), and that their calls come to it. No condition. -/
import Derived.Test.YtgjpphcbdbfhlaaGreatLEU
import Derived.Test.YtgjpphcbdbfhlaaGreatL2
import Derived.Test.YtgjpphcbdbfhlaaGreatL4
import Derived.Test.YtgjpphcbdbfhlaaGreatL5
import Derived.Test.YtgjpphcbdbfhlaaGreatL6
import Derived.Test.YtgjpphcbdbfhlaaGreatL7
import Derived.Test.YtgjpphcbdbfhlaaGreatLDF
import Derived.Test.YtgjpphcbdbfhlaaGreatL17
set_option linter.unusedVariables false
set_option linter.unusedSimpArgs false
namespace Go.Proofs.YtgjpphcbdbfhlaaGreat.L
open Go.RowKit Go.Proofs Go.Proofs.YtgjpphcbdbfhlaaGreatW.PrintWords Go.Proofs.YtgjpphcbdbfhlaaGreatW.PrintLast EV
/-! ### spec_l1Cur_anySheet: function 76 -/
def spec_l1Cur_anySheet.l0 : Nat → List (S40) → List Int → Int → Int → Option ((List (S40)) × Int × Int)
  | 0, _, _, _, _ => none
  | k + 1, x3, x1000, x1001, x1002 => if (x3.length : Int) < 61 then (if x3.length < 5864062014805 then (spec_l1Cur_anySheet.l0 k (x3 ++ [(⟨1, wrap64 (3 * (x3.length : Int)), wrap64 ((wrap64 (3 * (x3.length : Int))) + 1)⟩ : S40)]) x1000 x1001 x1002) else (none)) else (some (x3, x1001, x1002))
def spec_l1Cur_anySheet.f (k : Nat) (s0_0 : List Int) (s0_1 : Int) (s0_2 : Int) : Option ((List (S40)) × Int × Int) := (spec_l1Cur_sheet.f k s0_0 s0_1 s0_2).bind fun bt691 => (if (bt691.1.length : Int) > 0 then ((spec_l1Cur_pick.f s0_0 bt691.2.1 bt691.2.2 (bt691.1.length : Int)).bind fun bt696 => ((spec_l1Cur_pick.f s0_0 bt696.2.1 bt696.2.2 30).bind fun bt699 => (if bt699.1 = 0 then ((spec_l1Cur_anyHole.f s0_0 bt699.2.1 bt699.2.2).bind fun bt702 => (if 0 ≤ bt696.1 then (if bt696.1 < (bt691.1.length : Int) then (some ((bt691.1.set (bt696.1 : Int).toNat (⟨bt702.1, bt702.2.1, bt702.2.2.1⟩ : S40)), bt702.2.2.2.1, bt702.2.2.2.2)) else (none)) else (none))) else (if bt699.1 = 1 then (if 0 ≤ bt696.1 then (if bt696.1 < (bt691.1.length : Int) then (if bt691.1.length < 5864062014805 then (some ((bt691.1 ++ [(⟨(rd_T40 bt691.1 bt696.1).f0, (rd_T40 bt691.1 bt696.1).f1, (rd_T40 bt691.1 bt696.1).f2⟩ : S40)]), bt699.2.1, bt699.2.2)) else (none)) else (none)) else (none)) else (if bt699.1 = 2 then (if 0 ≤ bt696.1 then (if bt696.1 < (bt691.1.length : Int) then (if bt691.1.length < 5864062014805 then (some ((bt691.1 ++ [(⟨(rd_T40 bt691.1 bt696.1).f0, (rd_T40 bt691.1 bt696.1).f2, wrap64 (((rd_T40 bt691.1 bt696.1).f2) + 2)⟩ : S40)]), bt699.2.1, bt699.2.2)) else (none)) else (none)) else (none)) else (if bt699.1 = 3 then (spec_l1Cur_anySheet.l0 k ([] : List (S40)) s0_0 bt699.2.1 bt699.2.2) else (some (bt691.1, bt699.2.1, bt699.2.2)))))))) else (some (bt691.1, bt691.2.1, bt691.2.2)))
instance spec_l1Cur_anySheet.lp0 {k : Nat} {r : (List (S40)) × Int × Int} {Q : Wr → Prop} {p1 : List Int} {p2 : Int} {p3 : Int} {x3_1 : List (S40)} : Lp (spec_l1Cur_anySheet.l0 k x3_1 p1 p2 p3 = some r) Q (fun k => ∀ {x3_1 : List (S40)}, spec_l1Cur_anySheet.l0 k x3_1 p1 p2 p3 = some r → Q [(6, .p (.c (.rp (Tryz.f76.ntmps + 3)))), (2 * (Tryz.f76.ntmps + 3) + 1, .row 40 K40 x3_1)]) k [(6, .p (.c (.rp (Tryz.f76.ntmps + 3)))), (2 * (Tryz.f76.ntmps + 3) + 1, .row 40 K40 x3_1)] := ⟨fun j h => j h⟩
set_option maxRecDepth 20000 in
set_option maxHeartbeats 2000000 in
theorem spec_l1Cur_anySheet.con (k : Nat) (s0_0 : List Int) (s0_1 : Int) (s0_2 : Int) (r1 : List (S40)) (r2 : Int) (r3 : Int) (H : spec_l1Cur_anySheet.f k s0_0 s0_1 s0_2 = some (r1, r2, r3)) : Con Tryz.prog 76 [.p (.ob 70 [.sl (.int .u8) s0_0, .v (.int .i64 s0_1), .v (.int .u64 s0_2)])] (.p (.c (.ow 40 K40 r1))) [(0, .ob 70 [.sl (.int .u8) s0_0, .v (.int .i64 r2), .v (.int .u64 r3)])] := by
  refine Con.mk' (fn := Tryz.f76) Tryz.func76 rfl (by kernel_rfl) rfl rfl rfl fun X w0 gs hF => ?_
  unfold spec_l1Cur_anySheet.f at H
  exact auto
instance spec_l1Cur_anySheet.ctr {k : Nat} {s0_0 : List Int} {s0_1 : Int} {s0_2 : Int} {t_ : (List (S40)) × (Int) × (Int)} : Ctr (spec_l1Cur_anySheet.f k s0_0 s0_1 s0_2 = some t_) (Con Tryz.prog 76 [.p (.ob 70 [.sl (.int .u8) s0_0, .v (.int .i64 s0_1), .v (.int .u64 s0_2)])] (.p (.c (.ow 40 K40 t_.1))) [(0, .ob 70 [.sl (.int .u8) s0_0, .v (.int .i64 t_.2.1), .v (.int .u64 t_.2.2)])]) := ⟨fun h => spec_l1Cur_anySheet.con _ _ _ _ (t_.1) (t_.2.1) (t_.2.2) h⟩
/-! ### impl_MoveSheet: function 18 -/
def impl_MoveSheet.f (k : Nat) (l0 : List (S40)) (a1 : Int) : Option ((List (S40)) × Bool) := (impl_IsSheet.f k l0).bind fun t753 => (if t753 = true then (if a1 < (-2000) then (some (([] : List (S40)), false)) else (if a1 > 2000 then (some (([] : List (S40)), false)) else ((impl_moveSheet.f k l0 a1).bind fun bt754 => (some (bt754.1, bt754.2))))) else (some (([] : List (S40)), false)))
set_option maxRecDepth 20000 in
set_option maxHeartbeats 2000000 in
theorem impl_MoveSheet.con (k : Nat) (l0 : List (S40)) (a1 : Int) (r1 : List (S40)) (r2 : Bool) (H : impl_MoveSheet.f k l0 a1 = some (r1, r2)) : Con Tryz.prog 18 [.p (.c (.sl K40 l0)), .p (.c (.v (.int .i64 a1)))] (.tp [.c (.ow 40 K40 r1), .c (.v (.bool r2))]) := by
  refine Con.mk' (fn := Tryz.f18) Tryz.func18 rfl (by kernel_rfl) rfl rfl rfl fun X w0 gs hF => ?_
  unfold impl_MoveSheet.f at H
  exact auto
instance impl_MoveSheet.ctr {k : Nat} {l0 : List (S40)} {a1 : Int} {t_ : (List (S40)) × (Bool)} : Ctr (impl_MoveSheet.f k l0 a1 = some t_) (Con Tryz.prog 18 [.p (.c (.sl K40 l0)), .p (.c (.v (.int .i64 a1)))] (.tp [.c (.ow 40 K40 t_.1), .c (.v (.bool t_.2))])) := ⟨fun h => impl_MoveSheet.con _ _ _ (t_.1) (t_.2) h⟩
/-! ### impl_readBack: function 65 -/
def impl_readBack.l0 : Nat → List (S36) → List (S40) → Int → Int → List Int → Int → Option ((List (S36)) × Bool)
  | 0, _, _, _, _, _, _ => none
  | k + 1, x6, x12, x13, x14, x760000, x760001 => if x14 < x13 then (if 0 ≤ x14 then (if x14 < (x12.length : Int) then ((impl_noteFor.f k x760000 x760001 ((rd_T40 x12 x14).f0) ((rd_T40 x12 x14).f1) ((rd_T40 x12 x14).f2)).bind fun bt765 => (if bt765.2.2.2 = true then (if x6.length < 5864062014805 then (impl_readBack.l0 k (x6 ++ [(⟨bt765.1, bt765.2.1, bt765.2.2.1⟩ : S36)]) x12 x13 (wrap64 (x14 + 1)) x760000 x760001) else (none)) else (some (([] : List (S36)), false)))) else (none)) else (none)) else ((impl_sortedNotes.f x6).bind fun t773 => ((impl_scoreOf.f k t773).bind fun bt776 => (some (bt776.1, bt776.2))))
def impl_readBack.f (k : Nat) (l0_0 : List Int) (a0_1 : Int) (l1 : List (S40)) : Option ((List (S36)) × Bool) := impl_readBack.l0 k (([] : List (S36))) l1 (l1.length : Int) 0 l0_0 a0_1
instance impl_readBack.lp0 {k : Nat} {r : (List (S36)) × Bool} {Q : Wr → Prop} {p1 : List (S40)} {p2 : Int} {p4 : List Int} {p5 : Int} {x6_1 : List (S36)} {x14_1 : Int} : Lp (impl_readBack.l0 k x6_1 p1 p2 x14_1 p4 p5 = some r) Q (fun k => ∀ {x6_1 : List (S36)} {x14_1 : Int}, impl_readBack.l0 k x6_1 p1 p2 x14_1 p4 p5 = some r → Q [(12, .p (.c (.rp (Tryz.f65.ntmps + 6)))), (2 * (Tryz.f65.ntmps + 6) + 1, .row 36 K36 x6_1), (28, .p (.c (.v (.int .i64 x14_1))))]) k [(12, .p (.c (.rp (Tryz.f65.ntmps + 6)))), (2 * (Tryz.f65.ntmps + 6) + 1, .row 36 K36 x6_1), (28, .p (.c (.v (.int .i64 x14_1))))] := ⟨fun j h => j h⟩
set_option maxRecDepth 20000 in
set_option maxHeartbeats 2000000 in
theorem impl_readBack.con (k : Nat) (l0_0 : List Int) (a0_1 : Int) (l1 : List (S40)) (r1 : List (S36)) (r2 : Bool) (H : impl_readBack.f k l0_0 a0_1 l1 = some (r1, r2)) : Con Tryz.prog 65 [.p (.ag [.sl (.int .i64) l0_0, .v (.int .i64 a0_1)]), .p (.c (.sl K40 l1))] (.tp [.c (.ow 36 K36 r1), .c (.v (.bool r2))]) := by
  refine Con.mk' (fn := Tryz.f65) Tryz.func65 rfl (by kernel_rfl) rfl rfl rfl fun X w0 gs hF => ?_
  unfold impl_readBack.f at H
  exact auto
instance impl_readBack.ctr {k : Nat} {l0_0 : List Int} {a0_1 : Int} {l1 : List (S40)} {t_ : (List (S36)) × (Bool)} : Ctr (impl_readBack.f k l0_0 a0_1 l1 = some t_) (Con Tryz.prog 65 [.p (.ag [.sl (.int .i64) l0_0, .v (.int .i64 a0_1)]), .p (.c (.sl K40 l1))] (.tp [.c (.ow 36 K36 t_.1), .c (.v (.bool t_.2))])) := ⟨fun h => impl_readBack.con _ _ _ _ (t_.1) (t_.2) h⟩
/-! ### impl_ReadBack: function 19 -/
def impl_ReadBack.f (k : Nat) (l0_0 : List Int) (a0_1 : Int) (l1 : List (S40)) : Option ((List (S36)) × Bool) := (impl_IsInstrument.f k l0_0 a0_1).bind fun t781 => (if t781 = true then ((impl_IsSheet.f k l1).bind fun t782 => (if t782 = true then ((impl_readBack.f k l0_0 a0_1 l1).bind fun bt783 => (some (bt783.1, bt783.2))) else (some (([] : List (S36)), false)))) else (some (([] : List (S36)), false)))
set_option maxRecDepth 20000 in
set_option maxHeartbeats 2000000 in
theorem impl_ReadBack.con (k : Nat) (l0_0 : List Int) (a0_1 : Int) (l1 : List (S40)) (r1 : List (S36)) (r2 : Bool) (H : impl_ReadBack.f k l0_0 a0_1 l1 = some (r1, r2)) : Con Tryz.prog 19 [.p (.ag [.sl (.int .i64) l0_0, .v (.int .i64 a0_1)]), .p (.c (.sl K40 l1))] (.tp [.c (.ow 36 K36 r1), .c (.v (.bool r2))]) := by
  refine Con.mk' (fn := Tryz.f19) Tryz.func19 rfl (by kernel_rfl) rfl rfl rfl fun X w0 gs hF => ?_
  unfold impl_ReadBack.f at H
  exact auto
instance impl_ReadBack.ctr {k : Nat} {l0_0 : List Int} {a0_1 : Int} {l1 : List (S40)} {t_ : (List (S36)) × (Bool)} : Ctr (impl_ReadBack.f k l0_0 a0_1 l1 = some t_) (Con Tryz.prog 19 [.p (.ag [.sl (.int .i64) l0_0, .v (.int .i64 a0_1)]), .p (.c (.sl K40 l1))] (.tp [.c (.ow 36 K36 t_.1), .c (.v (.bool t_.2))])) := ⟨fun h => impl_ReadBack.con _ _ _ _ (t_.1) (t_.2) h⟩
/-! ### impl_IsLayOut: function 20 -/
def impl_IsLayOut.j0 : Nat → List (S40) → Bool → List Int → Int → Option (Bool × Bool)
  | 0, _, _, _, _ => none
  | k + 1, x1, x16, x790000, x790001 => if x16 = true then (some (false, false)) else ((impl_readBack.f k x790000 x790001 x1).bind fun bt792 => (if bt792.2 = true then ((impl_layOut.f k x790000 x790001 bt792.1).bind fun bt796 => (if bt796.2 = true then ((impl_Hole_66.f k bt796.1 x1).bind fun t800 => (some (t800, true))) else (some (false, true)))) else (some (false, true))))
def impl_IsLayOut.f (k : Nat) (l0_0 : List Int) (a0_1 : Int) (l1 : List (S40)) : Option (Bool × Bool) := (impl_IsInstrument.f k l0_0 a0_1).bind fun t790 => (if t790 = true then ((impl_IsSheet.f k l1).bind fun t791 => (impl_IsLayOut.j0 k l1 (!t791) l0_0 a0_1)) else (impl_IsLayOut.j0 k l1 true l0_0 a0_1))
set_option maxRecDepth 20000 in
set_option maxHeartbeats 2000000 in
theorem impl_IsLayOut.con (k : Nat) (l0_0 : List Int) (a0_1 : Int) (l1 : List (S40)) (r1 : Bool) (r2 : Bool) (H : impl_IsLayOut.f k l0_0 a0_1 l1 = some (r1, r2)) : Con Tryz.prog 20 [.p (.ag [.sl (.int .i64) l0_0, .v (.int .i64 a0_1)]), .p (.c (.sl K40 l1))] (.tp [.c (.v (.bool r1)), .c (.v (.bool r2))]) := by
  refine Con.mk' (fn := Tryz.f20) Tryz.func20 rfl (by kernel_rfl) rfl rfl rfl fun X w0 gs hF => ?_
  unfold impl_IsLayOut.f at H
  exact auto
instance impl_IsLayOut.ctr {k : Nat} {l0_0 : List Int} {a0_1 : Int} {l1 : List (S40)} {t_ : (Bool) × (Bool)} : Ctr (impl_IsLayOut.f k l0_0 a0_1 l1 = some t_) (Con Tryz.prog 20 [.p (.ag [.sl (.int .i64) l0_0, .v (.int .i64 a0_1)]), .p (.c (.sl K40 l1))] (.tp [.c (.v (.bool t_.1)), .c (.v (.bool t_.2))])) := ⟨fun h => impl_IsLayOut.con _ _ _ _ (t_.1) (t_.2) h⟩
/-! ### spec_laNotes: function 69 -/
def spec_laNotes.l0 : Nat → List (S36) → List (S40) → Int → Int → List Int → Int → Option ((List (S36)) × Bool)
  | 0, _, _, _, _, _, _ => none
  | k + 1, x6, x11, x12, x13, x920000, x920001 => if x13 < x12 then (if 0 ≤ x13 then (if x13 < (x11.length : Int) then ((spec_laNote.f k x920000 x920001 ((rd_T40 x11 x13).f0) ((rd_T40 x11 x13).f1) ((rd_T40 x11 x13).f2)).bind fun bt922 => (if bt922.2.2.2 = true then (if x6.length < 5864062014805 then (spec_laNotes.l0 k (x6 ++ [(⟨bt922.1, bt922.2.1, bt922.2.2.1⟩ : S36)]) x11 x12 (wrap64 (x13 + 1)) x920000 x920001) else (none)) else (some (([] : List (S36)), false)))) else (none)) else (none)) else ((spec_ntSorted.f k x6).bind fun bt930 => (some (bt930.1, bt930.2)))
def spec_laNotes.f (k : Nat) (l0_0 : List Int) (a0_1 : Int) (l1 : List (S40)) : Option ((List (S36)) × Bool) := spec_laNotes.l0 k ([] : List (S36)) l1 (l1.length : Int) 0 l0_0 a0_1
instance spec_laNotes.lp0 {k : Nat} {r : (List (S36)) × Bool} {Q : Wr → Prop} {p1 : List (S40)} {p2 : Int} {p4 : List Int} {p5 : Int} {x6_1 : List (S36)} {x13_1 : Int} : Lp (spec_laNotes.l0 k x6_1 p1 p2 x13_1 p4 p5 = some r) Q (fun k => ∀ {x6_1 : List (S36)} {x13_1 : Int}, spec_laNotes.l0 k x6_1 p1 p2 x13_1 p4 p5 = some r → Q [(12, .p (.c (.rp (Tryz.f69.ntmps + 6)))), (2 * (Tryz.f69.ntmps + 6) + 1, .row 36 K36 x6_1), (26, .p (.c (.v (.int .i64 x13_1))))]) k [(12, .p (.c (.rp (Tryz.f69.ntmps + 6)))), (2 * (Tryz.f69.ntmps + 6) + 1, .row 36 K36 x6_1), (26, .p (.c (.v (.int .i64 x13_1))))] := ⟨fun j h => j h⟩
set_option maxRecDepth 20000 in
set_option maxHeartbeats 2000000 in
theorem spec_laNotes.con (k : Nat) (l0_0 : List Int) (a0_1 : Int) (l1 : List (S40)) (r1 : List (S36)) (r2 : Bool) (H : spec_laNotes.f k l0_0 a0_1 l1 = some (r1, r2)) : Con Tryz.prog 69 [.p (.ag [.sl (.int .i64) l0_0, .v (.int .i64 a0_1)]), .p (.c (.sl K40 l1))] (.tp [.c (.ow 36 K36 r1), .c (.v (.bool r2))]) := by
  refine Con.mk' (fn := Tryz.f69) Tryz.func69 rfl (by kernel_rfl) rfl rfl rfl fun X w0 gs hF => ?_
  unfold spec_laNotes.f at H
  exact auto
instance spec_laNotes.ctr {k : Nat} {l0_0 : List Int} {a0_1 : Int} {l1 : List (S40)} {t_ : (List (S36)) × (Bool)} : Ctr (spec_laNotes.f k l0_0 a0_1 l1 = some t_) (Con Tryz.prog 69 [.p (.ag [.sl (.int .i64) l0_0, .v (.int .i64 a0_1)]), .p (.c (.sl K40 l1))] (.tp [.c (.ow 36 K36 t_.1), .c (.v (.bool t_.2))])) := ⟨fun h => spec_laNotes.con _ _ _ _ (t_.1) (t_.2) h⟩
/-! ### spec_ReadBack: function 24 -/
def spec_ReadBack.f (k : Nat) (l0_0 : List Int) (a0_1 : Int) (l1 : List (S40)) : Option ((List (S36)) × Bool) := (spec_laAsked.f k l0_0 a0_1 l1).bind fun t935 => (if t935 = true then ((spec_laNotes.f k l0_0 a0_1 l1).bind fun bt936 => (some (bt936.1, bt936.2))) else (some (([] : List (S36)), false)))
set_option maxRecDepth 20000 in
set_option maxHeartbeats 2000000 in
theorem spec_ReadBack.con (k : Nat) (l0_0 : List Int) (a0_1 : Int) (l1 : List (S40)) (r1 : List (S36)) (r2 : Bool) (H : spec_ReadBack.f k l0_0 a0_1 l1 = some (r1, r2)) : Con Tryz.prog 24 [.p (.ag [.sl (.int .i64) l0_0, .v (.int .i64 a0_1)]), .p (.c (.sl K40 l1))] (.tp [.c (.ow 36 K36 r1), .c (.v (.bool r2))]) := by
  refine Con.mk' (fn := Tryz.f24) Tryz.func24 rfl (by kernel_rfl) rfl rfl rfl fun X w0 gs hF => ?_
  unfold spec_ReadBack.f at H
  exact auto
instance spec_ReadBack.ctr {k : Nat} {l0_0 : List Int} {a0_1 : Int} {l1 : List (S40)} {t_ : (List (S36)) × (Bool)} : Ctr (spec_ReadBack.f k l0_0 a0_1 l1 = some t_) (Con Tryz.prog 24 [.p (.ag [.sl (.int .i64) l0_0, .v (.int .i64 a0_1)]), .p (.c (.sl K40 l1))] (.tp [.c (.ow 36 K36 t_.1), .c (.v (.bool t_.2))])) := ⟨fun h => spec_ReadBack.con _ _ _ _ (t_.1) (t_.2) h⟩
/-! ### spec_IsLayOut: function 25 -/
def spec_IsLayOut.f (k : Nat) (l0_0 : List Int) (a0_1 : Int) (l1 : List (S40)) : Option (Bool × Bool) := (spec_laAsked.f k l0_0 a0_1 l1).bind fun t941 => (if t941 = true then ((spec_laNotes.f k l0_0 a0_1 l1).bind fun bt942 => (if bt942.2 = true then ((spec_inPlays.f k l0_0 a0_1 bt942.1).bind fun t946 => (some (t946, true))) else (some (false, true)))) else (some (false, false)))
set_option maxRecDepth 20000 in
set_option maxHeartbeats 2000000 in
theorem spec_IsLayOut.con (k : Nat) (l0_0 : List Int) (a0_1 : Int) (l1 : List (S40)) (r1 : Bool) (r2 : Bool) (H : spec_IsLayOut.f k l0_0 a0_1 l1 = some (r1, r2)) : Con Tryz.prog 25 [.p (.ag [.sl (.int .i64) l0_0, .v (.int .i64 a0_1)]), .p (.c (.sl K40 l1))] (.tp [.c (.v (.bool r1)), .c (.v (.bool r2))]) := by
  refine Con.mk' (fn := Tryz.f25) Tryz.func25 rfl (by kernel_rfl) rfl rfl rfl fun X w0 gs hF => ?_
  unfold spec_IsLayOut.f at H
  exact auto
instance spec_IsLayOut.ctr {k : Nat} {l0_0 : List Int} {a0_1 : Int} {l1 : List (S40)} {t_ : (Bool) × (Bool)} : Ctr (spec_IsLayOut.f k l0_0 a0_1 l1 = some t_) (Con Tryz.prog 25 [.p (.ag [.sl (.int .i64) l0_0, .v (.int .i64 a0_1)]), .p (.c (.sl K40 l1))] (.tp [.c (.v (.bool t_.1)), .c (.v (.bool t_.2))])) := ⟨fun h => spec_IsLayOut.con _ _ _ _ (t_.1) (t_.2) h⟩
end Go.Proofs.YtgjpphcbdbfhlaaGreat.L
