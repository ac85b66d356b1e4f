/- BY EV: what the Go functions compute (read off the print), and that their calls come to it. No condition. -/
import Derived.Test.YtgjpphcbdbfhlaaGreatLEU
import Derived.Test.YtgjpphcbdbfhlaaGreatL2
import Derived.Test.YtgjpphcbdbfhlaaGreatL3
import Derived.Test.YtgjpphcbdbfhlaaGreatL4
import Derived.Test.YtgjpphcbdbfhlaaGreatL5
set_option linter.unusedVariables false
set_option linter.unusedSimpArgs false
namespace Go.Proofs.YtgjpphcbdbfhlaaGreat.L
open Go.RowKit Go.Proofs Go.Proofs.YtgjpphcbdbfhlaaGreatW.PrintWords Go.Proofs.YtgjpphcbdbfhlaaGreatW.PrintLast EV
/-! ### spec_inFast: function 101 -/
def spec_inFast.l0 : Nat → List (S36) → Int → List (List Int) → List (S36) → Int → Int → Option ((List (List Int)))
  | 0, _, _, _, _, _, _ => none
  | k + 1, x0, x1, x5, x9, x10, x11 => if x11 < x10 then (if 0 ≤ x11 then (if x11 < (x9.length : Int) then ((spec_inLast.f k x0 x11).bind fun t482 => (if t482 ≥ 0 then (if 0 ≤ t482 then (if t482 < (x0.length : Int) then (if (wrap64 (((rd_T36 x9 x11).f1) - ((rd_T36 x0 t482).f1))) < x1 then (if x5.length < 5864062014805 then (spec_inFast.l0 k x0 x1 (x5 ++ [(([t482, x11] : List Int))]) x9 x10 (wrap64 (x11 + 1))) else (none)) else (spec_inFast.l0 k x0 x1 x5 x9 x10 (wrap64 (x11 + 1)))) else (none)) else (none)) else (spec_inFast.l0 k x0 x1 x5 x9 x10 (wrap64 (x11 + 1))))) else (none)) else (none)) else (some x5)
def spec_inFast.f (k : Nat) (l0 : List (S36)) (a1 : Int) : Option ((List (List Int))) := spec_inFast.l0 k l0 a1 ([] : List (List Int)) l0 (l0.length : Int) 0
instance spec_inFast.lp0 {k : Nat} {r : (List (List Int))} {Q : Wr → Prop} {p0 : List (S36)} {p1 : Int} {p3 : List (S36)} {p4 : Int} {x5_1 : List (List Int)} {x11_1 : Int} : Lp (spec_inFast.l0 k p0 p1 x5_1 p3 p4 x11_1 = some r) Q (fun k => ∀ {x5_1 : List (List Int)} {x11_1 : Int}, spec_inFast.l0 k p0 p1 x5_1 p3 p4 x11_1 = some r → Q [(10, .p (.c (.rp (Tryz.f101.ntmps + 5)))), (2 * (Tryz.f101.ntmps + 5) + 1, .row 23 KL3 x5_1), (22, .p (.c (.v (.int .i64 x11_1))))]) k [(10, .p (.c (.rp (Tryz.f101.ntmps + 5)))), (2 * (Tryz.f101.ntmps + 5) + 1, .row 23 KL3 x5_1), (22, .p (.c (.v (.int .i64 x11_1))))] := ⟨fun j h => j h⟩
set_option maxRecDepth 20000 in
set_option maxHeartbeats 2000000 in
theorem spec_inFast.con (k : Nat) (l0 : List (S36)) (a1 : Int) (r : List (List Int)) (H : spec_inFast.f k l0 a1 = some r) : Con Tryz.prog 101 [.p (.c (.sl K36 l0)), .p (.c (.v (.int .i64 a1)))] (.p (.c (.ow 23 KL3 r))) := by
  refine Con.mk' (fn := Tryz.f101) Tryz.func101 rfl (by kernel_rfl) rfl rfl rfl fun X w0 gs hF => ?_
  unfold spec_inFast.f at H
  exact auto
instance spec_inFast.ctr {k : Nat} {l0 : List (S36)} {a1 : Int} {r : List (List Int)} : Ctr (spec_inFast.f k l0 a1 = some r) (Con Tryz.prog 101 [.p (.c (.sl K36 l0)), .p (.c (.v (.int .i64 a1)))] (.p (.c (.ow 23 KL3 r)))) := ⟨spec_inFast.con _ _ _ _⟩
/-! ### spec_inPlays: function 70 -/
def spec_inPlays.f (k : Nat) (l0_0 : List Int) (a0_1 : Int) (l1 : List (S36)) : Option (Bool) := (spec_inMissing.f k l0_0 a0_1 l1).bind fun t491 => (if (t491.length : Int) = 0 then ((spec_inFast.f k l1 a0_1).bind fun t494 => (some ((t494.length : Int) == 0))) else (some false))
set_option maxRecDepth 20000 in
set_option maxHeartbeats 2000000 in
theorem spec_inPlays.con (k : Nat) (l0_0 : List Int) (a0_1 : Int) (l1 : List (S36)) (r : Bool) (H : spec_inPlays.f k l0_0 a0_1 l1 = some r) : Con Tryz.prog 70 [.p (.ag [.sl (.int .i64) l0_0, .v (.int .i64 a0_1)]), .p (.c (.sl K36 l1))] (.p (.c (.v (.bool r)))) := by
  refine Con.mk' (fn := Tryz.f70) Tryz.func70 rfl (by kernel_rfl) rfl rfl rfl fun X w0 gs hF => ?_
  unfold spec_inPlays.f at H
  exact auto
instance spec_inPlays.ctr {k : Nat} {l0_0 : List Int} {a0_1 : Int} {l1 : List (S36)} {r : Bool} : Ctr (spec_inPlays.f k l0_0 a0_1 l1 = some r) (Con Tryz.prog 70 [.p (.ag [.sl (.int .i64) l0_0, .v (.int .i64 a0_1)]), .p (.c (.sl K36 l1))] (.p (.c (.v (.bool r))))) := ⟨spec_inPlays.con _ _ _ _ _⟩
/-! ### spec_l1Most: function 49 -/
def spec_l1Most.f (a0 : Int) (a1 : Int) : Option (Int) := if a0 > a1 then (some a0) else (some a1)
set_option maxRecDepth 20000 in
set_option maxHeartbeats 2000000 in
theorem spec_l1Most.con (a0 : Int) (a1 : Int) (r : Int) (H : spec_l1Most.f a0 a1 = some r) : Con Tryz.prog 49 [.p (.c (.v (.int .i64 a0))), .p (.c (.v (.int .i64 a1)))] (.p (.c (.v (.int .i64 r)))) := by
  refine Con.mk' (fn := Tryz.f49) Tryz.func49 rfl (by kernel_rfl) rfl rfl rfl fun X w0 gs hF => ?_
  unfold spec_l1Most.f at H
  exact auto
instance spec_l1Most.ctr {a0 : Int} {a1 : Int} {r : Int} : Ctr (spec_l1Most.f a0 a1 = some r) (Con Tryz.prog 49 [.p (.c (.v (.int .i64 a0))), .p (.c (.v (.int .i64 a1)))] (.p (.c (.v (.int .i64 r))))) := ⟨spec_l1Most.con _ _ _⟩
/-! ### spec_ntEnd: function 50 -/
def spec_ntEnd.l0 : Nat → Int → List (S36) → Int → Int → Option (Int)
  | 0, _, _, _, _ => none
  | k + 1, x3, x6, x7, x8 => if x8 < x7 then (if 0 ≤ x8 then (if x8 < (x6.length : Int) then ((spec_l1Most.f x3 (wrap64 (((rd_T36 x6 x8).f1) + ((rd_T36 x6 x8).f2)))).bind fun t521 => (spec_ntEnd.l0 k t521 x6 x7 (wrap64 (x8 + 1)))) else (none)) else (none)) else (some x3)
def spec_ntEnd.f (k : Nat) (l0 : List (S36)) : Option (Int) := spec_ntEnd.l0 k 0 l0 (l0.length : Int) 0
instance spec_ntEnd.lp0 {k : Nat} {r : Int} {Q : Wr → Prop} {p1 : List (S36)} {p2 : Int} {x3_1 : Int} {x8_1 : Int} : Lp (spec_ntEnd.l0 k x3_1 p1 p2 x8_1 = some r) Q (fun k => ∀ {x3_1 : Int} {x8_1 : Int}, spec_ntEnd.l0 k x3_1 p1 p2 x8_1 = some r → Q [(6, .p (.c (.v (.int .i64 x3_1)))), (16, .p (.c (.v (.int .i64 x8_1))))]) k [(6, .p (.c (.v (.int .i64 x3_1)))), (16, .p (.c (.v (.int .i64 x8_1))))] := ⟨fun j h => j h⟩
set_option maxRecDepth 20000 in
set_option maxHeartbeats 2000000 in
theorem spec_ntEnd.con (k : Nat) (l0 : List (S36)) (r : Int) (H : spec_ntEnd.f k l0 = some r) : Con Tryz.prog 50 [.p (.c (.sl K36 l0))] (.p (.c (.v (.int .i64 r)))) := by
  refine Con.mk' (fn := Tryz.f50) Tryz.func50 rfl (by kernel_rfl) rfl rfl rfl fun X w0 gs hF => ?_
  unfold spec_ntEnd.f at H
  exact auto
instance spec_ntEnd.ctr {k : Nat} {l0 : List (S36)} {r : Int} : Ctr (spec_ntEnd.f k l0 = some r) (Con Tryz.prog 50 [.p (.c (.sl K36 l0))] (.p (.c (.v (.int .i64 r))))) := ⟨spec_ntEnd.con _ _ _⟩
/-! ### spec_l1Cur_anyNote: function 54 -/
def spec_l1Cur_anyNote.f (s0_0 : List Int) (s0_1 : Int) (s0_2 : Int) : Option (Int × Int × Int × Int × Int) := (spec_l1Cur_note.f s0_0 s0_1 s0_2).bind fun bt552 => ((spec_l1Cur_pick.f s0_0 bt552.2.2.2.1 bt552.2.2.2.2 24).bind fun bt558 => (if bt558.1 = 0 then ((spec_l1Cur_among.f s0_0 bt558.2.1 bt558.2.2 (([23, 97] : List Int))).bind fun bt564 => (some (bt564.1, bt552.2.1, bt552.2.2.1, bt564.2.1, bt564.2.2))) else (if bt558.1 = 1 then ((spec_l1Cur_among.f s0_0 bt558.2.1 bt558.2.2 (([(-1), 1000] : List Int))).bind fun bt570 => (some (bt552.1, bt570.1, bt552.2.2.1, bt570.2.1, bt570.2.2))) else (if bt558.1 = 2 then ((spec_l1Cur_among.f s0_0 bt558.2.1 bt558.2.2 (([0, 100] : List Int))).bind fun bt576 => (some (bt552.1, bt552.2.1, bt576.1, bt576.2.1, bt576.2.2))) else (some (bt552.1, bt552.2.1, bt552.2.2.1, bt558.2.1, bt558.2.2))))))
set_option maxRecDepth 20000 in
set_option maxHeartbeats 2000000 in
theorem spec_l1Cur_anyNote.con (s0_0 : List Int) (s0_1 : Int) (s0_2 : Int) (r1 : Int) (r2 : Int) (r3 : Int) (r4 : Int) (r5 : Int) (H : spec_l1Cur_anyNote.f s0_0 s0_1 s0_2 = some (r1, r2, r3, r4, r5)) : Con Tryz.prog 54 [.p (.ob 70 [.sl (.int .u8) s0_0, .v (.int .i64 s0_1), .v (.int .u64 s0_2)])] (.p (.ag [.v (.int .i64 r1), .v (.int .i64 r2), .v (.int .i64 r3)])) [(0, .ob 70 [.sl (.int .u8) s0_0, .v (.int .i64 r4), .v (.int .u64 r5)])] := by
  refine Con.mk' (fn := Tryz.f54) Tryz.func54 rfl (by kernel_rfl) rfl rfl rfl fun X w0 gs hF => ?_
  unfold spec_l1Cur_anyNote.f at H
  exact auto
instance spec_l1Cur_anyNote.ctr {s0_0 : List Int} {s0_1 : Int} {s0_2 : Int} {t_ : (Int) × (Int) × (Int) × (Int) × (Int)} : Ctr (spec_l1Cur_anyNote.f s0_0 s0_1 s0_2 = some t_) (Con Tryz.prog 54 [.p (.ob 70 [.sl (.int .u8) s0_0, .v (.int .i64 s0_1), .v (.int .u64 s0_2)])] (.p (.ag [.v (.int .i64 t_.1), .v (.int .i64 t_.2.1), .v (.int .i64 t_.2.2.1)])) [(0, .ob 70 [.sl (.int .u8) s0_0, .v (.int .i64 t_.2.2.2.1), .v (.int .u64 t_.2.2.2.2)])]) := ⟨fun h => spec_l1Cur_anyNote.con _ _ _ (t_.1) (t_.2.1) (t_.2.2.1) (t_.2.2.2.1) (t_.2.2.2.2) h⟩
/-! ### impl_HoleFor: function 12 -/
def impl_HoleFor.f (k : Nat) (l0_0 : List Int) (a0_1 : Int) (a1_0 : Int) (a1_1 : Int) (a1_2 : Int) : Option (Int × Int × Int × Bool) := (impl_IsInstrument.f k l0_0 a0_1).bind fun t582 => (if t582 = true then ((impl_IsNote.f a1_0 a1_1 a1_2).bind fun t583 => (if t583 = true then ((impl_holeFor.f k l0_0 a0_1 a1_0 a1_1 a1_2).bind fun bt584 => (some (bt584.1, bt584.2.1, bt584.2.2.1, bt584.2.2.2))) else (some (0, 0, 0, false)))) else (some (0, 0, 0, false)))
set_option maxRecDepth 20000 in
set_option maxHeartbeats 2000000 in
theorem impl_HoleFor.con (k : Nat) (l0_0 : List Int) (a0_1 : Int) (a1_0 : Int) (a1_1 : Int) (a1_2 : Int) (r1 : Int) (r2 : Int) (r3 : Int) (r4 : Bool) (H : impl_HoleFor.f k l0_0 a0_1 a1_0 a1_1 a1_2 = some (r1, r2, r3, r4)) : Con Tryz.prog 12 [.p (.ag [.sl (.int .i64) l0_0, .v (.int .i64 a0_1)]), .p (.ag [.v (.int .i64 a1_0), .v (.int .i64 a1_1), .v (.int .i64 a1_2)])] (.tp [.ag [.v (.int .i64 r1), .v (.int .i64 r2), .v (.int .i64 r3)], .c (.v (.bool r4))]) := by
  refine Con.mk' (fn := Tryz.f12) Tryz.func12 rfl (by kernel_rfl) rfl rfl rfl fun X w0 gs hF => ?_
  unfold impl_HoleFor.f at H
  exact auto
instance impl_HoleFor.ctr {k : Nat} {l0_0 : List Int} {a0_1 : Int} {a1_0 : Int} {a1_1 : Int} {a1_2 : Int} {t_ : (Int) × (Int) × (Int) × (Bool)} : Ctr (impl_HoleFor.f k l0_0 a0_1 a1_0 a1_1 a1_2 = some t_) (Con Tryz.prog 12 [.p (.ag [.sl (.int .i64) l0_0, .v (.int .i64 a0_1)]), .p (.ag [.v (.int .i64 a1_0), .v (.int .i64 a1_1), .v (.int .i64 a1_2)])] (.tp [.ag [.v (.int .i64 t_.1), .v (.int .i64 t_.2.1), .v (.int .i64 t_.2.2.1)], .c (.v (.bool t_.2.2.2))])) := ⟨fun h => impl_HoleFor.con _ _ _ _ _ _ (t_.1) (t_.2.1) (t_.2.2.1) (t_.2.2.2) h⟩
/-! ### spec_HoleFor: function 13 -/
def spec_HoleFor.f (k : Nat) (l0_0 : List Int) (a0_1 : Int) (a1_0 : Int) (a1_1 : Int) (a1_2 : Int) : Option (Int × Int × Int × Bool) := (spec_inGood.f k l0_0 a0_1).bind fun t591 => (if t591 = true then ((spec_ntNote.f a1_0 a1_1 a1_2).bind fun t592 => (if t592 = true then ((spec_laHole.f k l0_0 a0_1 a1_0 a1_1 a1_2).bind fun bt593 => (some (bt593.1, bt593.2.1, bt593.2.2.1, bt593.2.2.2))) else (some (0, 0, 0, false)))) else (some (0, 0, 0, false)))
set_option maxRecDepth 20000 in
set_option maxHeartbeats 2000000 in
theorem spec_HoleFor.con (k : Nat) (l0_0 : List Int) (a0_1 : Int) (a1_0 : Int) (a1_1 : Int) (a1_2 : Int) (r1 : Int) (r2 : Int) (r3 : Int) (r4 : Bool) (H : spec_HoleFor.f k l0_0 a0_1 a1_0 a1_1 a1_2 = some (r1, r2, r3, r4)) : Con Tryz.prog 13 [.p (.ag [.sl (.int .i64) l0_0, .v (.int .i64 a0_1)]), .p (.ag [.v (.int .i64 a1_0), .v (.int .i64 a1_1), .v (.int .i64 a1_2)])] (.tp [.ag [.v (.int .i64 r1), .v (.int .i64 r2), .v (.int .i64 r3)], .c (.v (.bool r4))]) := by
  refine Con.mk' (fn := Tryz.f13) Tryz.func13 rfl (by kernel_rfl) rfl rfl rfl fun X w0 gs hF => ?_
  unfold spec_HoleFor.f at H
  exact auto
instance spec_HoleFor.ctr {k : Nat} {l0_0 : List Int} {a0_1 : Int} {a1_0 : Int} {a1_1 : Int} {a1_2 : Int} {t_ : (Int) × (Int) × (Int) × (Bool)} : Ctr (spec_HoleFor.f k l0_0 a0_1 a1_0 a1_1 a1_2 = some t_) (Con Tryz.prog 13 [.p (.ag [.sl (.int .i64) l0_0, .v (.int .i64 a0_1)]), .p (.ag [.v (.int .i64 a1_0), .v (.int .i64 a1_1), .v (.int .i64 a1_2)])] (.tp [.ag [.v (.int .i64 t_.1), .v (.int .i64 t_.2.1), .v (.int .i64 t_.2.2.1)], .c (.v (.bool t_.2.2.2))])) := ⟨fun h => spec_HoleFor.con _ _ _ _ _ _ (t_.1) (t_.2.1) (t_.2.2.1) (t_.2.2.2) h⟩
/-! ### spec_l1Cur_hole: function 111 -/
def spec_l1Cur_hole.f (s0_0 : List Int) (s0_1 : Int) (s0_2 : Int) : Option (Int × Int × Int × Int × Int) := (spec_l1Cur_pick.f s0_0 s0_1 s0_2 40).bind fun bt615 => ((spec_l1Cur_pick.f s0_0 bt615.2.1 bt615.2.2 60).bind fun bt618 => ((spec_l1Cur_among.f s0_0 bt618.2.1 bt618.2.2 (([0, 2, 5, bt615.1, bt618.1, 1990] : List Int))).bind fun bt624 => ((spec_l1Cur_pick.f s0_0 bt624.2.1 bt624.2.2 20).bind fun bt627 => ((spec_l1Cur_among.f s0_0 bt627.2.1 bt627.2.2 (([0, 1, 2, 3, 5, bt627.1] : List Int))).bind fun bt633 => ((spec_l1Cur_among.f s0_0 bt633.2.1 bt633.2.2 (([1, 2, 3, 4, 10] : List Int))).bind fun bt639 => (some (bt633.1, bt624.1, wrap64 (bt624.1 + bt639.1), bt639.2.1, bt639.2.2)))))))
set_option maxRecDepth 20000 in
set_option maxHeartbeats 2000000 in
theorem spec_l1Cur_hole.con (s0_0 : List Int) (s0_1 : Int) (s0_2 : Int) (r1 : Int) (r2 : Int) (r3 : Int) (r4 : Int) (r5 : Int) (H : spec_l1Cur_hole.f s0_0 s0_1 s0_2 = some (r1, r2, r3, r4, r5)) : Con Tryz.prog 111 [.p (.ob 70 [.sl (.int .u8) s0_0, .v (.int .i64 s0_1), .v (.int .u64 s0_2)])] (.p (.ag [.v (.int .i64 r1), .v (.int .i64 r2), .v (.int .i64 r3)])) [(0, .ob 70 [.sl (.int .u8) s0_0, .v (.int .i64 r4), .v (.int .u64 r5)])] := by
  refine Con.mk' (fn := Tryz.f111) Tryz.func111 rfl (by kernel_rfl) rfl rfl rfl fun X w0 gs hF => ?_
  unfold spec_l1Cur_hole.f at H
  exact auto
instance spec_l1Cur_hole.ctr {s0_0 : List Int} {s0_1 : Int} {s0_2 : Int} {t_ : (Int) × (Int) × (Int) × (Int) × (Int)} : Ctr (spec_l1Cur_hole.f s0_0 s0_1 s0_2 = some t_) (Con Tryz.prog 111 [.p (.ob 70 [.sl (.int .u8) s0_0, .v (.int .i64 s0_1), .v (.int .u64 s0_2)])] (.p (.ag [.v (.int .i64 t_.1), .v (.int .i64 t_.2.1), .v (.int .i64 t_.2.2.1)])) [(0, .ob 70 [.sl (.int .u8) s0_0, .v (.int .i64 t_.2.2.2.1), .v (.int .u64 t_.2.2.2.2)])]) := ⟨fun h => spec_l1Cur_hole.con _ _ _ (t_.1) (t_.2.1) (t_.2.2.1) (t_.2.2.2.1) (t_.2.2.2.2) h⟩
/-! ### spec_l1Cur_anyHole: function 105 -/
def spec_l1Cur_anyHole.f (s0_0 : List Int) (s0_1 : Int) (s0_2 : Int) : Option (Int × Int × Int × Int × Int) := (spec_l1Cur_hole.f s0_0 s0_1 s0_2).bind fun bt664 => ((spec_l1Cur_pick.f s0_0 bt664.2.2.2.1 bt664.2.2.2.2 24).bind fun bt670 => (if bt670.1 = 0 then ((spec_l1Cur_among.f s0_0 bt670.2.1 bt670.2.2 (([(-1), 19, 20] : List Int))).bind fun bt676 => (some (bt676.1, bt664.2.1, bt664.2.2.1, bt676.2.1, bt676.2.2))) else (if bt670.1 = 1 then ((spec_l1Cur_among.f s0_0 bt670.2.1 bt670.2.2 (([(-1), bt664.2.2.1] : List Int))).bind fun bt682 => (some (bt664.1, bt682.1, bt664.2.2.1, bt682.2.1, bt682.2.2))) else (if bt670.1 = 2 then ((spec_l1Cur_among.f s0_0 bt670.2.1 bt670.2.2 (([bt664.2.1, 2000, 2001] : List Int))).bind fun bt688 => (some (bt664.1, bt664.2.1, bt688.1, bt688.2.1, bt688.2.2))) else (some (bt664.1, bt664.2.1, bt664.2.2.1, bt670.2.1, bt670.2.2))))))
set_option maxRecDepth 20000 in
set_option maxHeartbeats 2000000 in
theorem spec_l1Cur_anyHole.con (s0_0 : List Int) (s0_1 : Int) (s0_2 : Int) (r1 : Int) (r2 : Int) (r3 : Int) (r4 : Int) (r5 : Int) (H : spec_l1Cur_anyHole.f s0_0 s0_1 s0_2 = some (r1, r2, r3, r4, r5)) : Con Tryz.prog 105 [.p (.ob 70 [.sl (.int .u8) s0_0, .v (.int .i64 s0_1), .v (.int .u64 s0_2)])] (.p (.ag [.v (.int .i64 r1), .v (.int .i64 r2), .v (.int .i64 r3)])) [(0, .ob 70 [.sl (.int .u8) s0_0, .v (.int .i64 r4), .v (.int .u64 r5)])] := by
  refine Con.mk' (fn := Tryz.f105) Tryz.func105 rfl (by kernel_rfl) rfl rfl rfl fun X w0 gs hF => ?_
  unfold spec_l1Cur_anyHole.f at H
  exact auto
instance spec_l1Cur_anyHole.ctr {s0_0 : List Int} {s0_1 : Int} {s0_2 : Int} {t_ : (Int) × (Int) × (Int) × (Int) × (Int)} : Ctr (spec_l1Cur_anyHole.f s0_0 s0_1 s0_2 = some t_) (Con Tryz.prog 105 [.p (.ob 70 [.sl (.int .u8) s0_0, .v (.int .i64 s0_1), .v (.int .u64 s0_2)])] (.p (.ag [.v (.int .i64 t_.1), .v (.int .i64 t_.2.1), .v (.int .i64 t_.2.2.1)])) [(0, .ob 70 [.sl (.int .u8) s0_0, .v (.int .i64 t_.2.2.2.1), .v (.int .u64 t_.2.2.2.2)])]) := ⟨fun h => spec_l1Cur_anyHole.con _ _ _ (t_.1) (t_.2.1) (t_.2.2.1) (t_.2.2.2.1) (t_.2.2.2.2) h⟩
/-! ### impl_noteFor: function 62 -/
def impl_noteFor.j0 : Nat → Bool → List Int → Int → Int → Int → Int → Option (Int × Int × Int × Bool)
  | 0, _, _, _, _, _, _ => none
  | k + 1, x24, x722000, x722001, x723000, x723001, x723002 => if x24 = true then (some (0, 0, 0, false)) else (if 0 ≤ x723000 then (if x723000 < (x722000.length : Int) then ((impl_IsNote.f (rd x722000 x723000) (wrap64 (Int.tdiv x723001 2)) (wrap64 ((wrap64 (Int.tdiv (wrap64 (x723002 + 1)) 2)) - (wrap64 (Int.tdiv x723001 2))))).bind fun t726 => (if t726 = true then (some (rd x722000 x723000, wrap64 (Int.tdiv x723001 2), wrap64 ((wrap64 (Int.tdiv (wrap64 (x723002 + 1)) 2)) - (wrap64 (Int.tdiv x723001 2))), true)) else (some (0, 0, 0, false)))) else (none)) else (none))
def impl_noteFor.f (k : Nat) (l0_0 : List Int) (a0_1 : Int) (a1_0 : Int) (a1_1 : Int) (a1_2 : Int) : Option (Int × Int × Int × Bool) := if a1_0 ≥ (l0_0.length : Int) then (impl_noteFor.j0 k true l0_0 a0_1 a1_0 a1_1 a1_2) else (if (Int.tmod a1_1 2) = 0 then (impl_noteFor.j0 k ((Int.tmod a1_2 2) != 1) l0_0 a0_1 a1_0 a1_1 a1_2) else (impl_noteFor.j0 k true l0_0 a0_1 a1_0 a1_1 a1_2))
set_option maxRecDepth 20000 in
set_option maxHeartbeats 2000000 in
theorem impl_noteFor.con (k : Nat) (l0_0 : List Int) (a0_1 : Int) (a1_0 : Int) (a1_1 : Int) (a1_2 : Int) (r1 : Int) (r2 : Int) (r3 : Int) (r4 : Bool) (H : impl_noteFor.f k l0_0 a0_1 a1_0 a1_1 a1_2 = some (r1, r2, r3, r4)) : Con Tryz.prog 62 [.p (.ag [.sl (.int .i64) l0_0, .v (.int .i64 a0_1)]), .p (.ag [.v (.int .i64 a1_0), .v (.int .i64 a1_1), .v (.int .i64 a1_2)])] (.tp [.ag [.v (.int .i64 r1), .v (.int .i64 r2), .v (.int .i64 r3)], .c (.v (.bool r4))]) := by
  refine Con.mk' (fn := Tryz.f62) Tryz.func62 rfl (by kernel_rfl) rfl rfl rfl fun X w0 gs hF => ?_
  unfold impl_noteFor.f at H
  exact auto
instance impl_noteFor.ctr {k : Nat} {l0_0 : List Int} {a0_1 : Int} {a1_0 : Int} {a1_1 : Int} {a1_2 : Int} {t_ : (Int) × (Int) × (Int) × (Bool)} : Ctr (impl_noteFor.f k l0_0 a0_1 a1_0 a1_1 a1_2 = some t_) (Con Tryz.prog 62 [.p (.ag [.sl (.int .i64) l0_0, .v (.int .i64 a0_1)]), .p (.ag [.v (.int .i64 a1_0), .v (.int .i64 a1_1), .v (.int .i64 a1_2)])] (.tp [.ag [.v (.int .i64 t_.1), .v (.int .i64 t_.2.1), .v (.int .i64 t_.2.2.1)], .c (.v (.bool t_.2.2.2))])) := ⟨fun h => impl_noteFor.con _ _ _ _ _ _ (t_.1) (t_.2.1) (t_.2.2.1) (t_.2.2.2) h⟩
end Go.Proofs.YtgjpphcbdbfhlaaGreat.L
