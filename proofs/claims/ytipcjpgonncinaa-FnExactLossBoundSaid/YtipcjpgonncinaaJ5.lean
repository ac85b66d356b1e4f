/- BY EV: what the Go functions compute (read off the print), and that their calls come to it. No condition. -/
import Derived.Test.YtipcjpgonncinaaJEU
import Derived.Test.YtipcjpgonncinaaJ1
import Derived.Test.YtipcjpgonncinaaJ2
import Derived.Test.YtipcjpgonncinaaJ3
import Derived.Test.YtipcjpgonncinaaJ4
set_option linter.unusedVariables false
set_option linter.unusedSimpArgs false
namespace Go.Proofs.Ytipcjpgonncinaa.J
open Go.RowKit Go.Proofs Go.Proofs.YtipcjpgonncinaaW.PrintWords Go.Proofs.YtipcjpgonncinaaW.PrintLast EV
/-! ### spec_inFast: function 45 -/
def spec_inFast.l0 : Nat → List (S51) → Int → List (List Int) → List (S51) → Int → Int → Option ((List (List Int)))
  | 0, _, _, _, _, _, _ => none
  | k + 1, x0, x1, x5, x9, x10, x11 => if x11 < x10 then (if 0 ≤ x11 then (if x11 < (x9.length : Int) then ((spec_inLast.f k x0 x11).bind fun t315 => (if t315 ≥ 0 then (if 0 ≤ t315 then (if t315 < (x0.length : Int) then (if (wrap64 (((rd_T51 x9 x11).f1) - ((rd_T51 x0 t315).f1))) < x1 then (if x5.length < 5864062014805 then (spec_inFast.l0 k x0 x1 (x5 ++ [(([t315, x11] : List Int))]) x9 x10 (wrap64 (x11 + 1))) else (none)) else (spec_inFast.l0 k x0 x1 x5 x9 x10 (wrap64 (x11 + 1)))) else (none)) else (none)) else (spec_inFast.l0 k x0 x1 x5 x9 x10 (wrap64 (x11 + 1))))) else (none)) else (none)) else (some x5)
def spec_inFast.f (k : Nat) (l0 : List (S51)) (a1 : Int) : Option ((List (List Int))) := spec_inFast.l0 k l0 a1 ([] : List (List Int)) l0 (l0.length : Int) 0
instance spec_inFast.lp0 {k : Nat} {r : (List (List Int))} {Q : Wr → Prop} {p0 : List (S51)} {p1 : Int} {p3 : List (S51)} {p4 : Int} {x5_1 : List (List Int)} {x11_1 : Int} : Lp (spec_inFast.l0 k p0 p1 x5_1 p3 p4 x11_1 = some r) Q (fun k => ∀ {x5_1 : List (List Int)} {x11_1 : Int}, spec_inFast.l0 k p0 p1 x5_1 p3 p4 x11_1 = some r → Q [(10, .p (.c (.rp (Try.f45.ntmps + 5)))), (2 * (Try.f45.ntmps + 5) + 1, .row 22 KL3 x5_1), (22, .p (.c (.v (.int .i64 x11_1))))]) k [(10, .p (.c (.rp (Try.f45.ntmps + 5)))), (2 * (Try.f45.ntmps + 5) + 1, .row 22 KL3 x5_1), (22, .p (.c (.v (.int .i64 x11_1))))] := ⟨fun j h => j h⟩
set_option maxRecDepth 8000 in
set_option maxHeartbeats 2000000 in
theorem spec_inFast.con (k : Nat) (l0 : List (S51)) (a1 : Int) (r : List (List Int)) (H : spec_inFast.f k l0 a1 = some r) : Con Try.prog 45 [.p (.c (.sl K51 l0)), .p (.c (.v (.int .i64 a1)))] (.p (.c (.ow 22 KL3 r))) := by
  refine Con.mk' (fn := Try.f45) Try.func45 rfl (by kernel_rfl) rfl rfl rfl fun X w0 gs hF => ?_
  unfold spec_inFast.f at H
  exact auto
instance spec_inFast.ctr {k : Nat} {l0 : List (S51)} {a1 : Int} {r : List (List Int)} : Ctr (spec_inFast.f k l0 a1 = some r) (Con Try.prog 45 [.p (.c (.sl K51 l0)), .p (.c (.v (.int .i64 a1)))] (.p (.c (.ow 22 KL3 r)))) := ⟨spec_inFast.con _ _ _ _⟩
/-! ### spec_l1Has: function 46 -/
def spec_l1Has.l0 : Nat → Int → List Int → Int → Int → Option (Bool)
  | 0, _, _, _, _ => none
  | k + 1, x1, x7, x8, x9 => if x9 < x8 then (if 0 ≤ x9 then (if x9 < (x7.length : Int) then (if (rd x7 x9) = x1 then (some true) else (spec_l1Has.l0 k x1 x7 x8 (wrap64 (x9 + 1)))) else (none)) else (none)) else (some false)
def spec_l1Has.f (k : Nat) (l0 : List Int) (a1 : Int) : Option (Bool) := spec_l1Has.l0 k a1 l0 (l0.length : Int) 0
instance spec_l1Has.lp0 {k : Nat} {r : Bool} {Q : Wr → Prop} {p0 : Int} {p1 : List Int} {p2 : Int} {x9_1 : Int} : Lp (spec_l1Has.l0 k p0 p1 p2 x9_1 = some r) Q (fun k => ∀ {x9_1 : Int}, spec_l1Has.l0 k p0 p1 p2 x9_1 = some r → Q [(18, .p (.c (.v (.int .i64 x9_1))))]) k [(18, .p (.c (.v (.int .i64 x9_1))))] := ⟨fun j h => j h⟩
set_option maxRecDepth 8000 in
set_option maxHeartbeats 2000000 in
theorem spec_l1Has.con (k : Nat) (l0 : List Int) (a1 : Int) (r : Bool) (H : spec_l1Has.f k l0 a1 = some r) : Con Try.prog 46 [.p (.c (.sl (.int .i64) l0)), .p (.c (.v (.int .i64 a1)))] (.p (.c (.v (.bool r)))) := by
  refine Con.mk' (fn := Try.f46) Try.func46 rfl (by kernel_rfl) rfl rfl rfl fun X w0 gs hF => ?_
  unfold spec_l1Has.f at H
  exact auto
instance spec_l1Has.ctr {k : Nat} {l0 : List Int} {a1 : Int} {r : Bool} : Ctr (spec_l1Has.f k l0 a1 = some r) (Con Try.prog 46 [.p (.c (.sl (.int .i64) l0)), .p (.c (.v (.int .i64 a1)))] (.p (.c (.v (.bool r))))) := ⟨spec_l1Has.con _ _ _ _⟩
/-! ### spec_l1Least: function 47 -/
def spec_l1Least.f (a0 : Int) (a1 : Int) : Option (Int) := if a0 < a1 then (some a0) else (some a1)
set_option maxRecDepth 8000 in
set_option maxHeartbeats 2000000 in
theorem spec_l1Least.con (a0 : Int) (a1 : Int) (r : Int) (H : spec_l1Least.f a0 a1 = some r) : Con Try.prog 47 [.p (.c (.v (.int .i64 a0))), .p (.c (.v (.int .i64 a1)))] (.p (.c (.v (.int .i64 r)))) := by
  refine Con.mk' (fn := Try.f47) Try.func47 rfl (by kernel_rfl) rfl rfl rfl fun X w0 gs hF => ?_
  unfold spec_l1Least.f at H
  exact auto
instance spec_l1Least.ctr {a0 : Int} {a1 : Int} {r : Int} : Ctr (spec_l1Least.f a0 a1 = some r) (Con Try.prog 47 [.p (.c (.v (.int .i64 a0))), .p (.c (.v (.int .i64 a1)))] (.p (.c (.v (.int .i64 r))))) := ⟨spec_l1Least.con _ _ _⟩
/-! ### spec_LossBound: function 19 -/
mutual
def spec_LossBound.l0 : Nat → List (S51) → Int → List (S51) → Int → Int → List Int → Int → Option (Int × Bool)
  | 0, _, _, _, _, _, _, _ => none
  | k + 1, x1, x8, x21, x22, x23, x325000, x325001 => if x23 < x22 then (if 0 ≤ x23 then (if x23 < (x21.length : Int) then ((spec_inTrack.f k x325000 x325001 ((rd_T51 x21 x23).f0)).bind fun t328 => (if t328 < 0 then (spec_LossBound.l0 k x1 (wrap64 (x8 + ((rd_T51 x21 x23).f2))) x21 x22 (wrap64 (x23 + 1)) x325000 x325001) else (spec_LossBound.l0 k x1 x8 x21 x22 (wrap64 (x23 + 1)) x325000 x325001))) else (none)) else (none)) else ((spec_inFast.f k x1 x325001).bind fun t329 => (spec_LossBound.l1 k x1 x8 ([] : List Int) t329 (t329.length : Int) 0 x325000 x325001))
def spec_LossBound.l1 : Nat → List (S51) → Int → List Int → List (List Int) → Int → Int → List Int → Int → Option (Int × Bool)
  | 0, _, _, _, _, _, _, _, _ => none
  | k + 1, x1, x8, x11, x40, x41, x42, x325000, x325001 => if x42 < x41 then (if 0 ≤ x42 then (if x42 < (x40.length : Int) then (if 0 < ((rd_L3 x40 x42).length : Int) then (if 0 ≤ (rd (rd_L3 x40 x42) 0) then (if (rd (rd_L3 x40 x42) 0) < (x1.length : Int) then (if 1 < ((rd_L3 x40 x42).length : Int) then (if 0 ≤ (rd (rd_L3 x40 x42) 1) then (if (rd (rd_L3 x40 x42) 1) < (x1.length : Int) then ((spec_inTrack.f k x325000 x325001 ((rd_T51 x1 (rd (rd_L3 x40 x42) 0)).f0)).bind fun t339 => (if t339 ≥ 0 then ((spec_l1Has.f k x11 (rd (rd_L3 x40 x42) 0)).bind fun t341 => (if t341 = true then (spec_LossBound.l1 k x1 x8 x11 x40 x41 (wrap64 (x42 + 1)) x325000 x325001) else ((spec_l1Has.f k x11 (rd (rd_L3 x40 x42) 1)).bind fun t343 => (if t343 = true then (spec_LossBound.l1 k x1 x8 x11 x40 x41 (wrap64 (x42 + 1)) x325000 x325001) else ((some (([rd (rd_L3 x40 x42) 0, rd (rd_L3 x40 x42) 1] : List Int) : List Int)).bind fun y346 => (if x11.length + y346.length < 17592186044416 then ((spec_l1Least.f ((rd_T51 x1 (rd (rd_L3 x40 x42) 0)).f2) ((rd_T51 x1 (rd (rd_L3 x40 x42) 1)).f2)).bind fun t352 => (spec_LossBound.l1 k x1 (wrap64 (x8 + t352)) (x11 ++ y346) x40 x41 (wrap64 (x42 + 1)) x325000 x325001)) else (none))))))) else (spec_LossBound.l1 k x1 x8 x11 x40 x41 (wrap64 (x42 + 1)) x325000 x325001))) else (none)) else (none)) else (none)) else (none)) else (none)) else (none)) else (none)) else (none)) else (some (x8, true))
end
def spec_LossBound.f (k : Nat) (l0_0 : List Int) (a0_1 : Int) (l1 : List (S51)) (a2 : Int) : Option (Int × Bool) := (spec_thAsked.f k l0_0 a0_1 l1 a2).bind fun t325 => (if t325 = true then (spec_LossBound.l0 k l1 0 l1 (l1.length : Int) 0 l0_0 a0_1) else (some (0, false)))
instance spec_LossBound.lp0 {k : Nat} {r : Int × Bool} {Q : Wr → Prop} {p0 : List (S51)} {p2 : List (S51)} {p3 : Int} {p5 : List Int} {p6 : Int} {x8_1 : Int} {x23_1 : Int} : Lp (spec_LossBound.l0 k p0 x8_1 p2 p3 x23_1 p5 p6 = some r) Q (fun k => ∀ {x8_1 : Int} {x23_1 : Int}, spec_LossBound.l0 k p0 x8_1 p2 p3 x23_1 p5 p6 = some r → Q [(16, .p (.c (.v (.int .i64 x8_1)))), (46, .p (.c (.v (.int .i64 x23_1))))]) k [(16, .p (.c (.v (.int .i64 x8_1)))), (46, .p (.c (.v (.int .i64 x23_1))))] := ⟨fun j h => j h⟩
instance spec_LossBound.lp1 {k : Nat} {r : Int × Bool} {Q : Wr → Prop} {p0 : List (S51)} {p3 : List (List Int)} {p4 : Int} {p6 : List Int} {p7 : Int} {x8_2 : Int} {x11_2 : List Int} {x42_2 : Int} : Lp (spec_LossBound.l1 k p0 x8_2 x11_2 p3 p4 x42_2 p6 p7 = some r) Q (fun k => ∀ {x8_2 : Int} {x11_2 : List Int} {x42_2 : Int}, spec_LossBound.l1 k p0 x8_2 x11_2 p3 p4 x42_2 p6 p7 = some r → Q [(22, .p (.c (.rp (Try.f19.ntmps + 11)))), (2 * (Try.f19.ntmps + 11) + 1, .row 3 (.int .i64) x11_2), (16, .p (.c (.v (.int .i64 x8_2)))), (84, .p (.c (.v (.int .i64 x42_2))))]) k [(22, .p (.c (.rp (Try.f19.ntmps + 11)))), (2 * (Try.f19.ntmps + 11) + 1, .row 3 (.int .i64) x11_2), (16, .p (.c (.v (.int .i64 x8_2)))), (84, .p (.c (.v (.int .i64 x42_2))))] := ⟨fun j h => j h⟩
set_option maxRecDepth 8000 in
set_option maxHeartbeats 2000000 in
theorem spec_LossBound.con (k : Nat) (l0_0 : List Int) (a0_1 : Int) (l1 : List (S51)) (a2 : Int) (r1 : Int) (r2 : Bool) (H : spec_LossBound.f k l0_0 a0_1 l1 a2 = some (r1, r2)) : Con Try.prog 19 [.p (.ag [.sl (.int .i64) l0_0, .v (.int .i64 a0_1)]), .p (.c (.sl K51 l1)), .p (.c (.v (.int .i64 a2)))] (.tp [.c (.v (.int .i64 r1)), .c (.v (.bool r2))]) := by
  refine Con.mk' (fn := Try.f19) Try.func19 rfl (by kernel_rfl) rfl rfl rfl fun X w0 gs hF => ?_
  unfold spec_LossBound.f at H
  exact auto
instance spec_LossBound.ctr {k : Nat} {l0_0 : List Int} {a0_1 : Int} {l1 : List (S51)} {a2 : Int} {t_ : (Int) × (Bool)} : Ctr (spec_LossBound.f k l0_0 a0_1 l1 a2 = some t_) (Con Try.prog 19 [.p (.ag [.sl (.int .i64) l0_0, .v (.int .i64 a0_1)]), .p (.c (.sl K51 l1)), .p (.c (.v (.int .i64 a2)))] (.tp [.c (.v (.int .i64 t_.1)), .c (.v (.bool t_.2))])) := ⟨fun h => spec_LossBound.con _ _ _ _ _ (t_.1) (t_.2) h⟩
/-! ### impl_isVoices: function 48 -/
def impl_isVoices.f (a0 : Int) : Option (Bool) := if a0 ≥ 1 then (some (decide (a0 ≤ 20))) else (some false)
set_option maxRecDepth 8000 in
set_option maxHeartbeats 2000000 in
theorem impl_isVoices.con (a0 : Int) (r : Bool) (H : impl_isVoices.f a0 = some r) : Con Try.prog 48 [.p (.c (.v (.int .i64 a0)))] (.p (.c (.v (.bool r)))) := by
  refine Con.mk' (fn := Try.f48) Try.func48 rfl (by kernel_rfl) rfl rfl rfl fun X w0 gs hF => ?_
  unfold impl_isVoices.f at H
  exact auto
instance impl_isVoices.ctr {a0 : Int} {r : Bool} : Ctr (impl_isVoices.f a0 = some r) (Con Try.prog 48 [.p (.c (.v (.int .i64 a0)))] (.p (.c (.v (.bool r))))) := ⟨impl_isVoices.con _ _⟩
/-! ### impl_fastRepeats: function 49 -/
mutual
def impl_fastRepeats.l0 : Nat → List (S51) → Int → List (List Int) → List (S51) → Int → Int → Option ((List (List Int)))
  | 0, _, _, _, _, _, _ => none
  | k + 1, x0, x1, x5, x10, x11, x12 => if x12 < x11 then (if 0 ≤ x12 then (if x12 < (x10.length : Int) then (impl_fastRepeats.l1 k x0 x1 x5 x12 (wrap64 (x12 - 1)) x10 x11 x12 ((rd_T51 x10 x12).f0) ((rd_T51 x10 x12).f1) ((rd_T51 x10 x12).f2)) else (none)) else (none)) else (some x5)
def impl_fastRepeats.l1 : Nat → List (S51) → Int → List (List Int) → Int → Int → List (S51) → Int → Int → Int → Int → Int → Option ((List (List Int)))
  | 0, _, _, _, _, _, _, _, _, _, _, _ => none
  | k + 1, x0, x1, x5, x6, x8, x10, x11, x12, x358000, x358001, x358002 => if x8 ≥ 0 then (if 0 ≤ x8 then (if x8 < (x0.length : Int) then (if ((rd_T51 x0 x8).f0) = x358000 then (if (wrap64 (x358001 - ((rd_T51 x0 x8).f1))) < x1 then (if x5.length < 5864062014805 then (impl_fastRepeats.l0 k x0 x1 (x5 ++ [(([x8, x6] : List Int))]) x10 x11 (wrap64 (x12 + 1))) else (none)) else (impl_fastRepeats.l0 k x0 x1 x5 x10 x11 (wrap64 (x12 + 1)))) else (impl_fastRepeats.l1 k x0 x1 x5 x6 (wrap64 (x8 - 1)) x10 x11 x12 x358000 x358001 x358002)) else (none)) else (none)) else (impl_fastRepeats.l0 k x0 x1 x5 x10 x11 (wrap64 (x12 + 1)))
end
def impl_fastRepeats.f (k : Nat) (l0 : List (S51)) (a1 : Int) : Option ((List (List Int))) := impl_fastRepeats.l0 k l0 a1 (([] : List (List Int))) l0 (l0.length : Int) 0
instance impl_fastRepeats.lp0 {k : Nat} {r : (List (List Int))} {Q : Wr → Prop} {p0 : List (S51)} {p1 : Int} {p3 : List (S51)} {p4 : Int} {x5_1 : List (List Int)} {x12_1 : Int} : Lp (impl_fastRepeats.l0 k p0 p1 x5_1 p3 p4 x12_1 = some r) Q (fun k => ∀ {x5_1 : List (List Int)} {x12_1 : Int}, impl_fastRepeats.l0 k p0 p1 x5_1 p3 p4 x12_1 = some r → Q [(10, .p (.c (.rp (Try.f49.ntmps + 5)))), (2 * (Try.f49.ntmps + 5) + 1, .row 22 KL3 x5_1), (24, .p (.c (.v (.int .i64 x12_1))))]) k [(10, .p (.c (.rp (Try.f49.ntmps + 5)))), (2 * (Try.f49.ntmps + 5) + 1, .row 22 KL3 x5_1), (24, .p (.c (.v (.int .i64 x12_1))))] := ⟨fun j h => j h⟩
instance impl_fastRepeats.lp1 {k : Nat} {r : (List (List Int))} {Q : Wr → Prop} {p0 : List (S51)} {p1 : Int} {p3 : Int} {p5 : List (S51)} {p6 : Int} {p7 : Int} {p8 : Int} {p9 : Int} {p10 : Int} {x5_2 : List (List Int)} {x8_2 : Int} : Lp (impl_fastRepeats.l1 k p0 p1 x5_2 p3 x8_2 p5 p6 p7 p8 p9 p10 = some r) Q (fun k => ∀ {x5_2 : List (List Int)} {x8_2 : Int}, impl_fastRepeats.l1 k p0 p1 x5_2 p3 x8_2 p5 p6 p7 p8 p9 p10 = some r → Q [(10, .p (.c (.rp (Try.f49.ntmps + 5)))), (2 * (Try.f49.ntmps + 5) + 1, .row 22 KL3 x5_2), (16, .p (.c (.v (.int .i64 x8_2))))]) k [(10, .p (.c (.rp (Try.f49.ntmps + 5)))), (2 * (Try.f49.ntmps + 5) + 1, .row 22 KL3 x5_2), (16, .p (.c (.v (.int .i64 x8_2))))] := ⟨fun j h => j h⟩
set_option maxRecDepth 8000 in
set_option maxHeartbeats 2000000 in
theorem impl_fastRepeats.con (k : Nat) (l0 : List (S51)) (a1 : Int) (r : List (List Int)) (H : impl_fastRepeats.f k l0 a1 = some r) : Con Try.prog 49 [.p (.c (.sl K51 l0)), .p (.c (.v (.int .i64 a1)))] (.p (.c (.ow 22 KL3 r))) := by
  refine Con.mk' (fn := Try.f49) Try.func49 rfl (by kernel_rfl) rfl rfl rfl fun X w0 gs hF => ?_
  unfold impl_fastRepeats.f at H
  exact auto
instance impl_fastRepeats.ctr {k : Nat} {l0 : List (S51)} {a1 : Int} {r : List (List Int)} : Ctr (impl_fastRepeats.f k l0 a1 = some r) (Con Try.prog 49 [.p (.c (.sl K51 l0)), .p (.c (.v (.int .i64 a1)))] (.p (.c (.ow 22 KL3 r)))) := ⟨impl_fastRepeats.con _ _ _ _⟩
/-! ### impl_LossBound: function 20 -/
mutual
def impl_LossBound.j0 : Nat → List (S51) → Bool → List Int → Int → Option (Int × Bool)
  | 0, _, _, _, _ => none
  | k + 1, x1, x28, x367000, x367001 => if x28 = true then (some (0, false)) else (impl_LossBound.l0 k x1 0 x1 (x1.length : Int) 0 x367000 x367001)
def impl_LossBound.l0 : Nat → List (S51) → Int → List (S51) → Int → Int → List Int → Int → Option (Int × Bool)
  | 0, _, _, _, _, _, _, _ => none
  | k + 1, x1, x8, x29, x30, x31, x367000, x367001 => if x31 < x30 then (if 0 ≤ x31 then (if x31 < (x29.length : Int) then ((slices_Contains_int_int.f k x367000 ((rd_T51 x29 x31).f0)).bind fun t372 => (if t372 = true then (impl_LossBound.l0 k x1 x8 x29 x30 (wrap64 (x31 + 1)) x367000 x367001) else (impl_LossBound.l0 k x1 (wrap64 (x8 + ((rd_T51 x29 x31).f2))) x29 x30 (wrap64 (x31 + 1)) x367000 x367001))) else (none)) else (none)) else (if 0 ≤ (x1.length : Int) then (if ((x1.length : Int) : Int).toNat ≤ 281474976710656 then ((impl_fastRepeats.f k x1 x367001).bind fun t376 => (impl_LossBound.l1 k x1 x8 (List.replicate ((x1.length : Int) : Int).toNat false) t376 (t376.length : Int) 0 x367000 x367001)) else (none)) else (none))
def impl_LossBound.l1 : Nat → List (S51) → Int → List Bool → List (List Int) → Int → Int → List Int → Int → Option (Int × Bool)
  | 0, _, _, _, _, _, _, _, _ => none
  | k + 1, x1, x8, x11, x52, x53, x54, x367000, x367001 => if x54 < x53 then (if 0 ≤ x54 then (if x54 < (x52.length : Int) then (if 0 < ((rd_L3 x52 x54).length : Int) then (if 1 < ((rd_L3 x52 x54).length : Int) then (if 0 ≤ (rd (rd_L3 x52 x54) 0) then (if (rd (rd_L3 x52 x54) 0) < (x1.length : Int) then ((slices_Contains_int_int.f k x367000 ((rd_T51 x1 (rd (rd_L3 x52 x54) 0)).f0)).bind fun t383 => (if t383 = true then (if (rd (rd_L3 x52 x54) 0) < (x11.length : Int) then (if (rdOf false x11 (rd (rd_L3 x52 x54) 0) = true) then (impl_LossBound.l1 k x1 x8 x11 x52 x53 (wrap64 (x54 + 1)) x367000 x367001) else (if 0 ≤ (rd (rd_L3 x52 x54) 1) then (if (rd (rd_L3 x52 x54) 1) < (x11.length : Int) then (if (rdOf false x11 (rd (rd_L3 x52 x54) 1) = true) then (impl_LossBound.l1 k x1 x8 x11 x52 x53 (wrap64 (x54 + 1)) x367000 x367001) else (if (rd (rd_L3 x52 x54) 1) < (x1.length : Int) then (impl_LossBound.l1 k x1 (wrap64 (x8 + (mn ((rd_T51 x1 (rd (rd_L3 x52 x54) 0)).f2) ((rd_T51 x1 (rd (rd_L3 x52 x54) 1)).f2)))) ((x11.set ((rd (rd_L3 x52 x54) 0) : Int).toNat true).set ((rd (rd_L3 x52 x54) 1) : Int).toNat true) x52 x53 (wrap64 (x54 + 1)) x367000 x367001) else (none))) else (none)) else (none))) else (none)) else (impl_LossBound.l1 k x1 x8 x11 x52 x53 (wrap64 (x54 + 1)) x367000 x367001))) else (none)) else (none)) else (none)) else (none)) else (none)) else (none)) else (some (x8, true))
end
def impl_LossBound.f (k : Nat) (l0_0 : List Int) (a0_1 : Int) (l1 : List (S51)) (a2 : Int) : Option (Int × Bool) := (impl_IsInstrument.f k l0_0 a0_1).bind fun t367 => (if t367 = true then ((impl_isThin.f k l1).bind fun t368 => (if t368 = true then ((impl_isVoices.f a2).bind fun t369 => (impl_LossBound.j0 k l1 (!t369) l0_0 a0_1)) else (impl_LossBound.j0 k l1 true l0_0 a0_1))) else (impl_LossBound.j0 k l1 true l0_0 a0_1))
instance impl_LossBound.lp0 {k : Nat} {r : Int × Bool} {Q : Wr → Prop} {p0 : List (S51)} {p2 : List (S51)} {p3 : Int} {p5 : List Int} {p6 : Int} {x8_2 : Int} {x31_2 : Int} : Lp (impl_LossBound.l0 k p0 x8_2 p2 p3 x31_2 p5 p6 = some r) Q (fun k => ∀ {x8_2 : Int} {x31_2 : Int}, impl_LossBound.l0 k p0 x8_2 p2 p3 x31_2 p5 p6 = some r → Q [(16, .p (.c (.v (.int .i64 x8_2)))), (62, .p (.c (.v (.int .i64 x31_2))))]) k [(16, .p (.c (.v (.int .i64 x8_2)))), (62, .p (.c (.v (.int .i64 x31_2))))] := ⟨fun j h => j h⟩
instance impl_LossBound.lp1 {k : Nat} {r : Int × Bool} {Q : Wr → Prop} {p0 : List (S51)} {p3 : List (List Int)} {p4 : Int} {p6 : List Int} {p7 : Int} {x8_3 : Int} {x11_3 : List Bool} {x54_3 : Int} : Lp (impl_LossBound.l1 k p0 x8_3 x11_3 p3 p4 x54_3 p6 p7 = some r) Q (fun k => ∀ {x8_3 : Int} {x11_3 : List Bool} {x54_3 : Int}, impl_LossBound.l1 k p0 x8_3 x11_3 p3 p4 x54_3 p6 p7 = some r → Q [(22, .p (.c (.rp (Try.f20.ntmps + 11)))), (2 * (Try.f20.ntmps + 11) + 1, .row 4 .bool x11_3), (16, .p (.c (.v (.int .i64 x8_3)))), (108, .p (.c (.v (.int .i64 x54_3))))]) k [(22, .p (.c (.rp (Try.f20.ntmps + 11)))), (2 * (Try.f20.ntmps + 11) + 1, .row 4 .bool x11_3), (16, .p (.c (.v (.int .i64 x8_3)))), (108, .p (.c (.v (.int .i64 x54_3))))] := ⟨fun j h => j h⟩
set_option maxRecDepth 8000 in
set_option maxHeartbeats 2000000 in
theorem impl_LossBound.con (k : Nat) (l0_0 : List Int) (a0_1 : Int) (l1 : List (S51)) (a2 : Int) (r1 : Int) (r2 : Bool) (H : impl_LossBound.f k l0_0 a0_1 l1 a2 = some (r1, r2)) : Con Try.prog 20 [.p (.ag [.sl (.int .i64) l0_0, .v (.int .i64 a0_1)]), .p (.c (.sl K51 l1)), .p (.c (.v (.int .i64 a2)))] (.tp [.c (.v (.int .i64 r1)), .c (.v (.bool r2))]) := by
  refine Con.mk' (fn := Try.f20) Try.func20 rfl (by kernel_rfl) rfl rfl rfl fun X w0 gs hF => ?_
  unfold impl_LossBound.f at H
  exact auto
instance impl_LossBound.ctr {k : Nat} {l0_0 : List Int} {a0_1 : Int} {l1 : List (S51)} {a2 : Int} {t_ : (Int) × (Bool)} : Ctr (impl_LossBound.f k l0_0 a0_1 l1 a2 = some t_) (Con Try.prog 20 [.p (.ag [.sl (.int .i64) l0_0, .v (.int .i64 a0_1)]), .p (.c (.sl K51 l1)), .p (.c (.v (.int .i64 a2)))] (.tp [.c (.v (.int .i64 t_.1)), .c (.v (.bool t_.2))])) := ⟨fun h => impl_LossBound.con _ _ _ _ _ (t_.1) (t_.2) h⟩
/-! ### laws_FnExactLossBound: function 4 -/
def laws_FnExactLossBound.j0 : Nat → List (S54) → List (S51) → Bool → List Int → Int → List Int → Int → Option (Bool)
  | 0, _, _, _, _, _, _, _ => none
  | k + 1, x1, x11, x51, x391000, x391001, x407000, x407001 => if x51 = true then (some false) else ((laws_toInstrument.f k x391000 x391001).bind fun bt412 => ((laws_eqInstrument.f k x407000 x407001 bt412.1 bt412.2).bind fun t416 => (if t416 = true then ((laws_toNoteS.f k x1).bind fun t417 => ((laws_eqNoteS.f k x11 t417).bind fun t420 => (if t420 = true then (some true) else (some false)))) else (some false))))
def laws_FnExactLossBound.f (k : Nat) (l0_0 : List Int) (a0_1 : Int) (l1 : List (S54)) (a2 : Int) : Option (Bool) := (laws_szInstrument.f l0_0 a0_1 1048576).bind fun t391 => (if t391 < 0 then (some true) else ((laws_szNoteS.f l1 t391).bind fun t392 => (if t392 < 0 then (some true) else ((laws_toInstrument.f k l0_0 a0_1).bind fun bt393 => ((laws_toNoteS.f k l1).bind fun t397 => ((spec_LossBound.f k bt393.1 bt393.2 t397 a2).bind fun bt400 => ((laws_toInstrument.f k l0_0 a0_1).bind fun bt402 => ((laws_toNoteS.f k l1).bind fun t407 => ((impl_LossBound.f k bt402.1 bt402.2 t407 a2).bind fun bt410 => (if bt410.1 = bt400.1 then (laws_FnExactLossBound.j0 k l1 t407 (bt410.2 != bt400.2) l0_0 a0_1 bt402.1 bt402.2) else (laws_FnExactLossBound.j0 k l1 t407 true l0_0 a0_1 bt402.1 bt402.2)))))))))))
set_option maxRecDepth 8000 in
set_option maxHeartbeats 2000000 in
theorem laws_FnExactLossBound.con (k : Nat) (l0_0 : List Int) (a0_1 : Int) (l1 : List (S54)) (a2 : Int) (r : Bool) (H : laws_FnExactLossBound.f k l0_0 a0_1 l1 a2 = some r) : Con Try.prog 4 [.p (.ag [.sl (.int .i64) l0_0, .v (.int .i64 a0_1)]), .p (.c (.sl K54 l1)), .p (.c (.v (.int .i64 a2)))] (.p (.c (.v (.bool r)))) := by
  refine Con.mk' (fn := Try.f4) Try.func4 rfl (by kernel_rfl) rfl rfl rfl fun X w0 gs hF => ?_
  unfold laws_FnExactLossBound.f at H
  exact auto
instance laws_FnExactLossBound.ctr {k : Nat} {l0_0 : List Int} {a0_1 : Int} {l1 : List (S54)} {a2 : Int} {r : Bool} : Ctr (laws_FnExactLossBound.f k l0_0 a0_1 l1 a2 = some r) (Con Try.prog 4 [.p (.ag [.sl (.int .i64) l0_0, .v (.int .i64 a0_1)]), .p (.c (.sl K54 l1)), .p (.c (.v (.int .i64 a2)))] (.p (.c (.v (.bool r))))) := ⟨laws_FnExactLossBound.con _ _ _ _ _ _⟩
theorem laws_FnExactLossBound.calls (k : Nat) (A0_0 : Option Addr) (c0_0 : Nat) (l0_0 : List Int) (a0_1 : Int) (A1 : Option Addr) (c1 : Nat) (l1 : List (S54)) (a2 : Int) (r : Bool) (w : World) (hr0_0 : Kd.C (Kd.int .i64) w A0_0 l0_0.length l0_0) (hc0_0 : l0_0.length ≤ c0_0) (hr1 : Kd.C k54 w A1 l1.length l1) (hc1 : l1.length ≤ c1) (h : laws_FnExactLossBound.f k l0_0 a0_1 l1 a2 = some r) :
    Calls Try.prog 4 #[.agg #[.slice A0_0 l0_0.length c0_0, .int .i64 a0_1], .slice A1 l1.length c1, .int .i64 a2] w fun e w' => e = .returned (.bool r) ∧ Below w.heap.size w w' :=
  (laws_FnExactLossBound.con k l0_0 a0_1 l1 a2 r h).val rfl (show Args.relg (fun _ => False) w _ [.agg #[.slice A0_0 l0_0.length c0_0, .int .i64 a0_1], .slice A1 l1.length c1, .int .i64 a2] [.slice A0_0 l0_0.length c0_0, .int .i64 a0_1, .slice A1 l1.length c1, .int .i64 a2] from ⟨_, _, rfl, ⟨rfl, ⟨A0_0, c0_0, rfl, hc0_0, row_of_C rfl (fun _ h => h) hr0_0⟩, rfl, ⟨rfl, rfl, trivial⟩⟩, ⟨_, _, rfl, ⟨rfl, A1, c1, rfl, hc1, row_of_C rfl (fun _ h => h) hr1⟩, ⟨_, _, rfl, ⟨rfl, rfl⟩, rfl⟩⟩⟩)
end Go.Proofs.Ytipcjpgonncinaa.J
