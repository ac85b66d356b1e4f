/- BY EV: what the Go functions compute (read off the print), and that their calls come to it. No condition. -/
import Derived.Test.YtgjpphcbdbfhlaaGreatLEU
import Derived.Test.YtgjpphcbdbfhlaaGreatL3
import Derived.Test.YtgjpphcbdbfhlaaGreatL4
import Derived.Test.YtgjpphcbdbfhlaaGreatL5
import Derived.Test.YtgjpphcbdbfhlaaGreatL7
set_option linter.unusedVariables false
set_option linter.unusedSimpArgs false
namespace Go.Proofs.YtgjpphcbdbfhlaaGreat.L
open Go.RowKit Go.Proofs Go.Proofs.YtgjpphcbdbfhlaaGreatW.PrintWords Go.Proofs.YtgjpphcbdbfhlaaGreatW.PrintLast EV
/-! ### spec_SpareTracks: function 27 -/
def spec_SpareTracks.l0 : Nat → List Int → List Int → Int → Int → Option (List Int × Bool)
  | 0, _, _, _, _ => none
  | k + 1, x6, x7, x17, x18 => if x18 < x17 then ((spec_l1Has.f k x6 x18).bind fun t982 => (if t982 = true then (spec_SpareTracks.l0 k x6 x7 x17 (wrap64 (x18 + 1))) else (if x7.length < 17592186044416 then (spec_SpareTracks.l0 k x6 (x7 ++ [x18]) x17 (wrap64 (x18 + 1))) else (none)))) else (some (x7, true))
def spec_SpareTracks.f (k : Nat) (l0_0 : List Int) (a0_1 : Int) (l1 : List (S40)) : Option (List Int × Bool) := (spec_laAsked.f k l0_0 a0_1 l1).bind fun t978 => (if t978 = true then ((spec_laTracks.f k l1).bind fun t979 => (spec_SpareTracks.l0 k t979 ([] : List Int) (l0_0.length : Int) 0)) else (some (([] : List Int), false)))
instance spec_SpareTracks.lp0 {k : Nat} {r : List Int × Bool} {Q : Wr → Prop} {p0 : List Int} {p2 : Int} {x7_1 : List Int} {x18_1 : Int} : Lp (spec_SpareTracks.l0 k p0 x7_1 p2 x18_1 = some r) Q (fun k => ∀ {x7_1 : List Int} {x18_1 : Int}, spec_SpareTracks.l0 k p0 x7_1 p2 x18_1 = some r → Q [(14, .p (.c (.rp (Tryz.f27.ntmps + 7)))), (2 * (Tryz.f27.ntmps + 7) + 1, .row 3 (.int .i64) x7_1), (36, .p (.c (.v (.int .i64 x18_1))))]) k [(14, .p (.c (.rp (Tryz.f27.ntmps + 7)))), (2 * (Tryz.f27.ntmps + 7) + 1, .row 3 (.int .i64) x7_1), (36, .p (.c (.v (.int .i64 x18_1))))] := ⟨fun j h => j h⟩
set_option maxRecDepth 20000 in
set_option maxHeartbeats 2000000 in
theorem spec_SpareTracks.con (k : Nat) (l0_0 : List Int) (a0_1 : Int) (l1 : List (S40)) (r1 : List Int) (r2 : Bool) (H : spec_SpareTracks.f k l0_0 a0_1 l1 = some (r1, r2)) : Con Tryz.prog 27 [.p (.ag [.sl (.int .i64) l0_0, .v (.int .i64 a0_1)]), .p (.c (.sl K40 l1))] (.tp [.c (.ow 3 (.int .i64) r1), .c (.v (.bool r2))]) := by
  refine Con.mk' (fn := Tryz.f27) Tryz.func27 rfl (by kernel_rfl) rfl rfl rfl fun X w0 gs hF => ?_
  unfold spec_SpareTracks.f at H
  exact auto
instance spec_SpareTracks.ctr {k : Nat} {l0_0 : List Int} {a0_1 : Int} {l1 : List (S40)} {t_ : (List Int) × (Bool)} : Ctr (spec_SpareTracks.f k l0_0 a0_1 l1 = some t_) (Con Tryz.prog 27 [.p (.ag [.sl (.int .i64) l0_0, .v (.int .i64 a0_1)]), .p (.c (.sl K40 l1))] (.tp [.c (.ow 3 (.int .i64) t_.1), .c (.v (.bool t_.2))])) := ⟨fun h => spec_SpareTracks.con _ _ _ _ (t_.1) (t_.2) h⟩
/-! ### spec_TracksUsed: function 29 -/
def spec_TracksUsed.f (k : Nat) (l0 : List (S40)) : Option (List Int × Bool) := (spec_shGood.f k l0).bind fun t990 => (if t990 = true then ((spec_laTracks.f k l0).bind fun t991 => (some (t991, true))) else (some (([] : List Int), false)))
set_option maxRecDepth 20000 in
set_option maxHeartbeats 2000000 in
theorem spec_TracksUsed.con (k : Nat) (l0 : List (S40)) (r1 : List Int) (r2 : Bool) (H : spec_TracksUsed.f k l0 = some (r1, r2)) : Con Tryz.prog 29 [.p (.c (.sl K40 l0))] (.tp [.c (.ow 3 (.int .i64) r1), .c (.v (.bool r2))]) := by
  refine Con.mk' (fn := Tryz.f29) Tryz.func29 rfl (by kernel_rfl) rfl rfl rfl fun X w0 gs hF => ?_
  unfold spec_TracksUsed.f at H
  exact auto
instance spec_TracksUsed.ctr {k : Nat} {l0 : List (S40)} {t_ : (List Int) × (Bool)} : Ctr (spec_TracksUsed.f k l0 = some t_) (Con Tryz.prog 29 [.p (.c (.sl K40 l0))] (.tp [.c (.ow 3 (.int .i64) t_.1), .c (.v (.bool t_.2))])) := ⟨fun h => spec_TracksUsed.con _ _ (t_.1) (t_.2) h⟩
/-! ### impl_OpenTime: function 31 -/
mutual
def impl_OpenTime.j0 : Nat → List (S40) → Int → Bool → Option (Int × Bool)
  | 0, _, _, _ => none
  | k + 1, x0, x1, x16 => if x16 = true then (some (0, false)) else (impl_OpenTime.l0 k x1 0 x0 (x0.length : Int) 0)
def impl_OpenTime.l0 : Nat → Int → Int → List (S40) → Int → Int → Option (Int × Bool)
  | 0, _, _, _, _, _ => none
  | k + 1, x1, x6, x17, x18, x19 => if x19 < x18 then (if 0 ≤ x19 then (if x19 < (x17.length : Int) then (if ((rd_T40 x17 x19).f0) = x1 then (impl_OpenTime.l0 k x1 (wrap64 (x6 + (wrap64 (((rd_T40 x17 x19).f2) - ((rd_T40 x17 x19).f1))))) x17 x18 (wrap64 (x19 + 1))) else (impl_OpenTime.l0 k x1 x6 x17 x18 (wrap64 (x19 + 1)))) else (none)) else (none)) else (some (x6, true))
end
def impl_OpenTime.f (k : Nat) (l0 : List (S40)) (a1 : Int) : Option (Int × Bool) := (impl_IsSheet.f k l0).bind fun t994 => (if t994 = true then ((impl_isTrack.f a1).bind fun t995 => (impl_OpenTime.j0 k l0 a1 (!t995))) else (impl_OpenTime.j0 k l0 a1 true))
instance impl_OpenTime.lp0 {k : Nat} {r : Int × Bool} {Q : Wr → Prop} {p0 : Int} {p2 : List (S40)} {p3 : Int} {x6_2 : Int} {x19_2 : Int} : Lp (impl_OpenTime.l0 k p0 x6_2 p2 p3 x19_2 = some r) Q (fun k => ∀ {x6_2 : Int} {x19_2 : Int}, impl_OpenTime.l0 k p0 x6_2 p2 p3 x19_2 = some r → Q [(12, .p (.c (.v (.int .i64 x6_2)))), (38, .p (.c (.v (.int .i64 x19_2))))]) k [(12, .p (.c (.v (.int .i64 x6_2)))), (38, .p (.c (.v (.int .i64 x19_2))))] := ⟨fun j h => j h⟩
set_option maxRecDepth 20000 in
set_option maxHeartbeats 2000000 in
theorem impl_OpenTime.con (k : Nat) (l0 : List (S40)) (a1 : Int) (r1 : Int) (r2 : Bool) (H : impl_OpenTime.f k l0 a1 = some (r1, r2)) : Con Tryz.prog 31 [.p (.c (.sl K40 l0)), .p (.c (.v (.int .i64 a1)))] (.tp [.c (.v (.int .i64 r1)), .c (.v (.bool r2))]) := by
  refine Con.mk' (fn := Tryz.f31) Tryz.func31 rfl (by kernel_rfl) rfl rfl rfl fun X w0 gs hF => ?_
  unfold impl_OpenTime.f at H
  exact auto
instance impl_OpenTime.ctr {k : Nat} {l0 : List (S40)} {a1 : Int} {t_ : (Int) × (Bool)} : Ctr (impl_OpenTime.f k l0 a1 = some t_) (Con Tryz.prog 31 [.p (.c (.sl K40 l0)), .p (.c (.v (.int .i64 a1)))] (.tp [.c (.v (.int .i64 t_.1)), .c (.v (.bool t_.2))])) := ⟨fun h => impl_OpenTime.con _ _ _ (t_.1) (t_.2) h⟩
/-! ### spec_OpenTime: function 32 -/
mutual
def spec_OpenTime.j0 : Nat → List (S40) → Int → Bool → Option (Int × Bool)
  | 0, _, _, _ => none
  | k + 1, x0, x1, x16 => if x16 = true then (some (0, false)) else (spec_OpenTime.l0 k x1 0 x0 (x0.length : Int) 0)
def spec_OpenTime.l0 : Nat → Int → Int → List (S40) → Int → Int → Option (Int × Bool)
  | 0, _, _, _, _, _ => none
  | k + 1, x1, x6, x17, x18, x19 => if x19 < x18 then (if 0 ≤ x19 then (if x19 < (x17.length : Int) then (if ((rd_T40 x17 x19).f0) = x1 then (spec_OpenTime.l0 k x1 (wrap64 (x6 + (wrap64 (((rd_T40 x17 x19).f2) - ((rd_T40 x17 x19).f1))))) x17 x18 (wrap64 (x19 + 1))) else (spec_OpenTime.l0 k x1 x6 x17 x18 (wrap64 (x19 + 1)))) else (none)) else (none)) else (some (x6, true))
end
def spec_OpenTime.f (k : Nat) (l0 : List (S40)) (a1 : Int) : Option (Int × Bool) := (spec_shGood.f k l0).bind fun t998 => (if t998 = true then ((spec_l1In.f a1 0 19).bind fun t999 => (spec_OpenTime.j0 k l0 a1 (!t999))) else (spec_OpenTime.j0 k l0 a1 true))
instance spec_OpenTime.lp0 {k : Nat} {r : Int × Bool} {Q : Wr → Prop} {p0 : Int} {p2 : List (S40)} {p3 : Int} {x6_2 : Int} {x19_2 : Int} : Lp (spec_OpenTime.l0 k p0 x6_2 p2 p3 x19_2 = some r) Q (fun k => ∀ {x6_2 : Int} {x19_2 : Int}, spec_OpenTime.l0 k p0 x6_2 p2 p3 x19_2 = some r → Q [(12, .p (.c (.v (.int .i64 x6_2)))), (38, .p (.c (.v (.int .i64 x19_2))))]) k [(12, .p (.c (.v (.int .i64 x6_2)))), (38, .p (.c (.v (.int .i64 x19_2))))] := ⟨fun j h => j h⟩
set_option maxRecDepth 20000 in
set_option maxHeartbeats 2000000 in
theorem spec_OpenTime.con (k : Nat) (l0 : List (S40)) (a1 : Int) (r1 : Int) (r2 : Bool) (H : spec_OpenTime.f k l0 a1 = some (r1, r2)) : Con Tryz.prog 32 [.p (.c (.sl K40 l0)), .p (.c (.v (.int .i64 a1)))] (.tp [.c (.v (.int .i64 r1)), .c (.v (.bool r2))]) := by
  refine Con.mk' (fn := Tryz.f32) Tryz.func32 rfl (by kernel_rfl) rfl rfl rfl fun X w0 gs hF => ?_
  unfold spec_OpenTime.f at H
  exact auto
instance spec_OpenTime.ctr {k : Nat} {l0 : List (S40)} {a1 : Int} {t_ : (Int) × (Bool)} : Ctr (spec_OpenTime.f k l0 a1 = some t_) (Con Tryz.prog 32 [.p (.c (.sl K40 l0)), .p (.c (.v (.int .i64 a1)))] (.tp [.c (.v (.int .i64 t_.1)), .c (.v (.bool t_.2))])) := ⟨fun h => spec_OpenTime.con _ _ _ (t_.1) (t_.2) h⟩
/-! ### spec_CrowdedSteps: function 35 -/
mutual
def spec_CrowdedSteps.j0 : Nat → List (S40) → Int → Bool → Option (Int × Bool)
  | 0, _, _, _ => none
  | k + 1, x0, x1, x20 => if x20 = true then (some (0, false)) else (if 2000 ≤ 35184372088832 then (spec_CrowdedSteps.l0 k x1 (List.replicate 2000 0) x0 (x0.length : Int) 0) else (none))
def spec_CrowdedSteps.l0 : Nat → Int → List Int → List (S40) → Int → Int → Option (Int × Bool)
  | 0, _, _, _, _, _ => none
  | k + 1, x1, x6, x22, x23, x24 => if x24 < x23 then (if 0 ≤ x24 then (if x24 < (x22.length : Int) then (spec_CrowdedSteps.l1 k x1 x6 ((rd_T40 x22 x24).f1) x22 x23 x24 ((rd_T40 x22 x24).f0) ((rd_T40 x22 x24).f1) ((rd_T40 x22 x24).f2)) else (none)) else (none)) else (spec_CrowdedSteps.l2 k x1 0 x6 (x6.length : Int) 0)
def spec_CrowdedSteps.l1 : Nat → Int → List Int → Int → List (S40) → Int → Int → Int → Int → Int → Option (Int × Bool)
  | 0, _, _, _, _, _, _, _, _, _ => none
  | k + 1, x1, x6, x9, x22, x23, x24, x1009000, x1009001, x1009002 => if x9 < x1009002 then (if 0 ≤ x9 then (if x9 < (x6.length : Int) then (spec_CrowdedSteps.l1 k x1 (x6.set (x9 : Int).toNat (wrap64 ((rd x6 x9) + 1))) (wrap64 (x9 + 1)) x22 x23 x24 x1009000 x1009001 x1009002) else (none)) else (none)) else (spec_CrowdedSteps.l0 k x1 x6 x22 x23 (wrap64 (x24 + 1)))
def spec_CrowdedSteps.l2 : Nat → Int → Int → List Int → Int → Int → Option (Int × Bool)
  | 0, _, _, _, _, _ => none
  | k + 1, x1, x10, x43, x44, x45 => if x45 < x44 then (if 0 ≤ x45 then (if x45 < (x43.length : Int) then (if (rd x43 x45) > x1 then (spec_CrowdedSteps.l2 k x1 (wrap64 (x10 + 1)) x43 x44 (wrap64 (x45 + 1))) else (spec_CrowdedSteps.l2 k x1 x10 x43 x44 (wrap64 (x45 + 1)))) else (none)) else (none)) else (some (x10, true))
end
def spec_CrowdedSteps.f (k : Nat) (l0 : List (S40)) (a1 : Int) : Option (Int × Bool) := (spec_shGood.f k l0).bind fun t1002 => (if t1002 = true then ((spec_l1In.f a1 0 20).bind fun t1003 => (spec_CrowdedSteps.j0 k l0 a1 (!t1003))) else (spec_CrowdedSteps.j0 k l0 a1 true))
instance spec_CrowdedSteps.lp0 {k : Nat} {r : Int × Bool} {Q : Wr → Prop} {p0 : Int} {p2 : List (S40)} {p3 : Int} {x6_2 : List Int} {x24_2 : Int} : Lp (spec_CrowdedSteps.l0 k p0 x6_2 p2 p3 x24_2 = some r) Q (fun k => ∀ {x6_2 : List Int} {x24_2 : Int}, spec_CrowdedSteps.l0 k p0 x6_2 p2 p3 x24_2 = some r → Q [(12, .p (.c (.rp (Tryz.f35.ntmps + 6)))), (2 * (Tryz.f35.ntmps + 6) + 1, .row 3 (.int .i64) x6_2), (48, .p (.c (.v (.int .i64 x24_2))))]) k [(12, .p (.c (.rp (Tryz.f35.ntmps + 6)))), (2 * (Tryz.f35.ntmps + 6) + 1, .row 3 (.int .i64) x6_2), (48, .p (.c (.v (.int .i64 x24_2))))] := ⟨fun j h => j h⟩
instance spec_CrowdedSteps.lp1 {k : Nat} {r : Int × Bool} {Q : Wr → Prop} {p0 : Int} {p3 : List (S40)} {p4 : Int} {p5 : Int} {p6 : Int} {p7 : Int} {p8 : Int} {x6_3 : List Int} {x9_3 : Int} : Lp (spec_CrowdedSteps.l1 k p0 x6_3 x9_3 p3 p4 p5 p6 p7 p8 = some r) Q (fun k => ∀ {x6_3 : List Int} {x9_3 : Int}, spec_CrowdedSteps.l1 k p0 x6_3 x9_3 p3 p4 p5 p6 p7 p8 = some r → Q [(12, .p (.c (.rp (Tryz.f35.ntmps + 6)))), (2 * (Tryz.f35.ntmps + 6) + 1, .row 3 (.int .i64) x6_3), (18, .p (.c (.v (.int .i64 x9_3))))]) k [(12, .p (.c (.rp (Tryz.f35.ntmps + 6)))), (2 * (Tryz.f35.ntmps + 6) + 1, .row 3 (.int .i64) x6_3), (18, .p (.c (.v (.int .i64 x9_3))))] := ⟨fun j h => j h⟩
instance spec_CrowdedSteps.lp2 {k : Nat} {r : Int × Bool} {Q : Wr → Prop} {p0 : Int} {p2 : List Int} {p3 : Int} {x10_3 : Int} {x45_3 : Int} : Lp (spec_CrowdedSteps.l2 k p0 x10_3 p2 p3 x45_3 = some r) Q (fun k => ∀ {x10_3 : Int} {x45_3 : Int}, spec_CrowdedSteps.l2 k p0 x10_3 p2 p3 x45_3 = some r → Q [(20, .p (.c (.v (.int .i64 x10_3)))), (90, .p (.c (.v (.int .i64 x45_3))))]) k [(20, .p (.c (.v (.int .i64 x10_3)))), (90, .p (.c (.v (.int .i64 x45_3))))] := ⟨fun j h => j h⟩
set_option maxRecDepth 20000 in
set_option maxHeartbeats 2000000 in
theorem spec_CrowdedSteps.con (k : Nat) (l0 : List (S40)) (a1 : Int) (r1 : Int) (r2 : Bool) (H : spec_CrowdedSteps.f k l0 a1 = some (r1, r2)) : Con Tryz.prog 35 [.p (.c (.sl K40 l0)), .p (.c (.v (.int .i64 a1)))] (.tp [.c (.v (.int .i64 r1)), .c (.v (.bool r2))]) := by
  refine Con.mk' (fn := Tryz.f35) Tryz.func35 rfl (by kernel_rfl) rfl rfl rfl fun X w0 gs hF => ?_
  unfold spec_CrowdedSteps.f at H
  exact auto
instance spec_CrowdedSteps.ctr {k : Nat} {l0 : List (S40)} {a1 : Int} {t_ : (Int) × (Bool)} : Ctr (spec_CrowdedSteps.f k l0 a1 = some t_) (Con Tryz.prog 35 [.p (.c (.sl K40 l0)), .p (.c (.v (.int .i64 a1)))] (.tp [.c (.v (.int .i64 t_.1)), .c (.v (.bool t_.2))])) := ⟨fun h => spec_CrowdedSteps.con _ _ _ (t_.1) (t_.2) h⟩
/-! ### laws_qInts: function 36 -/
def laws_qInts.l0 : Nat → List Int → List Int → Int → Int → Option (Bool)
  | 0, _, _, _, _ => none
  | k + 1, x0, x1, x12, x13 => if x13 < x12 then (if 0 ≤ x13 then (if x13 < (x0.length : Int) then (if x13 < (x1.length : Int) then (if (rd x0 x13) = (rd x1 x13) then (laws_qInts.l0 k x0 x1 x12 (wrap64 (x13 + 1))) else (some false)) else (none)) else (none)) else (none)) else (some true)
def laws_qInts.f (k : Nat) (l0 : List Int) (l1 : List Int) : Option (Bool) := if (l0.length : Int) = (l1.length : Int) then (laws_qInts.l0 k l0 l1 (l0.length : Int) 0) else (some false)
instance laws_qInts.lp0 {k : Nat} {r : Bool} {Q : Wr → Prop} {p0 : List Int} {p1 : List Int} {p2 : Int} {x13_1 : Int} : Lp (laws_qInts.l0 k p0 p1 p2 x13_1 = some r) Q (fun k => ∀ {x13_1 : Int}, laws_qInts.l0 k p0 p1 p2 x13_1 = some r → Q [(26, .p (.c (.v (.int .i64 x13_1))))]) k [(26, .p (.c (.v (.int .i64 x13_1))))] := ⟨fun j h => j h⟩
set_option maxRecDepth 20000 in
set_option maxHeartbeats 2000000 in
theorem laws_qInts.con (k : Nat) (l0 : List Int) (l1 : List Int) (r : Bool) (H : laws_qInts.f k l0 l1 = some r) : Con Tryz.prog 36 [.p (.c (.sl (.int .i64) l0)), .p (.c (.sl (.int .i64) l1))] (.p (.c (.v (.bool r)))) := by
  refine Con.mk' (fn := Tryz.f36) Tryz.func36 rfl (by kernel_rfl) rfl rfl rfl fun X w0 gs hF => ?_
  unfold laws_qInts.f at H
  exact auto
instance laws_qInts.ctr {k : Nat} {l0 : List Int} {l1 : List Int} {r : Bool} : Ctr (laws_qInts.f k l0 l1 = some r) (Con Tryz.prog 36 [.p (.c (.sl (.int .i64) l0)), .p (.c (.sl (.int .i64) l1))] (.p (.c (.v (.bool r))))) := ⟨laws_qInts.con _ _ _ _⟩
/-! ### laws_qHas: function 37 -/
def laws_qHas.l0 : Nat → Int → List Int → Int → Int → Option (Bool)
  | 0, _, _, _, _ => none
  | k + 1, x1, x7, x8, x9 => if x9 < x8 then (if 0 ≤ x9 then (if x9 < (x7.length : Int) then (if (rd x7 x9) = x1 then (some true) else (laws_qHas.l0 k x1 x7 x8 (wrap64 (x9 + 1)))) else (none)) else (none)) else (some false)
def laws_qHas.f (k : Nat) (l0 : List Int) (a1 : Int) : Option (Bool) := laws_qHas.l0 k a1 l0 (l0.length : Int) 0
instance laws_qHas.lp0 {k : Nat} {r : Bool} {Q : Wr → Prop} {p0 : Int} {p1 : List Int} {p2 : Int} {x9_1 : Int} : Lp (laws_qHas.l0 k p0 p1 p2 x9_1 = some r) Q (fun k => ∀ {x9_1 : Int}, laws_qHas.l0 k p0 p1 p2 x9_1 = some r → Q [(18, .p (.c (.v (.int .i64 x9_1))))]) k [(18, .p (.c (.v (.int .i64 x9_1))))] := ⟨fun j h => j h⟩
set_option maxRecDepth 20000 in
set_option maxHeartbeats 2000000 in
theorem laws_qHas.con (k : Nat) (l0 : List Int) (a1 : Int) (r : Bool) (H : laws_qHas.f k l0 a1 = some r) : Con Tryz.prog 37 [.p (.c (.sl (.int .i64) l0)), .p (.c (.v (.int .i64 a1)))] (.p (.c (.v (.bool r)))) := by
  refine Con.mk' (fn := Tryz.f37) Tryz.func37 rfl (by kernel_rfl) rfl rfl rfl fun X w0 gs hF => ?_
  unfold laws_qHas.f at H
  exact auto
instance laws_qHas.ctr {k : Nat} {l0 : List Int} {a1 : Int} {r : Bool} : Ctr (laws_qHas.f k l0 a1 = some r) (Con Tryz.prog 37 [.p (.c (.sl (.int .i64) l0)), .p (.c (.v (.int .i64 a1)))] (.p (.c (.v (.bool r))))) := ⟨laws_qHas.con _ _ _ _⟩
end Go.Proofs.YtgjpphcbdbfhlaaGreat.L
