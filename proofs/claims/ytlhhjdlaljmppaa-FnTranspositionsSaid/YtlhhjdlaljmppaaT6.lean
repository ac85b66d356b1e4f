/- BY EV: what the Go functions compute (read off the print), and that their calls come to it. No condition. -/
import Derived.Test.YtlhhjdlaljmppaaTEU
import Derived.Test.YtlhhjdlaljmppaaT4
import Derived.Test.YtlhhjdlaljmppaaT5
set_option linter.unusedVariables false
set_option linter.unusedSimpArgs false
namespace Go.Proofs.Ytlhhjdlaljmppaa.T
open Go.RowKit Go.Proofs Go.Proofs.YtlhhjdlaljmppaaW.PrintWords Go.Proofs.YtlhhjdlaljmppaaW.PrintLast EV
/-! ### spec_trLoss: function 29 -/
def spec_trLoss.l0 : Nat → Int → Int → List (S60) → Int → Int → List Int → Int → Option (Int)
  | 0, _, _, _, _, _, _, _ => none
  | k + 1, x2, x7, x10, x11, x12, x382000, x382001 => if x12 < x11 then (if 0 ≤ x12 then (if x12 < (x10.length : Int) then ((spec_inTrack.f k x382000 x382001 (wrap64 (((rd_T60 x10 x12).f0) + x2))).bind fun t384 => (if t384 < 0 then (spec_trLoss.l0 k x2 (wrap64 (x7 + 1)) x10 x11 (wrap64 (x12 + 1)) x382000 x382001) else (spec_trLoss.l0 k x2 x7 x10 x11 (wrap64 (x12 + 1)) x382000 x382001))) else (none)) else (none)) else (some x7)
def spec_trLoss.f (k : Nat) (l0_0 : List Int) (a0_1 : Int) (l1 : List (S60)) (a2 : Int) : Option (Int) := spec_trLoss.l0 k a2 0 l1 (l1.length : Int) 0 l0_0 a0_1
instance spec_trLoss.lp0 {k : Nat} {r : Int} {Q : Wr → Prop} {p0 : Int} {p2 : List (S60)} {p3 : Int} {p5 : List Int} {p6 : Int} {x7_1 : Int} {x12_1 : Int} : Lp (spec_trLoss.l0 k p0 x7_1 p2 p3 x12_1 p5 p6 = some r) Q (fun k => ∀ {x7_1 : Int} {x12_1 : Int}, spec_trLoss.l0 k p0 x7_1 p2 p3 x12_1 p5 p6 = some r → Q [(14, .p (.c (.v (.int .i64 x7_1)))), (24, .p (.c (.v (.int .i64 x12_1))))]) k [(14, .p (.c (.v (.int .i64 x7_1)))), (24, .p (.c (.v (.int .i64 x12_1))))] := ⟨fun j h => j h⟩
set_option maxRecDepth 8000 in
set_option maxHeartbeats 2000000 in
theorem spec_trLoss.con (k : Nat) (l0_0 : List Int) (a0_1 : Int) (l1 : List (S60)) (a2 : Int) (r : Int) (H : spec_trLoss.f k l0_0 a0_1 l1 a2 = some r) : Con Try.prog 29 [.p (.ag [.sl (.int .i64) l0_0, .v (.int .i64 a0_1)]), .p (.c (.sl K60 l1)), .p (.c (.v (.int .i64 a2)))] (.p (.c (.v (.int .i64 r)))) := by
  refine Con.mk' (fn := Try.f29) Try.func29 rfl (by kernel_rfl) rfl rfl rfl fun X w0 gs hF => ?_
  unfold spec_trLoss.f at H
  exact auto
instance spec_trLoss.ctr {k : Nat} {l0_0 : List Int} {a0_1 : Int} {l1 : List (S60)} {a2 : Int} {r : Int} : Ctr (spec_trLoss.f k l0_0 a0_1 l1 a2 = some r) (Con Try.prog 29 [.p (.ag [.sl (.int .i64) l0_0, .v (.int .i64 a0_1)]), .p (.c (.sl K60 l1)), .p (.c (.v (.int .i64 a2)))] (.p (.c (.v (.int .i64 r))))) := ⟨spec_trLoss.con _ _ _ _ _ _⟩
/-! ### spec_BestTransposition: function 7 -/
def spec_BestTransposition.l0 : Nat → List (S60) → Int → Int → List Int → Int → Int → List Int → Int → Option (Int × Int × Bool)
  | 0, _, _, _, _, _, _, _, _ => none
  | k + 1, x1, x7, x8, x16, x17, x18, x386000, x386001 => if x18 < x17 then (if 0 ≤ x18 then (if x18 < (x16.length : Int) then ((spec_trLoss.f k x386000 x386001 x1 (rd x16 x18)).bind fun t391 => (if x8 < 0 then (spec_BestTransposition.l0 k x1 (rd x16 x18) t391 x16 x17 (wrap64 (x18 + 1)) x386000 x386001) else (if t391 < x8 then (spec_BestTransposition.l0 k x1 (rd x16 x18) t391 x16 x17 (wrap64 (x18 + 1)) x386000 x386001) else (spec_BestTransposition.l0 k x1 x7 x8 x16 x17 (wrap64 (x18 + 1)) x386000 x386001)))) else (none)) else (none)) else (some (x7, x8, true))
def spec_BestTransposition.f (k : Nat) (l0_0 : List Int) (a0_1 : Int) (l1 : List (S60)) : Option (Int × Int × Bool) := (spec_inAsked.f k l0_0 a0_1 l1).bind fun t386 => (if t386 = true then ((spec_trOrder.f k 24).bind fun t387 => (spec_BestTransposition.l0 k l1 0 (-1) t387 (t387.length : Int) 0 l0_0 a0_1)) else (some (0, 0, false)))
instance spec_BestTransposition.lp0 {k : Nat} {r : Int × Int × Bool} {Q : Wr → Prop} {p0 : List (S60)} {p3 : List Int} {p4 : Int} {p6 : List Int} {p7 : Int} {x7_1 : Int} {x8_1 : Int} {x18_1 : Int} : Lp (spec_BestTransposition.l0 k p0 x7_1 x8_1 p3 p4 x18_1 p6 p7 = some r) Q (fun k => ∀ {x7_1 : Int} {x8_1 : Int} {x18_1 : Int}, spec_BestTransposition.l0 k p0 x7_1 x8_1 p3 p4 x18_1 p6 p7 = some r → Q [(14, .p (.c (.v (.int .i64 x7_1)))), (16, .p (.c (.v (.int .i64 x8_1)))), (36, .p (.c (.v (.int .i64 x18_1))))]) k [(14, .p (.c (.v (.int .i64 x7_1)))), (16, .p (.c (.v (.int .i64 x8_1)))), (36, .p (.c (.v (.int .i64 x18_1))))] := ⟨fun j h => j h⟩
set_option maxRecDepth 8000 in
set_option maxHeartbeats 2000000 in
theorem spec_BestTransposition.con (k : Nat) (l0_0 : List Int) (a0_1 : Int) (l1 : List (S60)) (r1 : Int) (r2 : Int) (r3 : Bool) (H : spec_BestTransposition.f k l0_0 a0_1 l1 = some (r1, r2, r3)) : Con Try.prog 7 [.p (.ag [.sl (.int .i64) l0_0, .v (.int .i64 a0_1)]), .p (.c (.sl K60 l1))] (.tp [.c (.v (.int .i64 r1)), .c (.v (.int .i64 r2)), .c (.v (.bool r3))]) := by
  refine Con.mk' (fn := Try.f7) Try.func7 rfl (by kernel_rfl) rfl rfl rfl fun X w0 gs hF => ?_
  unfold spec_BestTransposition.f at H
  exact auto
instance spec_BestTransposition.ctr {k : Nat} {l0_0 : List Int} {a0_1 : Int} {l1 : List (S60)} {t_ : (Int) × (Int) × (Bool)} : Ctr (spec_BestTransposition.f k l0_0 a0_1 l1 = some t_) (Con Try.prog 7 [.p (.ag [.sl (.int .i64) l0_0, .v (.int .i64 a0_1)]), .p (.c (.sl K60 l1))] (.tp [.c (.v (.int .i64 t_.1)), .c (.v (.int .i64 t_.2.1)), .c (.v (.bool t_.2.2))])) := ⟨fun h => spec_BestTransposition.con _ _ _ _ (t_.1) (t_.2.1) (t_.2.2) h⟩
/-! ### impl_LossTable: function 8 -/
mutual
def impl_LossTable.j0 : Nat → List (S60) → Bool → List Int → Int → Option (List Int × Bool)
  | 0, _, _, _, _ => none
  | k + 1, x1, x15, x393000, x393001 => if x15 = true then (some (([] : List Int), false)) else (impl_LossTable.l0 k x1 (([] : List Int)) (-24) x393000 x393001)
def impl_LossTable.l0 : Nat → List (S60) → List Int → Int → List Int → Int → Option (List Int × Bool)
  | 0, _, _, _, _, _ => none
  | k + 1, x1, x6, x7, x393000, x393001 => if x7 ≤ 24 then ((impl_transposeLoss.f k x393000 x393001 x1 x7).bind fun t398 => (if x6.length < 17592186044416 then (impl_LossTable.l0 k x1 (x6 ++ [t398]) (wrap64 (x7 + 1)) x393000 x393001) else (none))) else (some (x6, true))
end
def impl_LossTable.f (k : Nat) (l0_0 : List Int) (a0_1 : Int) (l1 : List (S60)) : Option (List Int × Bool) := (impl_IsInstrument.f k l0_0 a0_1).bind fun t393 => (if t393 = true then ((impl_IsScore.f k l1).bind fun t394 => (impl_LossTable.j0 k l1 (!t394) l0_0 a0_1)) else (impl_LossTable.j0 k l1 true l0_0 a0_1))
instance impl_LossTable.lp0 {k : Nat} {r : List Int × Bool} {Q : Wr → Prop} {p0 : List (S60)} {p3 : List Int} {p4 : Int} {x6_2 : List Int} {x7_2 : Int} : Lp (impl_LossTable.l0 k p0 x6_2 x7_2 p3 p4 = some r) Q (fun k => ∀ {x6_2 : List Int} {x7_2 : Int}, impl_LossTable.l0 k p0 x6_2 x7_2 p3 p4 = some r → Q [(12, .p (.c (.rp (Try.f8.ntmps + 6)))), (2 * (Try.f8.ntmps + 6) + 1, .row 3 (.int .i64) x6_2), (14, .p (.c (.v (.int .i64 x7_2))))]) k [(12, .p (.c (.rp (Try.f8.ntmps + 6)))), (2 * (Try.f8.ntmps + 6) + 1, .row 3 (.int .i64) x6_2), (14, .p (.c (.v (.int .i64 x7_2))))] := ⟨fun j h => j h⟩
set_option maxRecDepth 8000 in
set_option maxHeartbeats 2000000 in
theorem impl_LossTable.con (k : Nat) (l0_0 : List Int) (a0_1 : Int) (l1 : List (S60)) (r1 : List Int) (r2 : Bool) (H : impl_LossTable.f k l0_0 a0_1 l1 = some (r1, r2)) : Con Try.prog 8 [.p (.ag [.sl (.int .i64) l0_0, .v (.int .i64 a0_1)]), .p (.c (.sl K60 l1))] (.tp [.c (.ow 3 (.int .i64) r1), .c (.v (.bool r2))]) := by
  refine Con.mk' (fn := Try.f8) Try.func8 rfl (by kernel_rfl) rfl rfl rfl fun X w0 gs hF => ?_
  unfold impl_LossTable.f at H
  exact auto
instance impl_LossTable.ctr {k : Nat} {l0_0 : List Int} {a0_1 : Int} {l1 : List (S60)} {t_ : (List Int) × (Bool)} : Ctr (impl_LossTable.f k l0_0 a0_1 l1 = some t_) (Con Try.prog 8 [.p (.ag [.sl (.int .i64) l0_0, .v (.int .i64 a0_1)]), .p (.c (.sl K60 l1))] (.tp [.c (.ow 3 (.int .i64) t_.1), .c (.v (.bool t_.2))])) := ⟨fun h => impl_LossTable.con _ _ _ _ (t_.1) (t_.2) h⟩
/-! ### spec_LossTable: function 9 -/
def spec_LossTable.l0 : Nat → List (S60) → List Int → Int → List Int → Int → Option (List Int × Bool)
  | 0, _, _, _, _, _ => none
  | k + 1, x1, x6, x7, x403000, x403001 => if x7 ≤ 24 then ((spec_trLoss.f k x403000 x403001 x1 x7).bind fun t404 => (if x6.length < 17592186044416 then (spec_LossTable.l0 k x1 (x6 ++ [t404]) (wrap64 (x7 + 1)) x403000 x403001) else (none))) else (some (x6, true))
def spec_LossTable.f (k : Nat) (l0_0 : List Int) (a0_1 : Int) (l1 : List (S60)) : Option (List Int × Bool) := (spec_inAsked.f k l0_0 a0_1 l1).bind fun t403 => (if t403 = true then (spec_LossTable.l0 k l1 ([] : List Int) (-24) l0_0 a0_1) else (some (([] : List Int), false)))
instance spec_LossTable.lp0 {k : Nat} {r : List Int × Bool} {Q : Wr → Prop} {p0 : List (S60)} {p3 : List Int} {p4 : Int} {x6_1 : List Int} {x7_1 : Int} : Lp (spec_LossTable.l0 k p0 x6_1 x7_1 p3 p4 = some r) Q (fun k => ∀ {x6_1 : List Int} {x7_1 : Int}, spec_LossTable.l0 k p0 x6_1 x7_1 p3 p4 = some r → Q [(12, .p (.c (.rp (Try.f9.ntmps + 6)))), (2 * (Try.f9.ntmps + 6) + 1, .row 3 (.int .i64) x6_1), (14, .p (.c (.v (.int .i64 x7_1))))]) k [(12, .p (.c (.rp (Try.f9.ntmps + 6)))), (2 * (Try.f9.ntmps + 6) + 1, .row 3 (.int .i64) x6_1), (14, .p (.c (.v (.int .i64 x7_1))))] := ⟨fun j h => j h⟩
set_option maxRecDepth 8000 in
set_option maxHeartbeats 2000000 in
theorem spec_LossTable.con (k : Nat) (l0_0 : List Int) (a0_1 : Int) (l1 : List (S60)) (r1 : List Int) (r2 : Bool) (H : spec_LossTable.f k l0_0 a0_1 l1 = some (r1, r2)) : Con Try.prog 9 [.p (.ag [.sl (.int .i64) l0_0, .v (.int .i64 a0_1)]), .p (.c (.sl K60 l1))] (.tp [.c (.ow 3 (.int .i64) r1), .c (.v (.bool r2))]) := by
  refine Con.mk' (fn := Try.f9) Try.func9 rfl (by kernel_rfl) rfl rfl rfl fun X w0 gs hF => ?_
  unfold spec_LossTable.f at H
  exact auto
instance spec_LossTable.ctr {k : Nat} {l0_0 : List Int} {a0_1 : Int} {l1 : List (S60)} {t_ : (List Int) × (Bool)} : Ctr (spec_LossTable.f k l0_0 a0_1 l1 = some t_) (Con Try.prog 9 [.p (.ag [.sl (.int .i64) l0_0, .v (.int .i64 a0_1)]), .p (.c (.sl K60 l1))] (.tp [.c (.ow 3 (.int .i64) t_.1), .c (.v (.bool t_.2))])) := ⟨fun h => spec_LossTable.con _ _ _ _ (t_.1) (t_.2) h⟩
/-! ### impl_FullTranspositions: function 10 -/
mutual
def impl_FullTranspositions.j0 : Nat → List (S60) → Bool → List Int → Int → Option (List Int × Bool)
  | 0, _, _, _, _ => none
  | k + 1, x1, x15, x409000, x409001 => if x15 = true then (some (([] : List Int), false)) else (impl_FullTranspositions.l0 k x1 (([] : List Int)) (-24) x409000 x409001)
def impl_FullTranspositions.l0 : Nat → List (S60) → List Int → Int → List Int → Int → Option (List Int × Bool)
  | 0, _, _, _, _, _ => none
  | k + 1, x1, x6, x7, x409000, x409001 => if x7 ≤ 24 then ((impl_transposeLoss.f k x409000 x409001 x1 x7).bind fun t414 => (if t414 = 0 then (if x6.length < 17592186044416 then (impl_FullTranspositions.l0 k x1 (x6 ++ [x7]) (wrap64 (x7 + 1)) x409000 x409001) else (none)) else (impl_FullTranspositions.l0 k x1 x6 (wrap64 (x7 + 1)) x409000 x409001))) else (some (x6, true))
end
def impl_FullTranspositions.f (k : Nat) (l0_0 : List Int) (a0_1 : Int) (l1 : List (S60)) : Option (List Int × Bool) := (impl_IsInstrument.f k l0_0 a0_1).bind fun t409 => (if t409 = true then ((impl_IsScore.f k l1).bind fun t410 => (impl_FullTranspositions.j0 k l1 (!t410) l0_0 a0_1)) else (impl_FullTranspositions.j0 k l1 true l0_0 a0_1))
instance impl_FullTranspositions.lp0 {k : Nat} {r : List Int × Bool} {Q : Wr → Prop} {p0 : List (S60)} {p3 : List Int} {p4 : Int} {x6_2 : List Int} {x7_2 : Int} : Lp (impl_FullTranspositions.l0 k p0 x6_2 x7_2 p3 p4 = some r) Q (fun k => ∀ {x6_2 : List Int} {x7_2 : Int}, impl_FullTranspositions.l0 k p0 x6_2 x7_2 p3 p4 = some r → Q [(12, .p (.c (.rp (Try.f10.ntmps + 6)))), (2 * (Try.f10.ntmps + 6) + 1, .row 3 (.int .i64) x6_2), (14, .p (.c (.v (.int .i64 x7_2))))]) k [(12, .p (.c (.rp (Try.f10.ntmps + 6)))), (2 * (Try.f10.ntmps + 6) + 1, .row 3 (.int .i64) x6_2), (14, .p (.c (.v (.int .i64 x7_2))))] := ⟨fun j h => j h⟩
set_option maxRecDepth 8000 in
set_option maxHeartbeats 2000000 in
theorem impl_FullTranspositions.con (k : Nat) (l0_0 : List Int) (a0_1 : Int) (l1 : List (S60)) (r1 : List Int) (r2 : Bool) (H : impl_FullTranspositions.f k l0_0 a0_1 l1 = some (r1, r2)) : Con Try.prog 10 [.p (.ag [.sl (.int .i64) l0_0, .v (.int .i64 a0_1)]), .p (.c (.sl K60 l1))] (.tp [.c (.ow 3 (.int .i64) r1), .c (.v (.bool r2))]) := by
  refine Con.mk' (fn := Try.f10) Try.func10 rfl (by kernel_rfl) rfl rfl rfl fun X w0 gs hF => ?_
  unfold impl_FullTranspositions.f at H
  exact auto
instance impl_FullTranspositions.ctr {k : Nat} {l0_0 : List Int} {a0_1 : Int} {l1 : List (S60)} {t_ : (List Int) × (Bool)} : Ctr (impl_FullTranspositions.f k l0_0 a0_1 l1 = some t_) (Con Try.prog 10 [.p (.ag [.sl (.int .i64) l0_0, .v (.int .i64 a0_1)]), .p (.c (.sl K60 l1))] (.tp [.c (.ow 3 (.int .i64) t_.1), .c (.v (.bool t_.2))])) := ⟨fun h => impl_FullTranspositions.con _ _ _ _ (t_.1) (t_.2) h⟩
/-! ### spec_FullTranspositions: function 11 -/
def spec_FullTranspositions.l0 : Nat → List (S60) → List Int → Int → List Int → Int → Option (List Int × Bool)
  | 0, _, _, _, _, _ => none
  | k + 1, x1, x6, x7, x419000, x419001 => if x7 ≤ 24 then ((spec_trLoss.f k x419000 x419001 x1 x7).bind fun t420 => (if t420 = 0 then (if x6.length < 17592186044416 then (spec_FullTranspositions.l0 k x1 (x6 ++ [x7]) (wrap64 (x7 + 1)) x419000 x419001) else (none)) else (spec_FullTranspositions.l0 k x1 x6 (wrap64 (x7 + 1)) x419000 x419001))) else (some (x6, true))
def spec_FullTranspositions.f (k : Nat) (l0_0 : List Int) (a0_1 : Int) (l1 : List (S60)) : Option (List Int × Bool) := (spec_inAsked.f k l0_0 a0_1 l1).bind fun t419 => (if t419 = true then (spec_FullTranspositions.l0 k l1 ([] : List Int) (-24) l0_0 a0_1) else (some (([] : List Int), false)))
instance spec_FullTranspositions.lp0 {k : Nat} {r : List Int × Bool} {Q : Wr → Prop} {p0 : List (S60)} {p3 : List Int} {p4 : Int} {x6_1 : List Int} {x7_1 : Int} : Lp (spec_FullTranspositions.l0 k p0 x6_1 x7_1 p3 p4 = some r) Q (fun k => ∀ {x6_1 : List Int} {x7_1 : Int}, spec_FullTranspositions.l0 k p0 x6_1 x7_1 p3 p4 = some r → Q [(12, .p (.c (.rp (Try.f11.ntmps + 6)))), (2 * (Try.f11.ntmps + 6) + 1, .row 3 (.int .i64) x6_1), (14, .p (.c (.v (.int .i64 x7_1))))]) k [(12, .p (.c (.rp (Try.f11.ntmps + 6)))), (2 * (Try.f11.ntmps + 6) + 1, .row 3 (.int .i64) x6_1), (14, .p (.c (.v (.int .i64 x7_1))))] := ⟨fun j h => j h⟩
set_option maxRecDepth 8000 in
set_option maxHeartbeats 2000000 in
theorem spec_FullTranspositions.con (k : Nat) (l0_0 : List Int) (a0_1 : Int) (l1 : List (S60)) (r1 : List Int) (r2 : Bool) (H : spec_FullTranspositions.f k l0_0 a0_1 l1 = some (r1, r2)) : Con Try.prog 11 [.p (.ag [.sl (.int .i64) l0_0, .v (.int .i64 a0_1)]), .p (.c (.sl K60 l1))] (.tp [.c (.ow 3 (.int .i64) r1), .c (.v (.bool r2))]) := by
  refine Con.mk' (fn := Try.f11) Try.func11 rfl (by kernel_rfl) rfl rfl rfl fun X w0 gs hF => ?_
  unfold spec_FullTranspositions.f at H
  exact auto
instance spec_FullTranspositions.ctr {k : Nat} {l0_0 : List Int} {a0_1 : Int} {l1 : List (S60)} {t_ : (List Int) × (Bool)} : Ctr (spec_FullTranspositions.f k l0_0 a0_1 l1 = some t_) (Con Try.prog 11 [.p (.ag [.sl (.int .i64) l0_0, .v (.int .i64 a0_1)]), .p (.c (.sl K60 l1))] (.tp [.c (.ow 3 (.int .i64) t_.1), .c (.v (.bool t_.2))])) := ⟨fun h => spec_FullTranspositions.con _ _ _ _ (t_.1) (t_.2) h⟩
/-! ### laws_sameInts: function 12 -/
def laws_sameInts.l0 : Nat → List Int → List Int → Int → Int → Option (Bool)
  | 0, _, _, _, _ => none
  | k + 1, x0, x1, x12, x13 => if x13 < x12 then (if 0 ≤ x13 then (if x13 < (x0.length : Int) then (if x13 < (x1.length : Int) then (if (rd x0 x13) = (rd x1 x13) then (laws_sameInts.l0 k x0 x1 x12 (wrap64 (x13 + 1))) else (some false)) else (none)) else (none)) else (none)) else (some true)
def laws_sameInts.f (k : Nat) (l0 : List Int) (l1 : List Int) : Option (Bool) := if (l0.length : Int) = (l1.length : Int) then (laws_sameInts.l0 k l0 l1 (l0.length : Int) 0) else (some false)
instance laws_sameInts.lp0 {k : Nat} {r : Bool} {Q : Wr → Prop} {p0 : List Int} {p1 : List Int} {p2 : Int} {x13_1 : Int} : Lp (laws_sameInts.l0 k p0 p1 p2 x13_1 = some r) Q (fun k => ∀ {x13_1 : Int}, laws_sameInts.l0 k p0 p1 p2 x13_1 = some r → Q [(26, .p (.c (.v (.int .i64 x13_1))))]) k [(26, .p (.c (.v (.int .i64 x13_1))))] := ⟨fun j h => j h⟩
set_option maxRecDepth 8000 in
set_option maxHeartbeats 2000000 in
theorem laws_sameInts.con (k : Nat) (l0 : List Int) (l1 : List Int) (r : Bool) (H : laws_sameInts.f k l0 l1 = some r) : Con Try.prog 12 [.p (.c (.sl (.int .i64) l0)), .p (.c (.sl (.int .i64) l1))] (.p (.c (.v (.bool r)))) := by
  refine Con.mk' (fn := Try.f12) Try.func12 rfl (by kernel_rfl) rfl rfl rfl fun X w0 gs hF => ?_
  unfold laws_sameInts.f at H
  exact auto
instance laws_sameInts.ctr {k : Nat} {l0 : List Int} {l1 : List Int} {r : Bool} : Ctr (laws_sameInts.f k l0 l1 = some r) (Con Try.prog 12 [.p (.c (.sl (.int .i64) l0)), .p (.c (.sl (.int .i64) l1))] (.p (.c (.v (.bool r))))) := ⟨laws_sameInts.con _ _ _ _⟩
/-! ### impl_isBy: function 30 -/
def impl_isBy.f (a0 : Int) : Option (Bool) := if a0 ≥ (-24) then (some (decide (a0 ≤ 24))) else (some false)
set_option maxRecDepth 8000 in
set_option maxHeartbeats 2000000 in
theorem impl_isBy.con (a0 : Int) (r : Bool) (H : impl_isBy.f a0 = some r) : Con Try.prog 30 [.p (.c (.v (.int .i64 a0)))] (.p (.c (.v (.bool r)))) := by
  refine Con.mk' (fn := Try.f30) Try.func30 rfl (by kernel_rfl) rfl rfl rfl fun X w0 gs hF => ?_
  unfold impl_isBy.f at H
  exact auto
instance impl_isBy.ctr {a0 : Int} {r : Bool} : Ctr (impl_isBy.f a0 = some r) (Con Try.prog 30 [.p (.c (.v (.int .i64 a0)))] (.p (.c (.v (.bool r))))) := ⟨impl_isBy.con _ _⟩
/-! ### impl_TransposeLoss: function 13 -/
def impl_TransposeLoss.f (k : Nat) (l0_0 : List Int) (a0_1 : Int) (l1 : List (S60)) (a2 : Int) : Option (Int × Bool) := (impl_IsInstrument.f k l0_0 a0_1).bind fun t427 => (if t427 = true then ((impl_IsScore.f k l1).bind fun t428 => (if t428 = true then ((impl_isBy.f a2).bind fun t429 => (if t429 = true then ((impl_transposeLoss.f k l0_0 a0_1 l1 a2).bind fun t430 => (some (t430, true))) else (some (0, false)))) else (some (0, false)))) else (some (0, false)))
set_option maxRecDepth 8000 in
set_option maxHeartbeats 2000000 in
theorem impl_TransposeLoss.con (k : Nat) (l0_0 : List Int) (a0_1 : Int) (l1 : List (S60)) (a2 : Int) (r1 : Int) (r2 : Bool) (H : impl_TransposeLoss.f k l0_0 a0_1 l1 a2 = some (r1, r2)) : Con Try.prog 13 [.p (.ag [.sl (.int .i64) l0_0, .v (.int .i64 a0_1)]), .p (.c (.sl K60 l1)), .p (.c (.v (.int .i64 a2)))] (.tp [.c (.v (.int .i64 r1)), .c (.v (.bool r2))]) := by
  refine Con.mk' (fn := Try.f13) Try.func13 rfl (by kernel_rfl) rfl rfl rfl fun X w0 gs hF => ?_
  unfold impl_TransposeLoss.f at H
  exact auto
instance impl_TransposeLoss.ctr {k : Nat} {l0_0 : List Int} {a0_1 : Int} {l1 : List (S60)} {a2 : Int} {t_ : (Int) × (Bool)} : Ctr (impl_TransposeLoss.f k l0_0 a0_1 l1 a2 = some t_) (Con Try.prog 13 [.p (.ag [.sl (.int .i64) l0_0, .v (.int .i64 a0_1)]), .p (.c (.sl K60 l1)), .p (.c (.v (.int .i64 a2)))] (.tp [.c (.v (.int .i64 t_.1)), .c (.v (.bool t_.2))])) := ⟨fun h => impl_TransposeLoss.con _ _ _ _ _ (t_.1) (t_.2) h⟩
/-! ### laws_pIn: function 14 -/
def laws_pIn.l0 : Nat → Int → List Int → Int → Int → Option (Bool)
  | 0, _, _, _, _ => none
  | k + 1, x1, x7, x8, x9 => if x9 < x8 then (if 0 ≤ x9 then (if x9 < (x7.length : Int) then (if (rd x7 x9) = x1 then (some true) else (laws_pIn.l0 k x1 x7 x8 (wrap64 (x9 + 1)))) else (none)) else (none)) else (some false)
def laws_pIn.f (k : Nat) (l0 : List Int) (a1 : Int) : Option (Bool) := laws_pIn.l0 k a1 l0 (l0.length : Int) 0
instance laws_pIn.lp0 {k : Nat} {r : Bool} {Q : Wr → Prop} {p0 : Int} {p1 : List Int} {p2 : Int} {x9_1 : Int} : Lp (laws_pIn.l0 k p0 p1 p2 x9_1 = some r) Q (fun k => ∀ {x9_1 : Int}, laws_pIn.l0 k p0 p1 p2 x9_1 = some r → Q [(18, .p (.c (.v (.int .i64 x9_1))))]) k [(18, .p (.c (.v (.int .i64 x9_1))))] := ⟨fun j h => j h⟩
set_option maxRecDepth 8000 in
set_option maxHeartbeats 2000000 in
theorem laws_pIn.con (k : Nat) (l0 : List Int) (a1 : Int) (r : Bool) (H : laws_pIn.f k l0 a1 = some r) : Con Try.prog 14 [.p (.c (.sl (.int .i64) l0)), .p (.c (.v (.int .i64 a1)))] (.p (.c (.v (.bool r)))) := by
  refine Con.mk' (fn := Try.f14) Try.func14 rfl (by kernel_rfl) rfl rfl rfl fun X w0 gs hF => ?_
  unfold laws_pIn.f at H
  exact auto
instance laws_pIn.ctr {k : Nat} {l0 : List Int} {a1 : Int} {r : Bool} : Ctr (laws_pIn.f k l0 a1 = some r) (Con Try.prog 14 [.p (.c (.sl (.int .i64) l0)), .p (.c (.v (.int .i64 a1)))] (.p (.c (.v (.bool r))))) := ⟨laws_pIn.con _ _ _ _⟩
end Go.Proofs.Ytlhhjdlaljmppaa.T
