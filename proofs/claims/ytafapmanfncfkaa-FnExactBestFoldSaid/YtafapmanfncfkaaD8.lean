/- BY EV: what the Go functions compute (read off the print), and that their calls come to it. No condition. -/
import Derived.Test.YtafapmanfncfkaaDEU
import Derived.Test.YtafapmanfncfkaaD2
import Derived.Test.YtafapmanfncfkaaD3
import Derived.Test.YtafapmanfncfkaaD4
import Derived.Test.YtafapmanfncfkaaD5
import Derived.Test.YtafapmanfncfkaaD6
import Derived.Test.YtafapmanfncfkaaD7
set_option linter.unusedVariables false
set_option linter.unusedSimpArgs false
namespace Go.Proofs.Ytafapmanfncfkaa.D
open Go.RowKit Go.Proofs Go.Proofs.YtafapmanfncfkaaW.PrintWords Go.Proofs.YtafapmanfncfkaaW.PrintLast EV
/-! ### spec_trFold: function 38 -/
mutual
def spec_trFold.l0 : Nat → Int → List (S55) → Int → List (S55) → Int → Int → List Int → Int → Option ((List (S55)) × Int)
  | 0, _, _, _, _, _, _, _, _ => none
  | k + 1, x2, x8, x9, x15, x16, x17, x197000, x197001 => if x17 < x16 then (if 0 ≤ x17 then (if x17 < (x15.length : Int) then ((spec_ntPitch.f (wrap64 (((rd_T55 x15 x17).f0) + x2))).bind fun t199 => (if t199 = true then ((spec_trNearest.f k x197000 x197001 (wrap64 (((rd_T55 x15 x17).f0) + x2)) 12).bind fun t200 => (spec_trFold.j1 k x2 x8 x9 t200 x15 x16 x17 x197000 x197001 ((rd_T55 x15 x17).f0) ((rd_T55 x15 x17).f1) ((rd_T55 x15 x17).f2))) else (spec_trFold.j1 k x2 x8 x9 (-1) x15 x16 x17 x197000 x197001 ((rd_T55 x15 x17).f0) ((rd_T55 x15 x17).f1) ((rd_T55 x15 x17).f2)))) else (none)) else (none)) else (some (x8, x9))
def spec_trFold.j1 : Nat → Int → List (S55) → Int → Int → List (S55) → Int → Int → List Int → Int → Int → Int → Int → Option ((List (S55)) × Int)
  | 0, _, _, _, _, _, _, _, _, _, _, _, _ => none
  | k + 1, x2, x8, x9, x12, x15, x16, x17, x197000, x197001, x199000, x199001, x199002 => (some (([] : List (S55)) : List (S55))).bind fun y201 => (if y201.length + x8.length < 5864062014805 then ((some (y201 ++ x8 : List (S55))).bind fun y204 => ((some (([(⟨x12, x199001, x199002⟩ : S55)] : List (S55)) : List (S55))).bind fun y207 => (if y204.length + y207.length < 5864062014805 then ((spec_ntSorted.f k (y204 ++ y207)).bind fun bt213 => (if bt213.2 = true then (spec_trFold.l0 k x2 bt213.1 x9 x15 x16 (wrap64 (x17 + 1)) x197000 x197001) else (spec_trFold.l0 k x2 x8 (wrap64 (x9 + 1)) x15 x16 (wrap64 (x17 + 1)) x197000 x197001))) else (none)))) else (none))
end
def spec_trFold.f (k : Nat) (l0_0 : List Int) (a0_1 : Int) (l1 : List (S55)) (a2 : Int) : Option ((List (S55)) × Int) := spec_trFold.l0 k a2 ([] : List (S55)) 0 l1 (l1.length : Int) 0 l0_0 a0_1
instance spec_trFold.lp0 {k : Nat} {r : (List (S55)) × Int} {Q : Wr → Prop} {p0 : Int} {p3 : List (S55)} {p4 : Int} {p6 : List Int} {p7 : Int} {x8_1 : List (S55)} {x9_1 : Int} {x17_1 : Int} : Lp (spec_trFold.l0 k p0 x8_1 x9_1 p3 p4 x17_1 p6 p7 = some r) Q (fun k => ∀ {x8_1 : List (S55)} {x9_1 : Int} {x17_1 : Int}, spec_trFold.l0 k p0 x8_1 x9_1 p3 p4 x17_1 p6 p7 = some r → Q [(16, .p (.c (.rp (Try.f38.ntmps + 8)))), (2 * (Try.f38.ntmps + 8) + 1, .row 55 K55 x8_1), (18, .p (.c (.v (.int .i64 x9_1)))), (34, .p (.c (.v (.int .i64 x17_1))))]) k [(16, .p (.c (.rp (Try.f38.ntmps + 8)))), (2 * (Try.f38.ntmps + 8) + 1, .row 55 K55 x8_1), (18, .p (.c (.v (.int .i64 x9_1)))), (34, .p (.c (.v (.int .i64 x17_1))))] := ⟨fun j h => j h⟩
set_option maxRecDepth 8000 in
set_option maxHeartbeats 2000000 in
theorem spec_trFold.con (k : Nat) (l0_0 : List Int) (a0_1 : Int) (l1 : List (S55)) (a2 : Int) (r1 : List (S55)) (r2 : Int) (H : spec_trFold.f k l0_0 a0_1 l1 a2 = some (r1, r2)) : Con Try.prog 38 [.p (.ag [.sl (.int .i64) l0_0, .v (.int .i64 a0_1)]), .p (.c (.sl K55 l1)), .p (.c (.v (.int .i64 a2)))] (.tp [.c (.ow 55 K55 r1), .c (.v (.int .i64 r2))]) := by
  refine Con.mk' (fn := Try.f38) Try.func38 rfl (by kernel_rfl) rfl rfl rfl fun X w0 gs hF => ?_
  unfold spec_trFold.f at H
  exact auto
instance spec_trFold.ctr {k : Nat} {l0_0 : List Int} {a0_1 : Int} {l1 : List (S55)} {a2 : Int} {t_ : (List (S55)) × (Int)} : Ctr (spec_trFold.f k l0_0 a0_1 l1 a2 = some t_) (Con Try.prog 38 [.p (.ag [.sl (.int .i64) l0_0, .v (.int .i64 a0_1)]), .p (.c (.sl K55 l1)), .p (.c (.v (.int .i64 a2)))] (.tp [.c (.ow 55 K55 t_.1), .c (.v (.int .i64 t_.2))])) := ⟨fun h => spec_trFold.con _ _ _ _ _ (t_.1) (t_.2) h⟩
/-! ### spec_BestFold: function 14 -/
def spec_BestFold.l0 : Nat → List (S55) → Int → Int → List Int → Int → Int → List Int → Int → Option (Int × Int × Bool)
  | 0, _, _, _, _, _, _, _, _ => none
  | k + 1, x1, x7, x8, x17, x18, x19, x218000, x218001 => if x19 < x18 then (if 0 ≤ x19 then (if x19 < (x17.length : Int) then ((spec_trFold.f k x218000 x218001 x1 (rd x17 x19)).bind fun bt223 => (if x8 < 0 then (spec_BestFold.l0 k x1 (rd x17 x19) bt223.2 x17 x18 (wrap64 (x19 + 1)) x218000 x218001) else (if bt223.2 < x8 then (spec_BestFold.l0 k x1 (rd x17 x19) bt223.2 x17 x18 (wrap64 (x19 + 1)) x218000 x218001) else (spec_BestFold.l0 k x1 x7 x8 x17 x18 (wrap64 (x19 + 1)) x218000 x218001)))) else (none)) else (none)) else (some (x7, x8, true))
def spec_BestFold.f (k : Nat) (l0_0 : List Int) (a0_1 : Int) (l1 : List (S55)) : Option (Int × Int × Bool) := (spec_inAsked.f k l0_0 a0_1 l1).bind fun t218 => (if t218 = true then ((spec_trOrder.f k 11).bind fun t219 => (spec_BestFold.l0 k l1 0 (-1) t219 (t219.length : Int) 0 l0_0 a0_1)) else (some (0, 0, false)))
instance spec_BestFold.lp0 {k : Nat} {r : Int × Int × Bool} {Q : Wr → Prop} {p0 : List (S55)} {p3 : List Int} {p4 : Int} {p6 : List Int} {p7 : Int} {x7_1 : Int} {x8_1 : Int} {x19_1 : Int} : Lp (spec_BestFold.l0 k p0 x7_1 x8_1 p3 p4 x19_1 p6 p7 = some r) Q (fun k => ∀ {x7_1 : Int} {x8_1 : Int} {x19_1 : Int}, spec_BestFold.l0 k p0 x7_1 x8_1 p3 p4 x19_1 p6 p7 = some r → Q [(14, .p (.c (.v (.int .i64 x7_1)))), (16, .p (.c (.v (.int .i64 x8_1)))), (38, .p (.c (.v (.int .i64 x19_1))))]) k [(14, .p (.c (.v (.int .i64 x7_1)))), (16, .p (.c (.v (.int .i64 x8_1)))), (38, .p (.c (.v (.int .i64 x19_1))))] := ⟨fun j h => j h⟩
set_option maxRecDepth 8000 in
set_option maxHeartbeats 2000000 in
theorem spec_BestFold.con (k : Nat) (l0_0 : List Int) (a0_1 : Int) (l1 : List (S55)) (r1 : Int) (r2 : Int) (r3 : Bool) (H : spec_BestFold.f k l0_0 a0_1 l1 = some (r1, r2, r3)) : Con Try.prog 14 [.p (.ag [.sl (.int .i64) l0_0, .v (.int .i64 a0_1)]), .p (.c (.sl K55 l1))] (.tp [.c (.v (.int .i64 r1)), .c (.v (.int .i64 r2)), .c (.v (.bool r3))]) := by
  refine Con.mk' (fn := Try.f14) Try.func14 rfl (by kernel_rfl) rfl rfl rfl fun X w0 gs hF => ?_
  unfold spec_BestFold.f at H
  exact auto
instance spec_BestFold.ctr {k : Nat} {l0_0 : List Int} {a0_1 : Int} {l1 : List (S55)} {t_ : (Int) × (Int) × (Bool)} : Ctr (spec_BestFold.f k l0_0 a0_1 l1 = some t_) (Con Try.prog 14 [.p (.ag [.sl (.int .i64) l0_0, .v (.int .i64 a0_1)]), .p (.c (.sl K55 l1))] (.tp [.c (.v (.int .i64 t_.1)), .c (.v (.int .i64 t_.2.1)), .c (.v (.bool t_.2.2))])) := ⟨fun h => spec_BestFold.con _ _ _ _ (t_.1) (t_.2.1) (t_.2.2) h⟩
/-! ### impl_foldScore: function 41 -/
def impl_foldScore.l0 : Nat → List (S55) → Int → List (S55) → Int → Int → List Int → Int → Option ((List (S55)) × Int)
  | 0, _, _, _, _, _, _, _ => none
  | k + 1, x6, x7, x12, x13, x14, x236000, x236001 => if x14 < x13 then (if 0 ≤ x14 then (if x14 < (x12.length : Int) then ((impl_foldPitch.f k x236000 x236001 ((rd_T55 x12 x14).f0)).bind fun t241 => ((impl_Note.f x6).bind fun t242 => ((some (([(⟨t241, (rd_T55 x12 x14).f1, (rd_T55 x12 x14).f2⟩ : S55)] : List (S55)) : List (S55))).bind fun y245 => (if t242.length + y245.length < 5864062014805 then ((impl_sortedNotes.f (t242 ++ y245)).bind fun t251 => (if t241 = 0 then (impl_foldScore.l0 k x6 (wrap64 (x7 + 1)) x12 x13 (wrap64 (x14 + 1)) x236000 x236001) else ((impl_IsScore.f k t251).bind fun t254 => (if t254 = true then (impl_foldScore.l0 k t251 x7 x12 x13 (wrap64 (x14 + 1)) x236000 x236001) else (impl_foldScore.l0 k x6 (wrap64 (x7 + 1)) x12 x13 (wrap64 (x14 + 1)) x236000 x236001))))) else (none))))) else (none)) else (none)) else (some (x6, x7))
def impl_foldScore.f (k : Nat) (l0_0 : List Int) (a0_1 : Int) (l1 : List (S55)) : Option ((List (S55)) × Int) := impl_foldScore.l0 k (([] : List (S55))) 0 l1 (l1.length : Int) 0 l0_0 a0_1
instance impl_foldScore.lp0 {k : Nat} {r : (List (S55)) × Int} {Q : Wr → Prop} {p2 : List (S55)} {p3 : Int} {p5 : List Int} {p6 : Int} {x6_1 : List (S55)} {x7_1 : Int} {x14_1 : Int} : Lp (impl_foldScore.l0 k x6_1 x7_1 p2 p3 x14_1 p5 p6 = some r) Q (fun k => ∀ {x6_1 : List (S55)} {x7_1 : Int} {x14_1 : Int}, impl_foldScore.l0 k x6_1 x7_1 p2 p3 x14_1 p5 p6 = some r → Q [(12, .p (.c (.rp (Try.f41.ntmps + 6)))), (2 * (Try.f41.ntmps + 6) + 1, .row 55 K55 x6_1), (14, .p (.c (.v (.int .i64 x7_1)))), (28, .p (.c (.v (.int .i64 x14_1))))]) k [(12, .p (.c (.rp (Try.f41.ntmps + 6)))), (2 * (Try.f41.ntmps + 6) + 1, .row 55 K55 x6_1), (14, .p (.c (.v (.int .i64 x7_1)))), (28, .p (.c (.v (.int .i64 x14_1))))] := ⟨fun j h => j h⟩
set_option maxRecDepth 8000 in
set_option maxHeartbeats 2000000 in
theorem impl_foldScore.con (k : Nat) (l0_0 : List Int) (a0_1 : Int) (l1 : List (S55)) (r1 : List (S55)) (r2 : Int) (H : impl_foldScore.f k l0_0 a0_1 l1 = some (r1, r2)) : Con Try.prog 41 [.p (.ag [.sl (.int .i64) l0_0, .v (.int .i64 a0_1)]), .p (.c (.sl K55 l1))] (.tp [.c (.ow 55 K55 r1), .c (.v (.int .i64 r2))]) := by
  refine Con.mk' (fn := Try.f41) Try.func41 rfl (by kernel_rfl) rfl rfl rfl fun X w0 gs hF => ?_
  unfold impl_foldScore.f at H
  exact auto
instance impl_foldScore.ctr {k : Nat} {l0_0 : List Int} {a0_1 : Int} {l1 : List (S55)} {t_ : (List (S55)) × (Int)} : Ctr (impl_foldScore.f k l0_0 a0_1 l1 = some t_) (Con Try.prog 41 [.p (.ag [.sl (.int .i64) l0_0, .v (.int .i64 a0_1)]), .p (.c (.sl K55 l1))] (.tp [.c (.ow 55 K55 t_.1), .c (.v (.int .i64 t_.2))])) := ⟨fun h => impl_foldScore.con _ _ _ _ (t_.1) (t_.2) h⟩
end Go.Proofs.Ytafapmanfncfkaa.D
