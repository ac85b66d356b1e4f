/- BY EV: what the Go functions compute (read off the print), and that their calls come to it. No condition. -/
import Derived.Test.YtlhhjdlaljmppaaGreatTEU
import Derived.Test.YtlhhjdlaljmppaaGreatT3
import Derived.Test.YtlhhjdlaljmppaaGreatT4
import Derived.Test.YtlhhjdlaljmppaaGreatT5
import Derived.Test.YtlhhjdlaljmppaaGreatT6
import Derived.Test.YtlhhjdlaljmppaaGreatT8
import Derived.Test.YtlhhjdlaljmppaaGreatT9
import Derived.Test.YtlhhjdlaljmppaaGreatT10
set_option linter.unusedVariables false
set_option linter.unusedSimpArgs false
namespace Go.Proofs.YtlhhjdlaljmppaaGreat.T
open Go.RowKit Go.Proofs Go.Proofs.YtlhhjdlaljmppaaGreatW.PrintWords Go.Proofs.YtlhhjdlaljmppaaGreatW.PrintLast EV
/-! ### spec_l1Cur_score: function 71 -/
mutual
def spec_l1Cur_score.l0 : Nat → List (S47) → Int → Int → List Int → Int → Int → Option ((List (S47)) × Int × Int)
  | 0, _, _, _, _, _, _ => none
  | k + 1, x3, x4, x5, x1000, x1001, x1002 => if (x3.length : Int) < x4 then (spec_l1Cur_score.j2 k x3 x4 x5 (decide (x5 < 90)) x1000 x1001 x1002) else (spec_l1Cur_score.j2 k x3 x4 x5 false x1000 x1001 x1002)
def spec_l1Cur_score.j2 : Nat → List (S47) → Int → Int → Bool → List Int → Int → Int → Option ((List (S47)) × Int × Int)
  | 0, _, _, _, _, _, _, _ => none
  | k + 1, x3, x4, x5, x20, x1000, x1001, x1002 => if x20 = true then ((spec_l1Cur_note.f x1000 x1001 x1002).bind fun bt344 => (if x4 = 30 then ((spec_l1Cur_pick.f x1000 bt344.2.2.2.1 bt344.2.2.2.2 9).bind fun bt350 => ((some (([] : List (S47)) : List (S47))).bind fun y353 => (if y353.length + x3.length < 5864062014805 then ((some (y353 ++ x3 : List (S47))).bind fun y356 => ((some (([(⟨wrap64 (48 + wrap64 (2 * Int.tmod (x3.length : Int) 10)), wrap64 (3 * (x3.length : Int)), wrap64 (1 + bt350.1)⟩ : S47)] : List (S47)) : List (S47))).bind fun y359 => (if y356.length + y359.length < 5864062014805 then ((spec_ntSorted.f k (y356 ++ y359)).bind fun bt365 => (if bt365.2 = true then (spec_l1Cur_score.l0 k bt365.1 x4 (wrap64 (x5 + 1)) x1000 bt350.2.1 bt350.2.2) else (spec_l1Cur_score.l0 k x3 x4 (wrap64 (x5 + 1)) x1000 bt350.2.1 bt350.2.2))) else (none)))) else (none)))) else ((some (([] : List (S47)) : List (S47))).bind fun y369 => (if y369.length + x3.length < 5864062014805 then ((some (y369 ++ x3 : List (S47))).bind fun y372 => ((some (([(⟨bt344.1, bt344.2.1, bt344.2.2.1⟩ : S47)] : List (S47)) : List (S47))).bind fun y375 => (if y372.length + y375.length < 5864062014805 then ((spec_ntSorted.f k (y372 ++ y375)).bind fun bt381 => (if bt381.2 = true then (spec_l1Cur_score.l0 k bt381.1 x4 (wrap64 (x5 + 1)) x1000 bt344.2.2.2.1 bt344.2.2.2.2) else (spec_l1Cur_score.l0 k x3 x4 (wrap64 (x5 + 1)) x1000 bt344.2.2.2.1 bt344.2.2.2.2))) else (none)))) else (none))))) else (some (x3, x1001, x1002))
end
def spec_l1Cur_score.f (k : Nat) (s0_0 : List Int) (s0_1 : Int) (s0_2 : Int) : Option ((List (S47)) × Int × Int) := (spec_l1Cur_pick.f s0_0 s0_1 s0_2 9).bind fun bt338 => ((spec_l1Cur_one.f s0_0 bt338.2.1 bt338.2.2 20).bind fun bt341 => (if bt341.1 = true then (spec_l1Cur_score.l0 k ([] : List (S47)) 30 0 s0_0 bt341.2.1 bt341.2.2) else (spec_l1Cur_score.l0 k ([] : List (S47)) bt338.1 0 s0_0 bt341.2.1 bt341.2.2)))
instance spec_l1Cur_score.lp0 {k : Nat} {r : (List (S47)) × Int × Int} {Q : Wr → Prop} {p1 : Int} {p3 : List Int} {x3_2 : List (S47)} {x5_2 : Int} {x1001_2 : Int} {x1002_2 : Int} : Lp (spec_l1Cur_score.l0 k x3_2 p1 x5_2 p3 x1001_2 x1002_2 = some r) Q (fun k => ∀ {x3_2 : List (S47)} {x5_2 : Int} {x1001_2 : Int} {x1002_2 : Int}, spec_l1Cur_score.l0 k x3_2 p1 x5_2 p3 x1001_2 x1002_2 = some r → Q [(6, .p (.c (.rp (Tryz.f71.ntmps + 3)))), (2 * (Tryz.f71.ntmps + 3) + 1, .row 47 K47 x3_2), (10, .p (.c (.v (.int .i64 x5_2)))), (0, .p (.c (.bx (2 * Tryz.f71.ntmps) 0))), (2 * (2 * Tryz.f71.ntmps) + 1, .mem 68 [.sl (.int .u8) p3, .v (.int .i64 x1001_2), .v (.int .u64 x1002_2)])]) k [(6, .p (.c (.rp (Tryz.f71.ntmps + 3)))), (2 * (Tryz.f71.ntmps + 3) + 1, .row 47 K47 x3_2), (10, .p (.c (.v (.int .i64 x5_2)))), (0, .p (.c (.bx (2 * Tryz.f71.ntmps) 0))), (2 * (2 * Tryz.f71.ntmps) + 1, .mem 68 [.sl (.int .u8) p3, .v (.int .i64 x1001_2), .v (.int .u64 x1002_2)])] := ⟨fun j h => j h⟩
set_option maxRecDepth 20000 in
set_option maxHeartbeats 2000000 in
theorem spec_l1Cur_score.con (k : Nat) (s0_0 : List Int) (s0_1 : Int) (s0_2 : Int) (r1 : List (S47)) (r2 : Int) (r3 : Int) (H : spec_l1Cur_score.f k s0_0 s0_1 s0_2 = some (r1, r2, r3)) : Con Tryz.prog 71 [.p (.ob 68 [.sl (.int .u8) s0_0, .v (.int .i64 s0_1), .v (.int .u64 s0_2)])] (.p (.c (.ow 47 K47 r1))) [(0, .ob 68 [.sl (.int .u8) s0_0, .v (.int .i64 r2), .v (.int .u64 r3)])] := by
  refine Con.mk' (fn := Tryz.f71) Tryz.func71 rfl (by kernel_rfl) rfl rfl rfl fun X w0 gs hF => ?_
  unfold spec_l1Cur_score.f at H
  exact auto
instance spec_l1Cur_score.ctr {k : Nat} {s0_0 : List Int} {s0_1 : Int} {s0_2 : Int} {t_ : (List (S47)) × (Int) × (Int)} : Ctr (spec_l1Cur_score.f k s0_0 s0_1 s0_2 = some t_) (Con Tryz.prog 71 [.p (.ob 68 [.sl (.int .u8) s0_0, .v (.int .i64 s0_1), .v (.int .u64 s0_2)])] (.p (.c (.ow 47 K47 t_.1))) [(0, .ob 68 [.sl (.int .u8) s0_0, .v (.int .i64 t_.2.1), .v (.int .u64 t_.2.2)])]) := ⟨fun h => spec_l1Cur_score.con _ _ _ _ (t_.1) (t_.2.1) (t_.2.2) h⟩
/-! ### impl_foldScore: function 32 -/
def impl_foldScore.l0 : Nat → List (S47) → Int → List (S47) → Int → Int → List Int → Int → Option ((List (S47)) × Int)
  | 0, _, _, _, _, _, _, _ => none
  | k + 1, x6, x7, x12, x13, x14, x395000, x395001 => if x14 < x13 then (if 0 ≤ x14 then (if x14 < (x12.length : Int) then ((impl_foldPitch.f k x395000 x395001 ((rd_T47 x12 x14).f0)).bind fun t400 => ((impl_Note.f x6).bind fun t401 => ((some (([(⟨t400, (rd_T47 x12 x14).f1, (rd_T47 x12 x14).f2⟩ : S47)] : List (S47)) : List (S47))).bind fun y404 => (if t401.length + y404.length < 5864062014805 then ((impl_sortedNotes.f (t401 ++ y404)).bind fun t410 => (if t400 = 0 then (impl_foldScore.l0 k x6 (wrap64 (x7 + 1)) x12 x13 (wrap64 (x14 + 1)) x395000 x395001) else ((impl_IsScore.f k t410).bind fun t413 => (if t413 = true then (impl_foldScore.l0 k t410 x7 x12 x13 (wrap64 (x14 + 1)) x395000 x395001) else (impl_foldScore.l0 k x6 (wrap64 (x7 + 1)) x12 x13 (wrap64 (x14 + 1)) x395000 x395001))))) else (none))))) else (none)) else (none)) else (some (x6, x7))
def impl_foldScore.f (k : Nat) (l0_0 : List Int) (a0_1 : Int) (l1 : List (S47)) : Option ((List (S47)) × Int) := impl_foldScore.l0 k (([] : List (S47))) 0 l1 (l1.length : Int) 0 l0_0 a0_1
instance impl_foldScore.lp0 {k : Nat} {r : (List (S47)) × Int} {Q : Wr → Prop} {p2 : List (S47)} {p3 : Int} {p5 : List Int} {p6 : Int} {x6_1 : List (S47)} {x7_1 : Int} {x14_1 : Int} : Lp (impl_foldScore.l0 k x6_1 x7_1 p2 p3 x14_1 p5 p6 = some r) Q (fun k => ∀ {x6_1 : List (S47)} {x7_1 : Int} {x14_1 : Int}, impl_foldScore.l0 k x6_1 x7_1 p2 p3 x14_1 p5 p6 = some r → Q [(12, .p (.c (.rp (Tryz.f32.ntmps + 6)))), (2 * (Tryz.f32.ntmps + 6) + 1, .row 47 K47 x6_1), (14, .p (.c (.v (.int .i64 x7_1)))), (28, .p (.c (.v (.int .i64 x14_1))))]) k [(12, .p (.c (.rp (Tryz.f32.ntmps + 6)))), (2 * (Tryz.f32.ntmps + 6) + 1, .row 47 K47 x6_1), (14, .p (.c (.v (.int .i64 x7_1)))), (28, .p (.c (.v (.int .i64 x14_1))))] := ⟨fun j h => j h⟩
set_option maxRecDepth 20000 in
set_option maxHeartbeats 2000000 in
theorem impl_foldScore.con (k : Nat) (l0_0 : List Int) (a0_1 : Int) (l1 : List (S47)) (r1 : List (S47)) (r2 : Int) (H : impl_foldScore.f k l0_0 a0_1 l1 = some (r1, r2)) : Con Tryz.prog 32 [.p (.ag [.sl (.int .i64) l0_0, .v (.int .i64 a0_1)]), .p (.c (.sl K47 l1))] (.tp [.c (.ow 47 K47 r1), .c (.v (.int .i64 r2))]) := by
  refine Con.mk' (fn := Tryz.f32) Tryz.func32 rfl (by kernel_rfl) rfl rfl rfl fun X w0 gs hF => ?_
  unfold impl_foldScore.f at H
  exact auto
instance impl_foldScore.ctr {k : Nat} {l0_0 : List Int} {a0_1 : Int} {l1 : List (S47)} {t_ : (List (S47)) × (Int)} : Ctr (impl_foldScore.f k l0_0 a0_1 l1 = some t_) (Con Tryz.prog 32 [.p (.ag [.sl (.int .i64) l0_0, .v (.int .i64 a0_1)]), .p (.c (.sl K47 l1))] (.tp [.c (.ow 47 K47 t_.1), .c (.v (.int .i64 t_.2))])) := ⟨fun h => impl_foldScore.con _ _ _ _ (t_.1) (t_.2) h⟩
/-! ### impl_FoldScore: function 13 -/
def impl_FoldScore.f (k : Nat) (l0_0 : List Int) (a0_1 : Int) (l1 : List (S47)) : Option ((List (S47)) × Int × Bool) := (impl_IsInstrument.f k l0_0 a0_1).bind fun t415 => (if t415 = true then ((impl_IsScore.f k l1).bind fun t416 => (if t416 = true then ((impl_foldScore.f k l0_0 a0_1 l1).bind fun bt417 => (some (bt417.1, bt417.2, true))) else (some (([] : List (S47)), 0, false)))) else (some (([] : List (S47)), 0, false)))
set_option maxRecDepth 20000 in
set_option maxHeartbeats 2000000 in
theorem impl_FoldScore.con (k : Nat) (l0_0 : List Int) (a0_1 : Int) (l1 : List (S47)) (r1 : List (S47)) (r2 : Int) (r3 : Bool) (H : impl_FoldScore.f k l0_0 a0_1 l1 = some (r1, r2, r3)) : Con Tryz.prog 13 [.p (.ag [.sl (.int .i64) l0_0, .v (.int .i64 a0_1)]), .p (.c (.sl K47 l1))] (.tp [.c (.ow 47 K47 r1), .c (.v (.int .i64 r2)), .c (.v (.bool r3))]) := by
  refine Con.mk' (fn := Tryz.f13) Tryz.func13 rfl (by kernel_rfl) rfl rfl rfl fun X w0 gs hF => ?_
  unfold impl_FoldScore.f at H
  exact auto
instance impl_FoldScore.ctr {k : Nat} {l0_0 : List Int} {a0_1 : Int} {l1 : List (S47)} {t_ : (List (S47)) × (Int) × (Bool)} : Ctr (impl_FoldScore.f k l0_0 a0_1 l1 = some t_) (Con Tryz.prog 13 [.p (.ag [.sl (.int .i64) l0_0, .v (.int .i64 a0_1)]), .p (.c (.sl K47 l1))] (.tp [.c (.ow 47 K47 t_.1), .c (.v (.int .i64 t_.2.1)), .c (.v (.bool t_.2.2))])) := ⟨fun h => impl_FoldScore.con _ _ _ _ (t_.1) (t_.2.1) (t_.2.2) h⟩
/-! ### spec_trFold: function 34 -/
mutual
def spec_trFold.l0 : Nat → Int → List (S47) → Int → List (S47) → Int → Int → List Int → Int → Option ((List (S47)) × Int)
  | 0, _, _, _, _, _, _, _, _ => none
  | k + 1, x2, x8, x9, x15, x16, x17, x422000, x422001 => if x17 < x16 then (if 0 ≤ x17 then (if x17 < (x15.length : Int) then ((spec_ntPitch.f (wrap64 (((rd_T47 x15 x17).f0) + x2))).bind fun t424 => (if t424 = true then ((spec_trNearest.f k x422000 x422001 (wrap64 (((rd_T47 x15 x17).f0) + x2)) 12).bind fun t425 => (spec_trFold.j1 k x2 x8 x9 t425 x15 x16 x17 x422000 x422001 ((rd_T47 x15 x17).f0) ((rd_T47 x15 x17).f1) ((rd_T47 x15 x17).f2))) else (spec_trFold.j1 k x2 x8 x9 (-1) x15 x16 x17 x422000 x422001 ((rd_T47 x15 x17).f0) ((rd_T47 x15 x17).f1) ((rd_T47 x15 x17).f2)))) else (none)) else (none)) else (some (x8, x9))
def spec_trFold.j1 : Nat → Int → List (S47) → Int → Int → List (S47) → Int → Int → List Int → Int → Int → Int → Int → Option ((List (S47)) × Int)
  | 0, _, _, _, _, _, _, _, _, _, _, _, _ => none
  | k + 1, x2, x8, x9, x12, x15, x16, x17, x422000, x422001, x424000, x424001, x424002 => (some (([] : List (S47)) : List (S47))).bind fun y426 => (if y426.length + x8.length < 5864062014805 then ((some (y426 ++ x8 : List (S47))).bind fun y429 => ((some (([(⟨x12, x424001, x424002⟩ : S47)] : List (S47)) : List (S47))).bind fun y432 => (if y429.length + y432.length < 5864062014805 then ((spec_ntSorted.f k (y429 ++ y432)).bind fun bt438 => (if bt438.2 = true then (spec_trFold.l0 k x2 bt438.1 x9 x15 x16 (wrap64 (x17 + 1)) x422000 x422001) else (spec_trFold.l0 k x2 x8 (wrap64 (x9 + 1)) x15 x16 (wrap64 (x17 + 1)) x422000 x422001))) else (none)))) else (none))
end
def spec_trFold.f (k : Nat) (l0_0 : List Int) (a0_1 : Int) (l1 : List (S47)) (a2 : Int) : Option ((List (S47)) × Int) := spec_trFold.l0 k a2 ([] : List (S47)) 0 l1 (l1.length : Int) 0 l0_0 a0_1
instance spec_trFold.lp0 {k : Nat} {r : (List (S47)) × Int} {Q : Wr → Prop} {p0 : Int} {p3 : List (S47)} {p4 : Int} {p6 : List Int} {p7 : Int} {x8_1 : List (S47)} {x9_1 : Int} {x17_1 : Int} : Lp (spec_trFold.l0 k p0 x8_1 x9_1 p3 p4 x17_1 p6 p7 = some r) Q (fun k => ∀ {x8_1 : List (S47)} {x9_1 : Int} {x17_1 : Int}, spec_trFold.l0 k p0 x8_1 x9_1 p3 p4 x17_1 p6 p7 = some r → Q [(16, .p (.c (.rp (Tryz.f34.ntmps + 8)))), (2 * (Tryz.f34.ntmps + 8) + 1, .row 47 K47 x8_1), (18, .p (.c (.v (.int .i64 x9_1)))), (34, .p (.c (.v (.int .i64 x17_1))))]) k [(16, .p (.c (.rp (Tryz.f34.ntmps + 8)))), (2 * (Tryz.f34.ntmps + 8) + 1, .row 47 K47 x8_1), (18, .p (.c (.v (.int .i64 x9_1)))), (34, .p (.c (.v (.int .i64 x17_1))))] := ⟨fun j h => j h⟩
set_option maxRecDepth 20000 in
set_option maxHeartbeats 2000000 in
theorem spec_trFold.con (k : Nat) (l0_0 : List Int) (a0_1 : Int) (l1 : List (S47)) (a2 : Int) (r1 : List (S47)) (r2 : Int) (H : spec_trFold.f k l0_0 a0_1 l1 a2 = some (r1, r2)) : Con Tryz.prog 34 [.p (.ag [.sl (.int .i64) l0_0, .v (.int .i64 a0_1)]), .p (.c (.sl K47 l1)), .p (.c (.v (.int .i64 a2)))] (.tp [.c (.ow 47 K47 r1), .c (.v (.int .i64 r2))]) := by
  refine Con.mk' (fn := Tryz.f34) Tryz.func34 rfl (by kernel_rfl) rfl rfl rfl fun X w0 gs hF => ?_
  unfold spec_trFold.f at H
  exact auto
instance spec_trFold.ctr {k : Nat} {l0_0 : List Int} {a0_1 : Int} {l1 : List (S47)} {a2 : Int} {t_ : (List (S47)) × (Int)} : Ctr (spec_trFold.f k l0_0 a0_1 l1 a2 = some t_) (Con Tryz.prog 34 [.p (.ag [.sl (.int .i64) l0_0, .v (.int .i64 a0_1)]), .p (.c (.sl K47 l1)), .p (.c (.v (.int .i64 a2)))] (.tp [.c (.ow 47 K47 t_.1), .c (.v (.int .i64 t_.2))])) := ⟨fun h => spec_trFold.con _ _ _ _ _ (t_.1) (t_.2) h⟩
/-! ### spec_FoldScore: function 14 -/
def spec_FoldScore.f (k : Nat) (l0_0 : List Int) (a0_1 : Int) (l1 : List (S47)) : Option ((List (S47)) × Int × Bool) := (spec_inAsked.f k l0_0 a0_1 l1).bind fun t443 => (if t443 = true then ((spec_trFold.f k l0_0 a0_1 l1 0).bind fun bt444 => (some (bt444.1, bt444.2, true))) else (some (([] : List (S47)), 0, false)))
set_option maxRecDepth 20000 in
set_option maxHeartbeats 2000000 in
theorem spec_FoldScore.con (k : Nat) (l0_0 : List Int) (a0_1 : Int) (l1 : List (S47)) (r1 : List (S47)) (r2 : Int) (r3 : Bool) (H : spec_FoldScore.f k l0_0 a0_1 l1 = some (r1, r2, r3)) : Con Tryz.prog 14 [.p (.ag [.sl (.int .i64) l0_0, .v (.int .i64 a0_1)]), .p (.c (.sl K47 l1))] (.tp [.c (.ow 47 K47 r1), .c (.v (.int .i64 r2)), .c (.v (.bool r3))]) := by
  refine Con.mk' (fn := Tryz.f14) Tryz.func14 rfl (by kernel_rfl) rfl rfl rfl fun X w0 gs hF => ?_
  unfold spec_FoldScore.f at H
  exact auto
instance spec_FoldScore.ctr {k : Nat} {l0_0 : List Int} {a0_1 : Int} {l1 : List (S47)} {t_ : (List (S47)) × (Int) × (Bool)} : Ctr (spec_FoldScore.f k l0_0 a0_1 l1 = some t_) (Con Tryz.prog 14 [.p (.ag [.sl (.int .i64) l0_0, .v (.int .i64 a0_1)]), .p (.c (.sl K47 l1))] (.tp [.c (.ow 47 K47 t_.1), .c (.v (.int .i64 t_.2.1)), .c (.v (.bool t_.2.2))])) := ⟨fun h => spec_FoldScore.con _ _ _ _ (t_.1) (t_.2.1) (t_.2.2) h⟩
/-! ### spec_BestFold: function 16 -/
def spec_BestFold.l0 : Nat → List (S47) → Int → Int → List Int → Int → Int → List Int → Int → Option (Int × Int × Bool)
  | 0, _, _, _, _, _, _, _, _ => none
  | k + 1, x1, x7, x8, x17, x18, x19, x458000, x458001 => if x19 < x18 then (if 0 ≤ x19 then (if x19 < (x17.length : Int) then ((spec_trFold.f k x458000 x458001 x1 (rd x17 x19)).bind fun bt463 => (if x8 < 0 then (spec_BestFold.l0 k x1 (rd x17 x19) bt463.2 x17 x18 (wrap64 (x19 + 1)) x458000 x458001) else (if bt463.2 < x8 then (spec_BestFold.l0 k x1 (rd x17 x19) bt463.2 x17 x18 (wrap64 (x19 + 1)) x458000 x458001) else (spec_BestFold.l0 k x1 x7 x8 x17 x18 (wrap64 (x19 + 1)) x458000 x458001)))) else (none)) else (none)) else (some (x7, x8, true))
def spec_BestFold.f (k : Nat) (l0_0 : List Int) (a0_1 : Int) (l1 : List (S47)) : Option (Int × Int × Bool) := (spec_inAsked.f k l0_0 a0_1 l1).bind fun t458 => (if t458 = true then ((spec_trOrder.f k 11).bind fun t459 => (spec_BestFold.l0 k l1 0 (-1) t459 (t459.length : Int) 0 l0_0 a0_1)) else (some (0, 0, false)))
instance spec_BestFold.lp0 {k : Nat} {r : Int × Int × Bool} {Q : Wr → Prop} {p0 : List (S47)} {p3 : List Int} {p4 : Int} {p6 : List Int} {p7 : Int} {x7_1 : Int} {x8_1 : Int} {x19_1 : Int} : Lp (spec_BestFold.l0 k p0 x7_1 x8_1 p3 p4 x19_1 p6 p7 = some r) Q (fun k => ∀ {x7_1 : Int} {x8_1 : Int} {x19_1 : Int}, spec_BestFold.l0 k p0 x7_1 x8_1 p3 p4 x19_1 p6 p7 = some r → Q [(14, .p (.c (.v (.int .i64 x7_1)))), (16, .p (.c (.v (.int .i64 x8_1)))), (38, .p (.c (.v (.int .i64 x19_1))))]) k [(14, .p (.c (.v (.int .i64 x7_1)))), (16, .p (.c (.v (.int .i64 x8_1)))), (38, .p (.c (.v (.int .i64 x19_1))))] := ⟨fun j h => j h⟩
set_option maxRecDepth 20000 in
set_option maxHeartbeats 2000000 in
theorem spec_BestFold.con (k : Nat) (l0_0 : List Int) (a0_1 : Int) (l1 : List (S47)) (r1 : Int) (r2 : Int) (r3 : Bool) (H : spec_BestFold.f k l0_0 a0_1 l1 = some (r1, r2, r3)) : Con Tryz.prog 16 [.p (.ag [.sl (.int .i64) l0_0, .v (.int .i64 a0_1)]), .p (.c (.sl K47 l1))] (.tp [.c (.v (.int .i64 r1)), .c (.v (.int .i64 r2)), .c (.v (.bool r3))]) := by
  refine Con.mk' (fn := Tryz.f16) Tryz.func16 rfl (by kernel_rfl) rfl rfl rfl fun X w0 gs hF => ?_
  unfold spec_BestFold.f at H
  exact auto
instance spec_BestFold.ctr {k : Nat} {l0_0 : List Int} {a0_1 : Int} {l1 : List (S47)} {t_ : (Int) × (Int) × (Bool)} : Ctr (spec_BestFold.f k l0_0 a0_1 l1 = some t_) (Con Tryz.prog 16 [.p (.ag [.sl (.int .i64) l0_0, .v (.int .i64 a0_1)]), .p (.c (.sl K47 l1))] (.tp [.c (.v (.int .i64 t_.1)), .c (.v (.int .i64 t_.2.1)), .c (.v (.bool t_.2.2))])) := ⟨fun h => spec_BestFold.con _ _ _ _ (t_.1) (t_.2.1) (t_.2.2) h⟩
end Go.Proofs.YtlhhjdlaljmppaaGreat.T
