/- BY EV: what the Go functions compute (read off the print), and that their calls come to it. No condition. -/
import Derived.Test.YtlhhjdlaljmppaaGreatTEU
import Derived.Test.YtlhhjdlaljmppaaGreatT3
import Derived.Test.YtlhhjdlaljmppaaGreatT4
set_option linter.unusedVariables false
set_option linter.unusedSimpArgs false
namespace Go.Proofs.YtlhhjdlaljmppaaGreat.T
open Go.RowKit Go.Proofs Go.Proofs.YtlhhjdlaljmppaaGreatW.PrintWords Go.Proofs.YtlhhjdlaljmppaaGreatW.PrintLast EV
/-! ### spec_FoldPitch: function 7 -/
def spec_FoldPitch.f (k : Nat) (l0_0 : List Int) (a0_1 : Int) (a1 : Int) : Option (Int × Bool) := (spec_inGood.f k l0_0 a0_1).bind fun t258 => (if t258 = true then ((spec_ntPitch.f a1).bind fun t259 => (if t259 = true then ((spec_trNearest.f k l0_0 a0_1 a1 12).bind fun t260 => (if t260 < 0 then (some (0, false)) else ((spec_trNearest.f k l0_0 a0_1 a1 12).bind fun t261 => (some (t261, true))))) else (some (0, false)))) else (some (0, false)))
set_option maxRecDepth 20000 in
set_option maxHeartbeats 2000000 in
theorem spec_FoldPitch.con (k : Nat) (l0_0 : List Int) (a0_1 : Int) (a1 : Int) (r1 : Int) (r2 : Bool) (H : spec_FoldPitch.f k l0_0 a0_1 a1 = some (r1, r2)) : Con Tryz.prog 7 [.p (.ag [.sl (.int .i64) l0_0, .v (.int .i64 a0_1)]), .p (.c (.v (.int .i64 a1)))] (.tp [.c (.v (.int .i64 r1)), .c (.v (.bool r2))]) := by
  refine Con.mk' (fn := Tryz.f7) Tryz.func7 rfl (by kernel_rfl) rfl rfl rfl fun X w0 gs hF => ?_
  unfold spec_FoldPitch.f at H
  exact auto
instance spec_FoldPitch.ctr {k : Nat} {l0_0 : List Int} {a0_1 : Int} {a1 : Int} {t_ : (Int) × (Bool)} : Ctr (spec_FoldPitch.f k l0_0 a0_1 a1 = some t_) (Con Tryz.prog 7 [.p (.ag [.sl (.int .i64) l0_0, .v (.int .i64 a0_1)]), .p (.c (.v (.int .i64 a1)))] (.tp [.c (.v (.int .i64 t_.1)), .c (.v (.bool t_.2))])) := ⟨fun h => spec_FoldPitch.con _ _ _ _ (t_.1) (t_.2) h⟩
/-! ### impl_NearestPitch: function 8 -/
mutual
def impl_NearestPitch.j0 : Nat → Int → Bool → List Int → Int → Option (Int × Bool)
  | 0, _, _, _, _ => none
  | k + 1, x1, x16, x263000, x263001 => if x16 = true then (some (0, false)) else (if 0 < (x263000.length : Int) then (impl_NearestPitch.l0 k x1 (rd x263000 0) x263000 (x263000.length : Int) 0) else (none))
def impl_NearestPitch.l0 : Nat → Int → Int → List Int → Int → Int → Option (Int × Bool)
  | 0, _, _, _, _, _ => none
  | k + 1, x1, x6, x22, x23, x24 => if x24 < x23 then (if 0 ≤ x24 then (if x24 < (x22.length : Int) then ((impl_distance.f (rd x22 x24) x1).bind fun t267 => ((impl_distance.f x6 x1).bind fun t268 => (if t267 < t268 then (impl_NearestPitch.l0 k x1 (rd x22 x24) x22 x23 (wrap64 (x24 + 1))) else (impl_NearestPitch.l0 k x1 x6 x22 x23 (wrap64 (x24 + 1)))))) else (none)) else (none)) else (some (x6, true))
end
def impl_NearestPitch.f (k : Nat) (l0_0 : List Int) (a0_1 : Int) (a1 : Int) : Option (Int × Bool) := (impl_IsInstrument.f k l0_0 a0_1).bind fun t263 => (if t263 = true then ((impl_isPitch.f a1).bind fun t264 => (impl_NearestPitch.j0 k a1 (!t264) l0_0 a0_1)) else (impl_NearestPitch.j0 k a1 true l0_0 a0_1))
instance impl_NearestPitch.lp0 {k : Nat} {r : Int × Bool} {Q : Wr → Prop} {p0 : Int} {p2 : List Int} {p3 : Int} {x6_2 : Int} {x24_2 : Int} : Lp (impl_NearestPitch.l0 k p0 x6_2 p2 p3 x24_2 = some r) Q (fun k => ∀ {x6_2 : Int} {x24_2 : Int}, impl_NearestPitch.l0 k p0 x6_2 p2 p3 x24_2 = some r → Q [(12, .p (.c (.v (.int .i64 x6_2)))), (48, .p (.c (.v (.int .i64 x24_2))))]) k [(12, .p (.c (.v (.int .i64 x6_2)))), (48, .p (.c (.v (.int .i64 x24_2))))] := ⟨fun j h => j h⟩
set_option maxRecDepth 20000 in
set_option maxHeartbeats 2000000 in
theorem impl_NearestPitch.con (k : Nat) (l0_0 : List Int) (a0_1 : Int) (a1 : Int) (r1 : Int) (r2 : Bool) (H : impl_NearestPitch.f k l0_0 a0_1 a1 = some (r1, r2)) : Con Tryz.prog 8 [.p (.ag [.sl (.int .i64) l0_0, .v (.int .i64 a0_1)]), .p (.c (.v (.int .i64 a1)))] (.tp [.c (.v (.int .i64 r1)), .c (.v (.bool r2))]) := by
  refine Con.mk' (fn := Tryz.f8) Tryz.func8 rfl (by kernel_rfl) rfl rfl rfl fun X w0 gs hF => ?_
  unfold impl_NearestPitch.f at H
  exact auto
instance impl_NearestPitch.ctr {k : Nat} {l0_0 : List Int} {a0_1 : Int} {a1 : Int} {t_ : (Int) × (Bool)} : Ctr (impl_NearestPitch.f k l0_0 a0_1 a1 = some t_) (Con Tryz.prog 8 [.p (.ag [.sl (.int .i64) l0_0, .v (.int .i64 a0_1)]), .p (.c (.v (.int .i64 a1)))] (.tp [.c (.v (.int .i64 t_.1)), .c (.v (.bool t_.2))])) := ⟨fun h => impl_NearestPitch.con _ _ _ _ (t_.1) (t_.2) h⟩
/-! ### spec_NearestPitch: function 9 -/
def spec_NearestPitch.f (k : Nat) (l0_0 : List Int) (a0_1 : Int) (a1 : Int) : Option (Int × Bool) := (spec_inGood.f k l0_0 a0_1).bind fun t270 => (if t270 = true then ((spec_ntPitch.f a1).bind fun t271 => (if t271 = true then ((spec_trNearest.f k l0_0 a0_1 a1 1).bind fun t272 => (some (t272, true))) else (some (0, false)))) else (some (0, false)))
set_option maxRecDepth 20000 in
set_option maxHeartbeats 2000000 in
theorem spec_NearestPitch.con (k : Nat) (l0_0 : List Int) (a0_1 : Int) (a1 : Int) (r1 : Int) (r2 : Bool) (H : spec_NearestPitch.f k l0_0 a0_1 a1 = some (r1, r2)) : Con Tryz.prog 9 [.p (.ag [.sl (.int .i64) l0_0, .v (.int .i64 a0_1)]), .p (.c (.v (.int .i64 a1)))] (.tp [.c (.v (.int .i64 r1)), .c (.v (.bool r2))]) := by
  refine Con.mk' (fn := Tryz.f9) Tryz.func9 rfl (by kernel_rfl) rfl rfl rfl fun X w0 gs hF => ?_
  unfold spec_NearestPitch.f at H
  exact auto
instance spec_NearestPitch.ctr {k : Nat} {l0_0 : List Int} {a0_1 : Int} {a1 : Int} {t_ : (Int) × (Bool)} : Ctr (spec_NearestPitch.f k l0_0 a0_1 a1 = some t_) (Con Tryz.prog 9 [.p (.ag [.sl (.int .i64) l0_0, .v (.int .i64 a0_1)]), .p (.c (.v (.int .i64 a1)))] (.tp [.c (.v (.int .i64 t_.1)), .c (.v (.bool t_.2))])) := ⟨fun h => spec_NearestPitch.con _ _ _ _ (t_.1) (t_.2) h⟩
/-! ### laws_pIn: function 10 -/
def laws_pIn.l0 : Nat → Int → List Int → Int → Int → Option (Bool)
  | 0, _, _, _, _ => none
  | k + 1, x1, x7, x8, x9 => if x9 < x8 then (if 0 ≤ x9 then (if x9 < (x7.length : Int) then (if (rd x7 x9) = x1 then (some true) else (laws_pIn.l0 k x1 x7 x8 (wrap64 (x9 + 1)))) else (none)) else (none)) else (some false)
def laws_pIn.f (k : Nat) (l0 : List Int) (a1 : Int) : Option (Bool) := laws_pIn.l0 k a1 l0 (l0.length : Int) 0
instance laws_pIn.lp0 {k : Nat} {r : Bool} {Q : Wr → Prop} {p0 : Int} {p1 : List Int} {p2 : Int} {x9_1 : Int} : Lp (laws_pIn.l0 k p0 p1 p2 x9_1 = some r) Q (fun k => ∀ {x9_1 : Int}, laws_pIn.l0 k p0 p1 p2 x9_1 = some r → Q [(18, .p (.c (.v (.int .i64 x9_1))))]) k [(18, .p (.c (.v (.int .i64 x9_1))))] := ⟨fun j h => j h⟩
set_option maxRecDepth 20000 in
set_option maxHeartbeats 2000000 in
theorem laws_pIn.con (k : Nat) (l0 : List Int) (a1 : Int) (r : Bool) (H : laws_pIn.f k l0 a1 = some r) : Con Tryz.prog 10 [.p (.c (.sl (.int .i64) l0)), .p (.c (.v (.int .i64 a1)))] (.p (.c (.v (.bool r)))) := by
  refine Con.mk' (fn := Tryz.f10) Tryz.func10 rfl (by kernel_rfl) rfl rfl rfl fun X w0 gs hF => ?_
  unfold laws_pIn.f at H
  exact auto
instance laws_pIn.ctr {k : Nat} {l0 : List Int} {a1 : Int} {r : Bool} : Ctr (laws_pIn.f k l0 a1 = some r) (Con Tryz.prog 10 [.p (.c (.sl (.int .i64) l0)), .p (.c (.v (.int .i64 a1)))] (.p (.c (.v (.bool r))))) := ⟨laws_pIn.con _ _ _ _⟩
/-! ### laws_pAbs: function 11 -/
def laws_pAbs.f (a0 : Int) : Option (Int) := if a0 < 0 then (some (wrap64 (-a0))) else (some a0)
set_option maxRecDepth 20000 in
set_option maxHeartbeats 2000000 in
theorem laws_pAbs.con (a0 : Int) (r : Int) (H : laws_pAbs.f a0 = some r) : Con Tryz.prog 11 [.p (.c (.v (.int .i64 a0)))] (.p (.c (.v (.int .i64 r)))) := by
  refine Con.mk' (fn := Tryz.f11) Tryz.func11 rfl (by kernel_rfl) rfl rfl rfl fun X w0 gs hF => ?_
  unfold laws_pAbs.f at H
  exact auto
instance laws_pAbs.ctr {a0 : Int} {r : Int} : Ctr (laws_pAbs.f a0 = some r) (Con Tryz.prog 11 [.p (.c (.v (.int .i64 a0)))] (.p (.c (.v (.int .i64 r))))) := ⟨laws_pAbs.con _ _⟩
/-! ### impl_IsNote: function 41 -/
def impl_IsNote.f (a0_0 : Int) (a0_1 : Int) (a0_2 : Int) : Option (Bool) := if a0_0 ≥ 24 then (if a0_0 ≤ 96 then (if a0_1 ≥ 0 then (if a0_1 ≤ 999 then (if a0_2 ≥ 1 then (some (decide (a0_2 ≤ 99))) else (some false)) else (some false)) else (some false)) else (some false)) else (some false)
set_option maxRecDepth 20000 in
set_option maxHeartbeats 2000000 in
theorem impl_IsNote.con (a0_0 : Int) (a0_1 : Int) (a0_2 : Int) (r : Bool) (H : impl_IsNote.f a0_0 a0_1 a0_2 = some r) : Con Tryz.prog 41 [.p (.ag [.v (.int .i64 a0_0), .v (.int .i64 a0_1), .v (.int .i64 a0_2)])] (.p (.c (.v (.bool r)))) := by
  refine Con.mk' (fn := Tryz.f41) Tryz.func41 rfl (by kernel_rfl) rfl rfl rfl fun X w0 gs hF => ?_
  unfold impl_IsNote.f at H
  exact auto
instance impl_IsNote.ctr {a0_0 : Int} {a0_1 : Int} {a0_2 : Int} {r : Bool} : Ctr (impl_IsNote.f a0_0 a0_1 a0_2 = some r) (Con Tryz.prog 41 [.p (.ag [.v (.int .i64 a0_0), .v (.int .i64 a0_1), .v (.int .i64 a0_2)])] (.p (.c (.v (.bool r))))) := ⟨impl_IsNote.con _ _ _ _⟩
/-! ### impl_noteLess: function 42 -/
def impl_noteLess.f (a0_0 : Int) (a0_1 : Int) (a0_2 : Int) (a1_0 : Int) (a1_1 : Int) (a1_2 : Int) : Option (Bool) := if a0_1 = a1_1 then (some (decide (a0_0 < a1_0))) else (some (decide (a0_1 < a1_1)))
set_option maxRecDepth 20000 in
set_option maxHeartbeats 2000000 in
theorem impl_noteLess.con (a0_0 : Int) (a0_1 : Int) (a0_2 : Int) (a1_0 : Int) (a1_1 : Int) (a1_2 : Int) (r : Bool) (H : impl_noteLess.f a0_0 a0_1 a0_2 a1_0 a1_1 a1_2 = some r) : Con Tryz.prog 42 [.p (.ag [.v (.int .i64 a0_0), .v (.int .i64 a0_1), .v (.int .i64 a0_2)]), .p (.ag [.v (.int .i64 a1_0), .v (.int .i64 a1_1), .v (.int .i64 a1_2)])] (.p (.c (.v (.bool r)))) := by
  refine Con.mk' (fn := Tryz.f42) Tryz.func42 rfl (by kernel_rfl) rfl rfl rfl fun X w0 gs hF => ?_
  unfold impl_noteLess.f at H
  exact auto
instance impl_noteLess.ctr {a0_0 : Int} {a0_1 : Int} {a0_2 : Int} {a1_0 : Int} {a1_1 : Int} {a1_2 : Int} {r : Bool} : Ctr (impl_noteLess.f a0_0 a0_1 a0_2 a1_0 a1_1 a1_2 = some r) (Con Tryz.prog 42 [.p (.ag [.v (.int .i64 a0_0), .v (.int .i64 a0_1), .v (.int .i64 a0_2)]), .p (.ag [.v (.int .i64 a1_0), .v (.int .i64 a1_1), .v (.int .i64 a1_2)])] (.p (.c (.v (.bool r))))) := ⟨impl_noteLess.con _ _ _ _ _ _ _⟩
theorem impl_noteLess.calls (a0_0 : Int) (a0_1 : Int) (a0_2 : Int) (a1_0 : Int) (a1_1 : Int) (a1_2 : Int) (r : Bool) (w : World) (h : impl_noteLess.f a0_0 a0_1 a0_2 a1_0 a1_1 a1_2 = some r) :
    Calls Tryz.prog 42 #[.agg #[.int .i64 a0_0, .int .i64 a0_1, .int .i64 a0_2], .agg #[.int .i64 a1_0, .int .i64 a1_1, .int .i64 a1_2]] w fun e w' => e = .returned (.bool r) ∧ Below w.heap.size w w' :=
  (impl_noteLess.con a0_0 a0_1 a0_2 a1_0 a1_1 a1_2 r h).val rfl (show Args.relg (fun _ => False) w _ [.agg #[.int .i64 a0_0, .int .i64 a0_1, .int .i64 a0_2], .agg #[.int .i64 a1_0, .int .i64 a1_1, .int .i64 a1_2]] [.int .i64 a0_0, .int .i64 a0_1, .int .i64 a0_2, .int .i64 a1_0, .int .i64 a1_1, .int .i64 a1_2] from ⟨_, _, rfl, ⟨rfl, rfl, rfl, ⟨rfl, rfl, ⟨rfl, rfl, trivial⟩⟩⟩, ⟨_, _, rfl, ⟨rfl, rfl, rfl, ⟨rfl, rfl, ⟨rfl, rfl, trivial⟩⟩⟩, rfl⟩⟩)
/-! ### impl_noteEnd: function 43 -/
def impl_noteEnd.f (a0_0 : Int) (a0_1 : Int) (a0_2 : Int) : Option (Int) := some (wrap64 (a0_1 + a0_2))
set_option maxRecDepth 20000 in
set_option maxHeartbeats 2000000 in
theorem impl_noteEnd.con (a0_0 : Int) (a0_1 : Int) (a0_2 : Int) (r : Int) (H : impl_noteEnd.f a0_0 a0_1 a0_2 = some r) : Con Tryz.prog 43 [.p (.ag [.v (.int .i64 a0_0), .v (.int .i64 a0_1), .v (.int .i64 a0_2)])] (.p (.c (.v (.int .i64 r)))) := by
  refine Con.mk' (fn := Tryz.f43) Tryz.func43 rfl (by kernel_rfl) rfl rfl rfl fun X w0 gs hF => ?_
  unfold impl_noteEnd.f at H
  exact auto
instance impl_noteEnd.ctr {a0_0 : Int} {a0_1 : Int} {a0_2 : Int} {r : Int} : Ctr (impl_noteEnd.f a0_0 a0_1 a0_2 = some r) (Con Tryz.prog 43 [.p (.ag [.v (.int .i64 a0_0), .v (.int .i64 a0_1), .v (.int .i64 a0_2)])] (.p (.c (.v (.int .i64 r))))) := ⟨impl_noteEnd.con _ _ _ _⟩
/-! ### impl_IsScore: function 21 -/
mutual
def impl_IsScore.l0 : Nat → List (S47) → List (S47) → Int → Int → Option (Bool)
  | 0, _, _, _, _ => none
  | k + 1, x0, x10, x11, x12 => if x12 < x11 then (if 0 ≤ x12 then (if x12 < (x10.length : Int) then ((impl_IsNote.f ((rd_T47 x10 x12).f0) ((rd_T47 x10 x12).f1) ((rd_T47 x10 x12).f2)).bind fun t280 => (if t280 = true then (if x12 > 0 then (if 0 ≤ (wrap64 (x12 - 1)) then (if (wrap64 (x12 - 1)) < (x0.length : Int) then ((impl_noteLess.f ((rd_T47 x0 (wrap64 (x12 - 1))).f0) ((rd_T47 x0 (wrap64 (x12 - 1))).f1) ((rd_T47 x0 (wrap64 (x12 - 1))).f2) ((rd_T47 x10 x12).f0) ((rd_T47 x10 x12).f1) ((rd_T47 x10 x12).f2)).bind fun t282 => (impl_IsScore.j1 k x0 x12 x10 x11 x12 (!t282) ((rd_T47 x10 x12).f0) ((rd_T47 x10 x12).f1) ((rd_T47 x10 x12).f2))) else (none)) else (none)) else (impl_IsScore.j1 k x0 x12 x10 x11 x12 false ((rd_T47 x10 x12).f0) ((rd_T47 x10 x12).f1) ((rd_T47 x10 x12).f2))) else (impl_IsScore.j1 k x0 x12 x10 x11 x12 true ((rd_T47 x10 x12).f0) ((rd_T47 x10 x12).f1) ((rd_T47 x10 x12).f2)))) else (none)) else (none)) else (some true)
def impl_IsScore.j1 : Nat → List (S47) → Int → List (S47) → Int → Int → Bool → Int → Int → Int → Option (Bool)
  | 0, _, _, _, _, _, _, _, _, _ => none
  | k + 1, x0, x3, x10, x11, x12, x33, x280000, x280001, x280002 => if x33 = true then (some false) else (if 0 ≤ x3 then (if x3 ≤ (x0.length : Int) then ((some (x0.take (x3 : Int).toNat : List (S47))).bind fun y283 => (impl_IsScore.l1 k x0 x10 x11 x12 y283 (y283.length : Int) 0 x280000 x280001 x280002)) else (none)) else (none))
def impl_IsScore.l1 : Nat → List (S47) → List (S47) → Int → Int → List (S47) → Int → Int → Int → Int → Int → Option (Bool)
  | 0, _, _, _, _, _, _, _, _, _, _ => none
  | k + 1, x0, x10, x11, x12, x36, x37, x38, x280000, x280001, x280002 => if x38 < x37 then (if 0 ≤ x38 then (if x38 < (x36.length : Int) then (if ((rd_T47 x36 x38).f0) = x280000 then ((impl_noteEnd.f ((rd_T47 x36 x38).f0) ((rd_T47 x36 x38).f1) ((rd_T47 x36 x38).f2)).bind fun t289 => (if t289 > x280001 then (some false) else (impl_IsScore.l1 k x0 x10 x11 x12 x36 x37 (wrap64 (x38 + 1)) x280000 x280001 x280002))) else (impl_IsScore.l1 k x0 x10 x11 x12 x36 x37 (wrap64 (x38 + 1)) x280000 x280001 x280002)) else (none)) else (none)) else (impl_IsScore.l0 k x0 x10 x11 (wrap64 (x12 + 1)))
end
def impl_IsScore.f (k : Nat) (l0 : List (S47)) : Option (Bool) := if (l0.length : Int) > 30 then (some false) else (impl_IsScore.l0 k l0 l0 (l0.length : Int) 0)
instance impl_IsScore.lp0 {k : Nat} {r : Bool} {Q : Wr → Prop} {p0 : List (S47)} {p1 : List (S47)} {p2 : Int} {x12_1 : Int} : Lp (impl_IsScore.l0 k p0 p1 p2 x12_1 = some r) Q (fun k => ∀ {x12_1 : Int}, impl_IsScore.l0 k p0 p1 p2 x12_1 = some r → Q [(24, .p (.c (.v (.int .i64 x12_1))))]) k [(24, .p (.c (.v (.int .i64 x12_1))))] := ⟨fun j h => j h⟩
instance impl_IsScore.lp1 {k : Nat} {r : Bool} {Q : Wr → Prop} {p0 : List (S47)} {p1 : List (S47)} {p2 : Int} {p3 : Int} {p4 : List (S47)} {p5 : Int} {p7 : Int} {p8 : Int} {p9 : Int} {x38_3 : Int} : Lp (impl_IsScore.l1 k p0 p1 p2 p3 p4 p5 x38_3 p7 p8 p9 = some r) Q (fun k => ∀ {x38_3 : Int}, impl_IsScore.l1 k p0 p1 p2 p3 p4 p5 x38_3 p7 p8 p9 = some r → Q [(76, .p (.c (.v (.int .i64 x38_3))))]) k [(76, .p (.c (.v (.int .i64 x38_3))))] := ⟨fun j h => j h⟩
set_option maxRecDepth 20000 in
set_option maxHeartbeats 2000000 in
theorem impl_IsScore.con (k : Nat) (l0 : List (S47)) (r : Bool) (H : impl_IsScore.f k l0 = some r) : Con Tryz.prog 21 [.p (.c (.sl K47 l0))] (.p (.c (.v (.bool r)))) := by
  refine Con.mk' (fn := Tryz.f21) Tryz.func21 rfl (by kernel_rfl) rfl rfl rfl fun X w0 gs hF => ?_
  unfold impl_IsScore.f at H
  exact auto
instance impl_IsScore.ctr {k : Nat} {l0 : List (S47)} {r : Bool} : Ctr (impl_IsScore.f k l0 = some r) (Con Tryz.prog 21 [.p (.c (.sl K47 l0))] (.p (.c (.v (.bool r))))) := ⟨impl_IsScore.con _ _ _⟩
theorem impl_IsScore.calls (k : Nat) (A0 : Option Addr) (c0 : Nat) (l0 : List (S47)) (r : Bool) (w : World) (hr0 : Kd.C k47 w A0 l0.length l0) (hc0 : l0.length ≤ c0) (h : impl_IsScore.f k l0 = some r) :
    Calls Tryz.prog 21 #[.slice A0 l0.length c0] w fun e w' => e = .returned (.bool r) ∧ Below w.heap.size w w' :=
  (impl_IsScore.con k l0 r h).val rfl (show Args.relg (fun _ => False) w _ [.slice A0 l0.length c0] [.slice A0 l0.length c0] from ⟨_, _, rfl, ⟨rfl, A0, c0, rfl, hc0, row_of_C rfl (fun _ h => h) hr0⟩, rfl⟩)
/-! ### spec_ntNote: function 65 -/
def spec_ntNote.f (a0_0 : Int) (a0_1 : Int) (a0_2 : Int) : Option (Bool) := (spec_ntPitch.f a0_0).bind fun t291 => (if t291 = true then ((spec_l1In.f a0_1 0 999).bind fun t292 => (if t292 = true then ((spec_l1In.f a0_2 1 99).bind fun t293 => (some t293)) else (some false))) else (some false))
set_option maxRecDepth 20000 in
set_option maxHeartbeats 2000000 in
theorem spec_ntNote.con (a0_0 : Int) (a0_1 : Int) (a0_2 : Int) (r : Bool) (H : spec_ntNote.f a0_0 a0_1 a0_2 = some r) : Con Tryz.prog 65 [.p (.ag [.v (.int .i64 a0_0), .v (.int .i64 a0_1), .v (.int .i64 a0_2)])] (.p (.c (.v (.bool r)))) := by
  refine Con.mk' (fn := Tryz.f65) Tryz.func65 rfl (by kernel_rfl) rfl rfl rfl fun X w0 gs hF => ?_
  unfold spec_ntNote.f at H
  exact auto
instance spec_ntNote.ctr {a0_0 : Int} {a0_1 : Int} {a0_2 : Int} {r : Bool} : Ctr (spec_ntNote.f a0_0 a0_1 a0_2 = some r) (Con Tryz.prog 65 [.p (.ag [.v (.int .i64 a0_0), .v (.int .i64 a0_1), .v (.int .i64 a0_2)])] (.p (.c (.v (.bool r))))) := ⟨spec_ntNote.con _ _ _ _⟩
end Go.Proofs.YtlhhjdlaljmppaaGreat.T
