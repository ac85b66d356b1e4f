/- BY EV: what the Go functions compute (read off the print), and that their calls come to it. No condition. -/
import Derived.Test.YtlhhjdlaljmppaaGreatTEU
import Derived.Test.YtlhhjdlaljmppaaGreatT3
set_option linter.unusedVariables false
set_option linter.unusedSimpArgs false
namespace Go.Proofs.YtlhhjdlaljmppaaGreat.T
open Go.RowKit Go.Proofs Go.Proofs.YtlhhjdlaljmppaaGreatW.PrintWords Go.Proofs.YtlhhjdlaljmppaaGreatW.PrintLast EV
/-! ### impl_distance: function 30 -/
def impl_distance.f (a0 : Int) (a1 : Int) : Option (Int) := some (mx (wrap64 (a0 - a1)) (wrap64 (a1 - a0)))
set_option maxRecDepth 20000 in
set_option maxHeartbeats 2000000 in
theorem impl_distance.con (a0 : Int) (a1 : Int) (r : Int) (H : impl_distance.f a0 a1 = some r) : Con Tryz.prog 30 [.p (.c (.v (.int .i64 a0))), .p (.c (.v (.int .i64 a1)))] (.p (.c (.v (.int .i64 r)))) := by
  refine Con.mk' (fn := Tryz.f30) Tryz.func30 rfl (by kernel_rfl) rfl rfl rfl fun X w0 gs hF => ?_
  unfold impl_distance.f at H
  exact auto
instance impl_distance.ctr {a0 : Int} {a1 : Int} {r : Int} : Ctr (impl_distance.f a0 a1 = some r) (Con Tryz.prog 30 [.p (.c (.v (.int .i64 a0))), .p (.c (.v (.int .i64 a1)))] (.p (.c (.v (.int .i64 r))))) := ⟨impl_distance.con _ _ _⟩
/-! ### impl_foldPitch: function 26 -/
def impl_foldPitch.l0 : Nat → Int → Int → List Int → Int → Int → Option (Int)
  | 0, _, _, _, _, _ => none
  | k + 1, x1, x5, x9, x10, x11 => if x11 < x10 then (if 0 ≤ x11 then (if x11 < (x9.length : Int) then (if (Int.tmod (wrap64 ((rd x9 x11) - x1)) 12) = 0 then (if x5 = 0 then (impl_foldPitch.l0 k x1 (rd x9 x11) x9 x10 (wrap64 (x11 + 1))) else ((impl_distance.f (rd x9 x11) x1).bind fun t238 => ((impl_distance.f x5 x1).bind fun t239 => (if t238 < t239 then (impl_foldPitch.l0 k x1 (rd x9 x11) x9 x10 (wrap64 (x11 + 1))) else (impl_foldPitch.l0 k x1 x5 x9 x10 (wrap64 (x11 + 1))))))) else (impl_foldPitch.l0 k x1 x5 x9 x10 (wrap64 (x11 + 1)))) else (none)) else (none)) else (some x5)
def impl_foldPitch.f (k : Nat) (l0_0 : List Int) (a0_1 : Int) (a1 : Int) : Option (Int) := impl_foldPitch.l0 k a1 0 l0_0 (l0_0.length : Int) 0
instance impl_foldPitch.lp0 {k : Nat} {r : Int} {Q : Wr → Prop} {p0 : Int} {p2 : List Int} {p3 : Int} {x5_1 : Int} {x11_1 : Int} : Lp (impl_foldPitch.l0 k p0 x5_1 p2 p3 x11_1 = some r) Q (fun k => ∀ {x5_1 : Int} {x11_1 : Int}, impl_foldPitch.l0 k p0 x5_1 p2 p3 x11_1 = some r → Q [(10, .p (.c (.v (.int .i64 x5_1)))), (22, .p (.c (.v (.int .i64 x11_1))))]) k [(10, .p (.c (.v (.int .i64 x5_1)))), (22, .p (.c (.v (.int .i64 x11_1))))] := ⟨fun j h => j h⟩
set_option maxRecDepth 20000 in
set_option maxHeartbeats 2000000 in
theorem impl_foldPitch.con (k : Nat) (l0_0 : List Int) (a0_1 : Int) (a1 : Int) (r : Int) (H : impl_foldPitch.f k l0_0 a0_1 a1 = some r) : Con Tryz.prog 26 [.p (.ag [.sl (.int .i64) l0_0, .v (.int .i64 a0_1)]), .p (.c (.v (.int .i64 a1)))] (.p (.c (.v (.int .i64 r)))) := by
  refine Con.mk' (fn := Tryz.f26) Tryz.func26 rfl (by kernel_rfl) rfl rfl rfl fun X w0 gs hF => ?_
  unfold impl_foldPitch.f at H
  exact auto
instance impl_foldPitch.ctr {k : Nat} {l0_0 : List Int} {a0_1 : Int} {a1 : Int} {r : Int} : Ctr (impl_foldPitch.f k l0_0 a0_1 a1 = some r) (Con Tryz.prog 26 [.p (.ag [.sl (.int .i64) l0_0, .v (.int .i64 a0_1)]), .p (.c (.v (.int .i64 a1)))] (.p (.c (.v (.int .i64 r))))) := ⟨impl_foldPitch.con _ _ _ _ _⟩
/-! ### impl_FoldPitch: function 6 -/
def impl_FoldPitch.f (k : Nat) (l0_0 : List Int) (a0_1 : Int) (a1 : Int) : Option (Int × Bool) := (impl_IsInstrument.f k l0_0 a0_1).bind fun t241 => (if t241 = true then ((impl_isPitch.f a1).bind fun t242 => (if t242 = true then ((impl_foldPitch.f k l0_0 a0_1 a1).bind fun t243 => (some (t243, (t243 != 0)))) else (some (0, false)))) else (some (0, false)))
set_option maxRecDepth 20000 in
set_option maxHeartbeats 2000000 in
theorem impl_FoldPitch.con (k : Nat) (l0_0 : List Int) (a0_1 : Int) (a1 : Int) (r1 : Int) (r2 : Bool) (H : impl_FoldPitch.f k l0_0 a0_1 a1 = some (r1, r2)) : Con Tryz.prog 6 [.p (.ag [.sl (.int .i64) l0_0, .v (.int .i64 a0_1)]), .p (.c (.v (.int .i64 a1)))] (.tp [.c (.v (.int .i64 r1)), .c (.v (.bool r2))]) := by
  refine Con.mk' (fn := Tryz.f6) Tryz.func6 rfl (by kernel_rfl) rfl rfl rfl fun X w0 gs hF => ?_
  unfold impl_FoldPitch.f at H
  exact auto
instance impl_FoldPitch.ctr {k : Nat} {l0_0 : List Int} {a0_1 : Int} {a1 : Int} {t_ : (Int) × (Bool)} : Ctr (impl_FoldPitch.f k l0_0 a0_1 a1 = some t_) (Con Tryz.prog 6 [.p (.ag [.sl (.int .i64) l0_0, .v (.int .i64 a0_1)]), .p (.c (.v (.int .i64 a1)))] (.tp [.c (.v (.int .i64 t_.1)), .c (.v (.bool t_.2))])) := ⟨fun h => impl_FoldPitch.con _ _ _ _ (t_.1) (t_.2) h⟩
/-! ### spec_l1In: function 47 -/
def spec_l1In.f (a0 : Int) (a1 : Int) (a2 : Int) : Option (Bool) := if a0 ≥ a1 then (some (decide (a0 ≤ a2))) else (some false)
set_option maxRecDepth 20000 in
set_option maxHeartbeats 2000000 in
theorem spec_l1In.con (a0 : Int) (a1 : Int) (a2 : Int) (r : Bool) (H : spec_l1In.f a0 a1 a2 = some r) : Con Tryz.prog 47 [.p (.c (.v (.int .i64 a0))), .p (.c (.v (.int .i64 a1))), .p (.c (.v (.int .i64 a2)))] (.p (.c (.v (.bool r)))) := by
  refine Con.mk' (fn := Tryz.f47) Tryz.func47 rfl (by kernel_rfl) rfl rfl rfl fun X w0 gs hF => ?_
  unfold spec_l1In.f at H
  exact auto
instance spec_l1In.ctr {a0 : Int} {a1 : Int} {a2 : Int} {r : Bool} : Ctr (spec_l1In.f a0 a1 a2 = some r) (Con Tryz.prog 47 [.p (.c (.v (.int .i64 a0))), .p (.c (.v (.int .i64 a1))), .p (.c (.v (.int .i64 a2)))] (.p (.c (.v (.bool r))))) := ⟨spec_l1In.con _ _ _ _⟩
/-! ### spec_l1Rising: function 48 -/
def spec_l1Rising.l0 : Nat → List Int → Int → Int → List Int → Int → Int → Option (Bool)
  | 0, _, _, _, _, _, _ => none
  | k + 1, x0, x1, x2, x9, x10, x11 => if x11 < x10 then (if 0 ≤ x11 then (if x11 < (x9.length : Int) then ((spec_l1In.f (rd x9 x11) x1 x2).bind fun t245 => (if t245 = true then (if x11 > 0 then (if 0 ≤ (wrap64 (x11 - 1)) then (if (wrap64 (x11 - 1)) < (x0.length : Int) then (if (rd x0 (wrap64 (x11 - 1))) ≥ (rd x9 x11) then (some false) else (spec_l1Rising.l0 k x0 x1 x2 x9 x10 (wrap64 (x11 + 1)))) else (none)) else (none)) else (spec_l1Rising.l0 k x0 x1 x2 x9 x10 (wrap64 (x11 + 1)))) else (some false))) else (none)) else (none)) else (some true)
def spec_l1Rising.f (k : Nat) (l0 : List Int) (a1 : Int) (a2 : Int) : Option (Bool) := spec_l1Rising.l0 k l0 a1 a2 l0 (l0.length : Int) 0
instance spec_l1Rising.lp0 {k : Nat} {r : Bool} {Q : Wr → Prop} {p0 : List Int} {p1 : Int} {p2 : Int} {p3 : List Int} {p4 : Int} {x11_1 : Int} : Lp (spec_l1Rising.l0 k p0 p1 p2 p3 p4 x11_1 = some r) Q (fun k => ∀ {x11_1 : Int}, spec_l1Rising.l0 k p0 p1 p2 p3 p4 x11_1 = some r → Q [(22, .p (.c (.v (.int .i64 x11_1))))]) k [(22, .p (.c (.v (.int .i64 x11_1))))] := ⟨fun j h => j h⟩
set_option maxRecDepth 20000 in
set_option maxHeartbeats 2000000 in
theorem spec_l1Rising.con (k : Nat) (l0 : List Int) (a1 : Int) (a2 : Int) (r : Bool) (H : spec_l1Rising.f k l0 a1 a2 = some r) : Con Tryz.prog 48 [.p (.c (.sl (.int .i64) l0)), .p (.c (.v (.int .i64 a1))), .p (.c (.v (.int .i64 a2)))] (.p (.c (.v (.bool r)))) := by
  refine Con.mk' (fn := Tryz.f48) Tryz.func48 rfl (by kernel_rfl) rfl rfl rfl fun X w0 gs hF => ?_
  unfold spec_l1Rising.f at H
  exact auto
instance spec_l1Rising.ctr {k : Nat} {l0 : List Int} {a1 : Int} {a2 : Int} {r : Bool} : Ctr (spec_l1Rising.f k l0 a1 a2 = some r) (Con Tryz.prog 48 [.p (.c (.sl (.int .i64) l0)), .p (.c (.v (.int .i64 a1))), .p (.c (.v (.int .i64 a2)))] (.p (.c (.v (.bool r))))) := ⟨spec_l1Rising.con _ _ _ _ _⟩
/-! ### spec_inGood: function 27 -/
def spec_inGood.f (k : Nat) (l0_0 : List Int) (a0_1 : Int) : Option (Bool) := (spec_l1In.f (l0_0.length : Int) 1 20).bind fun t248 => (if t248 = true then ((spec_l1Rising.f k l0_0 24 96).bind fun t249 => (if t249 = true then ((spec_l1In.f a0_1 1 20).bind fun t250 => (some t250)) else (some false))) else (some false))
set_option maxRecDepth 20000 in
set_option maxHeartbeats 2000000 in
theorem spec_inGood.con (k : Nat) (l0_0 : List Int) (a0_1 : Int) (r : Bool) (H : spec_inGood.f k l0_0 a0_1 = some r) : Con Tryz.prog 27 [.p (.ag [.sl (.int .i64) l0_0, .v (.int .i64 a0_1)])] (.p (.c (.v (.bool r)))) := by
  refine Con.mk' (fn := Tryz.f27) Tryz.func27 rfl (by kernel_rfl) rfl rfl rfl fun X w0 gs hF => ?_
  unfold spec_inGood.f at H
  exact auto
instance spec_inGood.ctr {k : Nat} {l0_0 : List Int} {a0_1 : Int} {r : Bool} : Ctr (spec_inGood.f k l0_0 a0_1 = some r) (Con Tryz.prog 27 [.p (.ag [.sl (.int .i64) l0_0, .v (.int .i64 a0_1)])] (.p (.c (.v (.bool r))))) := ⟨spec_inGood.con _ _ _ _⟩
/-! ### spec_ntPitch: function 28 -/
def spec_ntPitch.f (a0 : Int) : Option (Bool) := (spec_l1In.f a0 24 96).bind fun t251 => (some t251)
set_option maxRecDepth 20000 in
set_option maxHeartbeats 2000000 in
theorem spec_ntPitch.con (a0 : Int) (r : Bool) (H : spec_ntPitch.f a0 = some r) : Con Tryz.prog 28 [.p (.c (.v (.int .i64 a0)))] (.p (.c (.v (.bool r)))) := by
  refine Con.mk' (fn := Tryz.f28) Tryz.func28 rfl (by kernel_rfl) rfl rfl rfl fun X w0 gs hF => ?_
  unfold spec_ntPitch.f at H
  exact auto
instance spec_ntPitch.ctr {a0 : Int} {r : Bool} : Ctr (spec_ntPitch.f a0 = some r) (Con Tryz.prog 28 [.p (.c (.v (.int .i64 a0)))] (.p (.c (.v (.bool r))))) := ⟨spec_ntPitch.con _ _⟩
/-! ### spec_l1Most: function 63 -/
def spec_l1Most.f (a0 : Int) (a1 : Int) : Option (Int) := if a0 > a1 then (some a0) else (some a1)
set_option maxRecDepth 20000 in
set_option maxHeartbeats 2000000 in
theorem spec_l1Most.con (a0 : Int) (a1 : Int) (r : Int) (H : spec_l1Most.f a0 a1 = some r) : Con Tryz.prog 63 [.p (.c (.v (.int .i64 a0))), .p (.c (.v (.int .i64 a1)))] (.p (.c (.v (.int .i64 r)))) := by
  refine Con.mk' (fn := Tryz.f63) Tryz.func63 rfl (by kernel_rfl) rfl rfl rfl fun X w0 gs hF => ?_
  unfold spec_l1Most.f at H
  exact auto
instance spec_l1Most.ctr {a0 : Int} {a1 : Int} {r : Int} : Ctr (spec_l1Most.f a0 a1 = some r) (Con Tryz.prog 63 [.p (.c (.v (.int .i64 a0))), .p (.c (.v (.int .i64 a1)))] (.p (.c (.v (.int .i64 r))))) := ⟨spec_l1Most.con _ _ _⟩
/-! ### spec_l1Abs: function 49 -/
def spec_l1Abs.f (a0 : Int) : Option (Int) := (spec_l1Most.f a0 (wrap64 (-a0))).bind fun t252 => (some t252)
set_option maxRecDepth 20000 in
set_option maxHeartbeats 2000000 in
theorem spec_l1Abs.con (a0 : Int) (r : Int) (H : spec_l1Abs.f a0 = some r) : Con Tryz.prog 49 [.p (.c (.v (.int .i64 a0)))] (.p (.c (.v (.int .i64 r)))) := by
  refine Con.mk' (fn := Tryz.f49) Tryz.func49 rfl (by kernel_rfl) rfl rfl rfl fun X w0 gs hF => ?_
  unfold spec_l1Abs.f at H
  exact auto
instance spec_l1Abs.ctr {a0 : Int} {r : Int} : Ctr (spec_l1Abs.f a0 = some r) (Con Tryz.prog 49 [.p (.c (.v (.int .i64 a0)))] (.p (.c (.v (.int .i64 r))))) := ⟨spec_l1Abs.con _ _⟩
/-! ### spec_trNearest: function 29 -/
def spec_trNearest.l0 : Nat → Int → Int → Int → List Int → Int → Int → Option (Int)
  | 0, _, _, _, _, _, _ => none
  | k + 1, x1, x2, x7, x11, x12, x13 => if x13 < x12 then (if 0 ≤ x13 then (if x13 < (x11.length : Int) then (if x2 = 0 then (none) else (if (Int.tmod (wrap64 ((rd x11 x13) - x1)) x2) = 0 then (if x7 < 0 then (spec_trNearest.l0 k x1 x2 (rd x11 x13) x11 x12 (wrap64 (x13 + 1))) else ((spec_l1Abs.f (wrap64 ((rd x11 x13) - x1))).bind fun t255 => ((spec_l1Abs.f (wrap64 (x7 - x1))).bind fun t256 => (if t255 < t256 then (spec_trNearest.l0 k x1 x2 (rd x11 x13) x11 x12 (wrap64 (x13 + 1))) else (spec_trNearest.l0 k x1 x2 x7 x11 x12 (wrap64 (x13 + 1))))))) else (spec_trNearest.l0 k x1 x2 x7 x11 x12 (wrap64 (x13 + 1))))) else (none)) else (none)) else (some x7)
def spec_trNearest.f (k : Nat) (l0_0 : List Int) (a0_1 : Int) (a1 : Int) (a2 : Int) : Option (Int) := spec_trNearest.l0 k a1 a2 (-1) l0_0 (l0_0.length : Int) 0
instance spec_trNearest.lp0 {k : Nat} {r : Int} {Q : Wr → Prop} {p0 : Int} {p1 : Int} {p3 : List Int} {p4 : Int} {x7_1 : Int} {x13_1 : Int} : Lp (spec_trNearest.l0 k p0 p1 x7_1 p3 p4 x13_1 = some r) Q (fun k => ∀ {x7_1 : Int} {x13_1 : Int}, spec_trNearest.l0 k p0 p1 x7_1 p3 p4 x13_1 = some r → Q [(14, .p (.c (.v (.int .i64 x7_1)))), (26, .p (.c (.v (.int .i64 x13_1))))]) k [(14, .p (.c (.v (.int .i64 x7_1)))), (26, .p (.c (.v (.int .i64 x13_1))))] := ⟨fun j h => j h⟩
set_option maxRecDepth 20000 in
set_option maxHeartbeats 2000000 in
theorem spec_trNearest.con (k : Nat) (l0_0 : List Int) (a0_1 : Int) (a1 : Int) (a2 : Int) (r : Int) (H : spec_trNearest.f k l0_0 a0_1 a1 a2 = some r) : Con Tryz.prog 29 [.p (.ag [.sl (.int .i64) l0_0, .v (.int .i64 a0_1)]), .p (.c (.v (.int .i64 a1))), .p (.c (.v (.int .i64 a2)))] (.p (.c (.v (.int .i64 r)))) := by
  refine Con.mk' (fn := Tryz.f29) Tryz.func29 rfl (by kernel_rfl) rfl rfl rfl fun X w0 gs hF => ?_
  unfold spec_trNearest.f at H
  exact auto
instance spec_trNearest.ctr {k : Nat} {l0_0 : List Int} {a0_1 : Int} {a1 : Int} {a2 : Int} {r : Int} : Ctr (spec_trNearest.f k l0_0 a0_1 a1 a2 = some r) (Con Tryz.prog 29 [.p (.ag [.sl (.int .i64) l0_0, .v (.int .i64 a0_1)]), .p (.c (.v (.int .i64 a1))), .p (.c (.v (.int .i64 a2)))] (.p (.c (.v (.int .i64 r))))) := ⟨spec_trNearest.con _ _ _ _ _ _⟩
end Go.Proofs.YtlhhjdlaljmppaaGreat.T
