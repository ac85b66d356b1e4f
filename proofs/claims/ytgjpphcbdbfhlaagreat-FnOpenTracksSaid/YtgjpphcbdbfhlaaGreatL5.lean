/- BY EV: what the Go functions compute (read off the print), and that their calls come to it. No condition. -/
import Derived.Test.YtgjpphcbdbfhlaaGreatLEU
import Derived.Test.YtgjpphcbdbfhlaaGreatL2
import Derived.Test.YtgjpphcbdbfhlaaGreatL3
import Derived.Test.YtgjpphcbdbfhlaaGreatL4
set_option linter.unusedVariables false
set_option linter.unusedSimpArgs false
namespace Go.Proofs.YtgjpphcbdbfhlaaGreat.L
open Go.RowKit Go.Proofs Go.Proofs.YtgjpphcbdbfhlaaGreatW.PrintWords Go.Proofs.YtgjpphcbdbfhlaaGreatW.PrintLast EV
/-! ### slices_Contains_int_int: function 72 -/
def slices_Contains_int_int.f (k : Nat) (l0 : List Int) (a1 : Int) : Option (Bool) := (slices_Index_int_int.f k l0 a1).bind fun t390 => (some (decide (t390 ≥ 0)))
set_option maxRecDepth 20000 in
set_option maxHeartbeats 2000000 in
theorem slices_Contains_int_int.con (k : Nat) (l0 : List Int) (a1 : Int) (r : Bool) (H : slices_Contains_int_int.f k l0 a1 = some r) : Con Tryz.prog 72 [.p (.c (.sl (.int .i64) l0)), .p (.c (.v (.int .i64 a1)))] (.p (.c (.v (.bool r)))) := by
  refine Con.mk' (fn := Tryz.f72) Tryz.func72 rfl (by kernel_rfl) rfl rfl rfl fun X w0 gs hF => ?_
  unfold slices_Contains_int_int.f at H
  exact auto
instance slices_Contains_int_int.ctr {k : Nat} {l0 : List Int} {a1 : Int} {r : Bool} : Ctr (slices_Contains_int_int.f k l0 a1 = some r) (Con Tryz.prog 72 [.p (.c (.sl (.int .i64) l0)), .p (.c (.v (.int .i64 a1)))] (.p (.c (.v (.bool r))))) := ⟨slices_Contains_int_int.con _ _ _ _⟩
/-! ### impl_fastRepeats: function 107 -/
mutual
def impl_fastRepeats.l0 : Nat → List (S36) → Int → List (List Int) → List (S36) → Int → Int → Option ((List (List Int)))
  | 0, _, _, _, _, _, _ => none
  | k + 1, x0, x1, x5, x10, x11, x12 => if x12 < x11 then (if 0 ≤ x12 then (if x12 < (x10.length : Int) then (impl_fastRepeats.l1 k x0 x1 x5 x12 (wrap64 (x12 - 1)) x10 x11 x12 ((rd_T36 x10 x12).f0) ((rd_T36 x10 x12).f1) ((rd_T36 x10 x12).f2)) else (none)) else (none)) else (some x5)
def impl_fastRepeats.l1 : Nat → List (S36) → Int → List (List Int) → Int → Int → List (S36) → Int → Int → Int → Int → Int → Option ((List (List Int)))
  | 0, _, _, _, _, _, _, _, _, _, _, _ => none
  | k + 1, x0, x1, x5, x6, x8, x10, x11, x12, x396000, x396001, x396002 => if x8 ≥ 0 then (if 0 ≤ x8 then (if x8 < (x0.length : Int) then (if ((rd_T36 x0 x8).f0) = x396000 then (if (wrap64 (x396001 - ((rd_T36 x0 x8).f1))) < x1 then (if x5.length < 5864062014805 then (impl_fastRepeats.l0 k x0 x1 (x5 ++ [(([x8, x6] : List Int))]) x10 x11 (wrap64 (x12 + 1))) else (none)) else (impl_fastRepeats.l0 k x0 x1 x5 x10 x11 (wrap64 (x12 + 1)))) else (impl_fastRepeats.l1 k x0 x1 x5 x6 (wrap64 (x8 - 1)) x10 x11 x12 x396000 x396001 x396002)) else (none)) else (none)) else (impl_fastRepeats.l0 k x0 x1 x5 x10 x11 (wrap64 (x12 + 1)))
end
def impl_fastRepeats.f (k : Nat) (l0 : List (S36)) (a1 : Int) : Option ((List (List Int))) := impl_fastRepeats.l0 k l0 a1 (([] : List (List Int))) l0 (l0.length : Int) 0
instance impl_fastRepeats.lp0 {k : Nat} {r : (List (List Int))} {Q : Wr → Prop} {p0 : List (S36)} {p1 : Int} {p3 : List (S36)} {p4 : Int} {x5_1 : List (List Int)} {x12_1 : Int} : Lp (impl_fastRepeats.l0 k p0 p1 x5_1 p3 p4 x12_1 = some r) Q (fun k => ∀ {x5_1 : List (List Int)} {x12_1 : Int}, impl_fastRepeats.l0 k p0 p1 x5_1 p3 p4 x12_1 = some r → Q [(10, .p (.c (.rp (Tryz.f107.ntmps + 5)))), (2 * (Tryz.f107.ntmps + 5) + 1, .row 23 KL3 x5_1), (24, .p (.c (.v (.int .i64 x12_1))))]) k [(10, .p (.c (.rp (Tryz.f107.ntmps + 5)))), (2 * (Tryz.f107.ntmps + 5) + 1, .row 23 KL3 x5_1), (24, .p (.c (.v (.int .i64 x12_1))))] := ⟨fun j h => j h⟩
instance impl_fastRepeats.lp1 {k : Nat} {r : (List (List Int))} {Q : Wr → Prop} {p0 : List (S36)} {p1 : Int} {p3 : Int} {p5 : List (S36)} {p6 : Int} {p7 : Int} {p8 : Int} {p9 : Int} {p10 : Int} {x5_2 : List (List Int)} {x8_2 : Int} : Lp (impl_fastRepeats.l1 k p0 p1 x5_2 p3 x8_2 p5 p6 p7 p8 p9 p10 = some r) Q (fun k => ∀ {x5_2 : List (List Int)} {x8_2 : Int}, impl_fastRepeats.l1 k p0 p1 x5_2 p3 x8_2 p5 p6 p7 p8 p9 p10 = some r → Q [(10, .p (.c (.rp (Tryz.f107.ntmps + 5)))), (2 * (Tryz.f107.ntmps + 5) + 1, .row 23 KL3 x5_2), (16, .p (.c (.v (.int .i64 x8_2))))]) k [(10, .p (.c (.rp (Tryz.f107.ntmps + 5)))), (2 * (Tryz.f107.ntmps + 5) + 1, .row 23 KL3 x5_2), (16, .p (.c (.v (.int .i64 x8_2))))] := ⟨fun j h => j h⟩
set_option maxRecDepth 20000 in
set_option maxHeartbeats 2000000 in
theorem impl_fastRepeats.con (k : Nat) (l0 : List (S36)) (a1 : Int) (r : List (List Int)) (H : impl_fastRepeats.f k l0 a1 = some r) : Con Tryz.prog 107 [.p (.c (.sl K36 l0)), .p (.c (.v (.int .i64 a1)))] (.p (.c (.ow 23 KL3 r))) := by
  refine Con.mk' (fn := Tryz.f107) Tryz.func107 rfl (by kernel_rfl) rfl rfl rfl fun X w0 gs hF => ?_
  unfold impl_fastRepeats.f at H
  exact auto
instance impl_fastRepeats.ctr {k : Nat} {l0 : List (S36)} {a1 : Int} {r : List (List Int)} : Ctr (impl_fastRepeats.f k l0 a1 = some r) (Con Tryz.prog 107 [.p (.c (.sl K36 l0)), .p (.c (.v (.int .i64 a1)))] (.p (.c (.ow 23 KL3 r)))) := ⟨impl_fastRepeats.con _ _ _ _⟩
/-! ### impl_canPlay: function 85 -/
def impl_canPlay.l0 : Nat → List (S36) → List (S36) → Int → Int → List Int → Int → Option (Bool)
  | 0, _, _, _, _, _, _ => none
  | k + 1, x1, x7, x8, x9, x405000, x405001 => if x9 < x8 then (if 0 ≤ x9 then (if x9 < (x7.length : Int) then ((slices_Contains_int_int.f k x405000 ((rd_T36 x7 x9).f0)).bind fun t407 => (if t407 = true then (impl_canPlay.l0 k x1 x7 x8 (wrap64 (x9 + 1)) x405000 x405001) else (some false))) else (none)) else (none)) else ((impl_fastRepeats.f k x1 x405001).bind fun t408 => (some ((t408.length : Int) == 0)))
def impl_canPlay.f (k : Nat) (l0_0 : List Int) (a0_1 : Int) (l1 : List (S36)) : Option (Bool) := impl_canPlay.l0 k l1 l1 (l1.length : Int) 0 l0_0 a0_1
instance impl_canPlay.lp0 {k : Nat} {r : Bool} {Q : Wr → Prop} {p0 : List (S36)} {p1 : List (S36)} {p2 : Int} {p4 : List Int} {p5 : Int} {x9_1 : Int} : Lp (impl_canPlay.l0 k p0 p1 p2 x9_1 p4 p5 = some r) Q (fun k => ∀ {x9_1 : Int}, impl_canPlay.l0 k p0 p1 p2 x9_1 p4 p5 = some r → Q [(18, .p (.c (.v (.int .i64 x9_1))))]) k [(18, .p (.c (.v (.int .i64 x9_1))))] := ⟨fun j h => j h⟩
set_option maxRecDepth 20000 in
set_option maxHeartbeats 2000000 in
theorem impl_canPlay.con (k : Nat) (l0_0 : List Int) (a0_1 : Int) (l1 : List (S36)) (r : Bool) (H : impl_canPlay.f k l0_0 a0_1 l1 = some r) : Con Tryz.prog 85 [.p (.ag [.sl (.int .i64) l0_0, .v (.int .i64 a0_1)]), .p (.c (.sl K36 l1))] (.p (.c (.v (.bool r)))) := by
  refine Con.mk' (fn := Tryz.f85) Tryz.func85 rfl (by kernel_rfl) rfl rfl rfl fun X w0 gs hF => ?_
  unfold impl_canPlay.f at H
  exact auto
instance impl_canPlay.ctr {k : Nat} {l0_0 : List Int} {a0_1 : Int} {l1 : List (S36)} {r : Bool} : Ctr (impl_canPlay.f k l0_0 a0_1 l1 = some r) (Con Tryz.prog 85 [.p (.ag [.sl (.int .i64) l0_0, .v (.int .i64 a0_1)]), .p (.c (.sl K36 l1))] (.p (.c (.v (.bool r))))) := ⟨impl_canPlay.con _ _ _ _ _⟩
/-! ### impl_holeLess: function 67 -/
def impl_holeLess.f (a0_0 : Int) (a0_1 : Int) (a0_2 : Int) (a1_0 : Int) (a1_1 : Int) (a1_2 : Int) : Option (Bool) := if a0_1 = a1_1 then (some (decide (a0_0 < a1_0))) else (some (decide (a0_1 < a1_1)))
set_option maxRecDepth 20000 in
set_option maxHeartbeats 2000000 in
theorem impl_holeLess.con (a0_0 : Int) (a0_1 : Int) (a0_2 : Int) (a1_0 : Int) (a1_1 : Int) (a1_2 : Int) (r : Bool) (H : impl_holeLess.f a0_0 a0_1 a0_2 a1_0 a1_1 a1_2 = some r) : Con Tryz.prog 67 [.p (.ag [.v (.int .i64 a0_0), .v (.int .i64 a0_1), .v (.int .i64 a0_2)]), .p (.ag [.v (.int .i64 a1_0), .v (.int .i64 a1_1), .v (.int .i64 a1_2)])] (.p (.c (.v (.bool r)))) := by
  refine Con.mk' (fn := Tryz.f67) Tryz.func67 rfl (by kernel_rfl) rfl rfl rfl fun X w0 gs hF => ?_
  unfold impl_holeLess.f at H
  exact auto
instance impl_holeLess.ctr {a0_0 : Int} {a0_1 : Int} {a0_2 : Int} {a1_0 : Int} {a1_1 : Int} {a1_2 : Int} {r : Bool} : Ctr (impl_holeLess.f a0_0 a0_1 a0_2 a1_0 a1_1 a1_2 = some r) (Con Tryz.prog 67 [.p (.ag [.v (.int .i64 a0_0), .v (.int .i64 a0_1), .v (.int .i64 a0_2)]), .p (.ag [.v (.int .i64 a1_0), .v (.int .i64 a1_1), .v (.int .i64 a1_2)])] (.p (.c (.v (.bool r))))) := ⟨impl_holeLess.con _ _ _ _ _ _ _⟩
theorem impl_holeLess.calls (a0_0 : Int) (a0_1 : Int) (a0_2 : Int) (a1_0 : Int) (a1_1 : Int) (a1_2 : Int) (r : Bool) (w : World) (h : impl_holeLess.f a0_0 a0_1 a0_2 a1_0 a1_1 a1_2 = some r) :
    Calls Tryz.prog 67 #[.agg #[.int .i64 a0_0, .int .i64 a0_1, .int .i64 a0_2], .agg #[.int .i64 a1_0, .int .i64 a1_1, .int .i64 a1_2]] w fun e w' => e = .returned (.bool r) ∧ Below w.heap.size w w' :=
  (impl_holeLess.con a0_0 a0_1 a0_2 a1_0 a1_1 a1_2 r h).val rfl (show Args.relg (fun _ => False) w _ [.agg #[.int .i64 a0_0, .int .i64 a0_1, .int .i64 a0_2], .agg #[.int .i64 a1_0, .int .i64 a1_1, .int .i64 a1_2]] [.int .i64 a0_0, .int .i64 a0_1, .int .i64 a0_2, .int .i64 a1_0, .int .i64 a1_1, .int .i64 a1_2] from ⟨_, _, rfl, ⟨rfl, rfl, rfl, ⟨rfl, rfl, ⟨rfl, rfl, trivial⟩⟩⟩, ⟨_, _, rfl, ⟨rfl, rfl, rfl, ⟨rfl, rfl, ⟨rfl, rfl, trivial⟩⟩⟩, rfl⟩⟩)
/-! ### impl_IsSheet: function 22 -/
mutual
def impl_IsSheet.l0 : Nat → List (S40) → List (S40) → Int → Int → Option (Bool)
  | 0, _, _, _, _ => none
  | k + 1, x0, x10, x11, x12 => if x12 < x11 then (if 0 ≤ x12 then (if x12 < (x10.length : Int) then ((impl_IsHole.f ((rd_T40 x10 x12).f0) ((rd_T40 x10 x12).f1) ((rd_T40 x10 x12).f2)).bind fun t415 => (if t415 = true then (if x12 > 0 then (if 0 ≤ (wrap64 (x12 - 1)) then (if (wrap64 (x12 - 1)) < (x0.length : Int) then ((impl_holeLess.f ((rd_T40 x0 (wrap64 (x12 - 1))).f0) ((rd_T40 x0 (wrap64 (x12 - 1))).f1) ((rd_T40 x0 (wrap64 (x12 - 1))).f2) ((rd_T40 x10 x12).f0) ((rd_T40 x10 x12).f1) ((rd_T40 x10 x12).f2)).bind fun t417 => (impl_IsSheet.j1 k x0 x12 x10 x11 x12 (!t417) ((rd_T40 x10 x12).f0) ((rd_T40 x10 x12).f1) ((rd_T40 x10 x12).f2))) else (none)) else (none)) else (impl_IsSheet.j1 k x0 x12 x10 x11 x12 false ((rd_T40 x10 x12).f0) ((rd_T40 x10 x12).f1) ((rd_T40 x10 x12).f2))) else (impl_IsSheet.j1 k x0 x12 x10 x11 x12 true ((rd_T40 x10 x12).f0) ((rd_T40 x10 x12).f1) ((rd_T40 x10 x12).f2)))) else (none)) else (none)) else (some true)
def impl_IsSheet.j1 : Nat → List (S40) → Int → List (S40) → Int → Int → Bool → Int → Int → Int → Option (Bool)
  | 0, _, _, _, _, _, _, _, _, _ => none
  | k + 1, x0, x3, x10, x11, x12, x33, x415000, x415001, x415002 => if x33 = true then (some false) else (if 0 ≤ x3 then (if x3 ≤ (x0.length : Int) then ((some (x0.take (x3 : Int).toNat : List (S40))).bind fun y418 => (impl_IsSheet.l1 k x0 x10 x11 x12 y418 (y418.length : Int) 0 x415000 x415001 x415002)) else (none)) else (none))
def impl_IsSheet.l1 : Nat → List (S40) → List (S40) → Int → Int → List (S40) → Int → Int → Int → Int → Int → Option (Bool)
  | 0, _, _, _, _, _, _, _, _, _, _ => none
  | k + 1, x0, x10, x11, x12, x36, x37, x38, x415000, x415001, x415002 => if x38 < x37 then (if 0 ≤ x38 then (if x38 < (x36.length : Int) then (if ((rd_T40 x36 x38).f0) = x415000 then (if ((rd_T40 x36 x38).f2) ≥ x415001 then (some false) else (impl_IsSheet.l1 k x0 x10 x11 x12 x36 x37 (wrap64 (x38 + 1)) x415000 x415001 x415002)) else (impl_IsSheet.l1 k x0 x10 x11 x12 x36 x37 (wrap64 (x38 + 1)) x415000 x415001 x415002)) else (none)) else (none)) else (impl_IsSheet.l0 k x0 x10 x11 (wrap64 (x12 + 1)))
end
def impl_IsSheet.f (k : Nat) (l0 : List (S40)) : Option (Bool) := if (l0.length : Int) > 60 then (some false) else (impl_IsSheet.l0 k l0 l0 (l0.length : Int) 0)
instance impl_IsSheet.lp0 {k : Nat} {r : Bool} {Q : Wr → Prop} {p0 : List (S40)} {p1 : List (S40)} {p2 : Int} {x12_1 : Int} : Lp (impl_IsSheet.l0 k p0 p1 p2 x12_1 = some r) Q (fun k => ∀ {x12_1 : Int}, impl_IsSheet.l0 k p0 p1 p2 x12_1 = some r → Q [(24, .p (.c (.v (.int .i64 x12_1))))]) k [(24, .p (.c (.v (.int .i64 x12_1))))] := ⟨fun j h => j h⟩
instance impl_IsSheet.lp1 {k : Nat} {r : Bool} {Q : Wr → Prop} {p0 : List (S40)} {p1 : List (S40)} {p2 : Int} {p3 : Int} {p4 : List (S40)} {p5 : Int} {p7 : Int} {p8 : Int} {p9 : Int} {x38_3 : Int} : Lp (impl_IsSheet.l1 k p0 p1 p2 p3 p4 p5 x38_3 p7 p8 p9 = some r) Q (fun k => ∀ {x38_3 : Int}, impl_IsSheet.l1 k p0 p1 p2 p3 p4 p5 x38_3 p7 p8 p9 = some r → Q [(76, .p (.c (.v (.int .i64 x38_3))))]) k [(76, .p (.c (.v (.int .i64 x38_3))))] := ⟨fun j h => j h⟩
set_option maxRecDepth 20000 in
set_option maxHeartbeats 2000000 in
theorem impl_IsSheet.con (k : Nat) (l0 : List (S40)) (r : Bool) (H : impl_IsSheet.f k l0 = some r) : Con Tryz.prog 22 [.p (.c (.sl K40 l0))] (.p (.c (.v (.bool r)))) := by
  refine Con.mk' (fn := Tryz.f22) Tryz.func22 rfl (by kernel_rfl) rfl rfl rfl fun X w0 gs hF => ?_
  unfold impl_IsSheet.f at H
  exact auto
instance impl_IsSheet.ctr {k : Nat} {l0 : List (S40)} {r : Bool} : Ctr (impl_IsSheet.f k l0 = some r) (Con Tryz.prog 22 [.p (.c (.sl K40 l0))] (.p (.c (.v (.bool r))))) := ⟨impl_IsSheet.con _ _ _⟩
theorem impl_IsSheet.calls (k : Nat) (A0 : Option Addr) (c0 : Nat) (l0 : List (S40)) (r : Bool) (w : World) (hr0 : Kd.C k40 w A0 l0.length l0) (hc0 : l0.length ≤ c0) (h : impl_IsSheet.f k l0 = some r) :
    Calls Tryz.prog 22 #[.slice A0 l0.length c0] w fun e w' => e = .returned (.bool r) ∧ Below w.heap.size w w' :=
  (impl_IsSheet.con k l0 r h).val rfl (show Args.relg (fun _ => False) w _ [.slice A0 l0.length c0] [.slice A0 l0.length c0] from ⟨_, _, rfl, ⟨rfl, A0, c0, rfl, hc0, row_of_C rfl (fun _ h => h) hr0⟩, rfl⟩)
/-! ### spec_shHole: function 63 -/
def spec_shHole.f (a0_0 : Int) (a0_1 : Int) (a0_2 : Int) : Option (Bool) := (spec_l1In.f a0_0 0 19).bind fun t425 => (if t425 = true then ((spec_l1In.f a0_1 0 1999).bind fun t426 => (if t426 = true then ((spec_l1In.f a0_2 (wrap64 (a0_1 + 1)) 2000).bind fun t427 => (some t427)) else (some false))) else (some false))
set_option maxRecDepth 20000 in
set_option maxHeartbeats 2000000 in
theorem spec_shHole.con (a0_0 : Int) (a0_1 : Int) (a0_2 : Int) (r : Bool) (H : spec_shHole.f a0_0 a0_1 a0_2 = some r) : Con Tryz.prog 63 [.p (.ag [.v (.int .i64 a0_0), .v (.int .i64 a0_1), .v (.int .i64 a0_2)])] (.p (.c (.v (.bool r)))) := by
  refine Con.mk' (fn := Tryz.f63) Tryz.func63 rfl (by kernel_rfl) rfl rfl rfl fun X w0 gs hF => ?_
  unfold spec_shHole.f at H
  exact auto
instance spec_shHole.ctr {a0_0 : Int} {a0_1 : Int} {a0_2 : Int} {r : Bool} : Ctr (spec_shHole.f a0_0 a0_1 a0_2 = some r) (Con Tryz.prog 63 [.p (.ag [.v (.int .i64 a0_0), .v (.int .i64 a0_1), .v (.int .i64 a0_2)])] (.p (.c (.v (.bool r))))) := ⟨spec_shHole.con _ _ _ _⟩
/-! ### spec_shBefore: function 104 -/
def spec_shBefore.f (a0_0 : Int) (a0_1 : Int) (a0_2 : Int) (a1_0 : Int) (a1_1 : Int) (a1_2 : Int) : Option (Bool) := if a0_1 < a1_1 then (some true) else (if a0_1 = a1_1 then (some (decide (a0_0 < a1_0))) else (some false))
set_option maxRecDepth 20000 in
set_option maxHeartbeats 2000000 in
theorem spec_shBefore.con (a0_0 : Int) (a0_1 : Int) (a0_2 : Int) (a1_0 : Int) (a1_1 : Int) (a1_2 : Int) (r : Bool) (H : spec_shBefore.f a0_0 a0_1 a0_2 a1_0 a1_1 a1_2 = some r) : Con Tryz.prog 104 [.p (.ag [.v (.int .i64 a0_0), .v (.int .i64 a0_1), .v (.int .i64 a0_2)]), .p (.ag [.v (.int .i64 a1_0), .v (.int .i64 a1_1), .v (.int .i64 a1_2)])] (.p (.c (.v (.bool r)))) := by
  refine Con.mk' (fn := Tryz.f104) Tryz.func104 rfl (by kernel_rfl) rfl rfl rfl fun X w0 gs hF => ?_
  unfold spec_shBefore.f at H
  exact auto
instance spec_shBefore.ctr {a0_0 : Int} {a0_1 : Int} {a0_2 : Int} {a1_0 : Int} {a1_1 : Int} {a1_2 : Int} {r : Bool} : Ctr (spec_shBefore.f a0_0 a0_1 a0_2 a1_0 a1_1 a1_2 = some r) (Con Tryz.prog 104 [.p (.ag [.v (.int .i64 a0_0), .v (.int .i64 a0_1), .v (.int .i64 a0_2)]), .p (.ag [.v (.int .i64 a1_0), .v (.int .i64 a1_1), .v (.int .i64 a1_2)])] (.p (.c (.v (.bool r))))) := ⟨spec_shBefore.con _ _ _ _ _ _ _⟩
theorem spec_shBefore.calls (a0_0 : Int) (a0_1 : Int) (a0_2 : Int) (a1_0 : Int) (a1_1 : Int) (a1_2 : Int) (r : Bool) (w : World) (h : spec_shBefore.f a0_0 a0_1 a0_2 a1_0 a1_1 a1_2 = some r) :
    Calls Tryz.prog 104 #[.agg #[.int .i64 a0_0, .int .i64 a0_1, .int .i64 a0_2], .agg #[.int .i64 a1_0, .int .i64 a1_1, .int .i64 a1_2]] w fun e w' => e = .returned (.bool r) ∧ Below w.heap.size w w' :=
  (spec_shBefore.con a0_0 a0_1 a0_2 a1_0 a1_1 a1_2 r h).val rfl (show Args.relg (fun _ => False) w _ [.agg #[.int .i64 a0_0, .int .i64 a0_1, .int .i64 a0_2], .agg #[.int .i64 a1_0, .int .i64 a1_1, .int .i64 a1_2]] [.int .i64 a0_0, .int .i64 a0_1, .int .i64 a0_2, .int .i64 a1_0, .int .i64 a1_1, .int .i64 a1_2] from ⟨_, _, rfl, ⟨rfl, rfl, rfl, ⟨rfl, rfl, ⟨rfl, rfl, trivial⟩⟩⟩, ⟨_, _, rfl, ⟨rfl, rfl, rfl, ⟨rfl, rfl, ⟨rfl, rfl, trivial⟩⟩⟩, rfl⟩⟩)
/-! ### spec_shGood: function 75 -/
mutual
def spec_shGood.l0 : Nat → List (S40) → List (S40) → Int → Int → Option (Bool)
  | 0, _, _, _, _ => none
  | k + 1, x0, x7, x8, x9 => if x9 < x8 then (if 0 ≤ x9 then (if x9 < (x7.length : Int) then ((spec_shHole.f ((rd_T40 x7 x9).f0) ((rd_T40 x7 x9).f1) ((rd_T40 x7 x9).f2)).bind fun t432 => (if t432 = true then (if x9 > 0 then (if 0 ≤ (wrap64 (x9 - 1)) then (if (wrap64 (x9 - 1)) < (x0.length : Int) then ((spec_shBefore.f ((rd_T40 x0 (wrap64 (x9 - 1))).f0) ((rd_T40 x0 (wrap64 (x9 - 1))).f1) ((rd_T40 x0 (wrap64 (x9 - 1))).f2) ((rd_T40 x7 x9).f0) ((rd_T40 x7 x9).f1) ((rd_T40 x7 x9).f2)).bind fun t434 => (spec_shGood.j1 k x0 x9 x7 x8 x9 (!t434) ((rd_T40 x7 x9).f0) ((rd_T40 x7 x9).f1) ((rd_T40 x7 x9).f2))) else (none)) else (none)) else (spec_shGood.j1 k x0 x9 x7 x8 x9 false ((rd_T40 x7 x9).f0) ((rd_T40 x7 x9).f1) ((rd_T40 x7 x9).f2))) else (spec_shGood.j1 k x0 x9 x7 x8 x9 true ((rd_T40 x7 x9).f0) ((rd_T40 x7 x9).f1) ((rd_T40 x7 x9).f2)))) else (none)) else (none)) else (some (decide ((x0.length : Int) ≤ 60)))
def spec_shGood.j1 : Nat → List (S40) → Int → List (S40) → Int → Int → Bool → Int → Int → Int → Option (Bool)
  | 0, _, _, _, _, _, _, _, _, _ => none
  | k + 1, x0, x3, x7, x8, x9, x30, x432000, x432001, x432002 => if x30 = true then (some false) else (if 0 ≤ x3 then (if x3 ≤ (x0.length : Int) then ((some (x0.take (x3 : Int).toNat : List (S40))).bind fun y435 => (spec_shGood.l1 k x0 x7 x8 x9 y435 (y435.length : Int) 0 x432000 x432001 x432002)) else (none)) else (none))
def spec_shGood.l1 : Nat → List (S40) → List (S40) → Int → Int → List (S40) → Int → Int → Int → Int → Int → Option (Bool)
  | 0, _, _, _, _, _, _, _, _, _, _ => none
  | k + 1, x0, x7, x8, x9, x33, x34, x35, x432000, x432001, x432002 => if x35 < x34 then (if 0 ≤ x35 then (if x35 < (x33.length : Int) then (if x432000 = ((rd_T40 x33 x35).f0) then (if ((rd_T40 x33 x35).f2) ≥ x432001 then (some false) else (spec_shGood.l1 k x0 x7 x8 x9 x33 x34 (wrap64 (x35 + 1)) x432000 x432001 x432002)) else (spec_shGood.l1 k x0 x7 x8 x9 x33 x34 (wrap64 (x35 + 1)) x432000 x432001 x432002)) else (none)) else (none)) else (spec_shGood.l0 k x0 x7 x8 (wrap64 (x9 + 1)))
end
def spec_shGood.f (k : Nat) (l0 : List (S40)) : Option (Bool) := spec_shGood.l0 k l0 l0 (l0.length : Int) 0
instance spec_shGood.lp0 {k : Nat} {r : Bool} {Q : Wr → Prop} {p0 : List (S40)} {p1 : List (S40)} {p2 : Int} {x9_1 : Int} : Lp (spec_shGood.l0 k p0 p1 p2 x9_1 = some r) Q (fun k => ∀ {x9_1 : Int}, spec_shGood.l0 k p0 p1 p2 x9_1 = some r → Q [(18, .p (.c (.v (.int .i64 x9_1))))]) k [(18, .p (.c (.v (.int .i64 x9_1))))] := ⟨fun j h => j h⟩
instance spec_shGood.lp1 {k : Nat} {r : Bool} {Q : Wr → Prop} {p0 : List (S40)} {p1 : List (S40)} {p2 : Int} {p3 : Int} {p4 : List (S40)} {p5 : Int} {p7 : Int} {p8 : Int} {p9 : Int} {x35_3 : Int} : Lp (spec_shGood.l1 k p0 p1 p2 p3 p4 p5 x35_3 p7 p8 p9 = some r) Q (fun k => ∀ {x35_3 : Int}, spec_shGood.l1 k p0 p1 p2 p3 p4 p5 x35_3 p7 p8 p9 = some r → Q [(70, .p (.c (.v (.int .i64 x35_3))))]) k [(70, .p (.c (.v (.int .i64 x35_3))))] := ⟨fun j h => j h⟩
set_option maxRecDepth 20000 in
set_option maxHeartbeats 2000000 in
theorem spec_shGood.con (k : Nat) (l0 : List (S40)) (r : Bool) (H : spec_shGood.f k l0 = some r) : Con Tryz.prog 75 [.p (.c (.sl K40 l0))] (.p (.c (.v (.bool r)))) := by
  refine Con.mk' (fn := Tryz.f75) Tryz.func75 rfl (by kernel_rfl) rfl rfl rfl fun X w0 gs hF => ?_
  unfold spec_shGood.f at H
  exact auto
instance spec_shGood.ctr {k : Nat} {l0 : List (S40)} {r : Bool} : Ctr (spec_shGood.f k l0 = some r) (Con Tryz.prog 75 [.p (.c (.sl K40 l0))] (.p (.c (.v (.bool r))))) := ⟨spec_shGood.con _ _ _⟩
theorem spec_shGood.calls (k : Nat) (A0 : Option Addr) (c0 : Nat) (l0 : List (S40)) (r : Bool) (w : World) (hr0 : Kd.C k40 w A0 l0.length l0) (hc0 : l0.length ≤ c0) (h : spec_shGood.f k l0 = some r) :
    Calls Tryz.prog 75 #[.slice A0 l0.length c0] w fun e w' => e = .returned (.bool r) ∧ Below w.heap.size w w' :=
  (spec_shGood.con k l0 r h).val rfl (show Args.relg (fun _ => False) w _ [.slice A0 l0.length c0] [.slice A0 l0.length c0] from ⟨_, _, rfl, ⟨rfl, A0, c0, rfl, hc0, row_of_C rfl (fun _ h => h) hr0⟩, rfl⟩)
/-! ### spec_laHole: function 59 -/
def spec_laHole.f (k : Nat) (l0_0 : List Int) (a0_1 : Int) (a1_0 : Int) (a1_1 : Int) (a1_2 : Int) : Option (Int × Int × Int × Bool) := (spec_inTrack.f k l0_0 a0_1 a1_0).bind fun t470 => ((spec_shHole.f t470 (wrap64 (2 * a1_1)) (wrap64 ((wrap64 (2 * (wrap64 (a1_1 + a1_2)))) - 1))).bind fun t472 => (if t472 = true then (some (t470, wrap64 (2 * a1_1), wrap64 ((wrap64 (2 * (wrap64 (a1_1 + a1_2)))) - 1), true)) else (some (0, 0, 0, false))))
set_option maxRecDepth 20000 in
set_option maxHeartbeats 2000000 in
theorem spec_laHole.con (k : Nat) (l0_0 : List Int) (a0_1 : Int) (a1_0 : Int) (a1_1 : Int) (a1_2 : Int) (r1 : Int) (r2 : Int) (r3 : Int) (r4 : Bool) (H : spec_laHole.f k l0_0 a0_1 a1_0 a1_1 a1_2 = some (r1, r2, r3, r4)) : Con Tryz.prog 59 [.p (.ag [.sl (.int .i64) l0_0, .v (.int .i64 a0_1)]), .p (.ag [.v (.int .i64 a1_0), .v (.int .i64 a1_1), .v (.int .i64 a1_2)])] (.tp [.ag [.v (.int .i64 r1), .v (.int .i64 r2), .v (.int .i64 r3)], .c (.v (.bool r4))]) := by
  refine Con.mk' (fn := Tryz.f59) Tryz.func59 rfl (by kernel_rfl) rfl rfl rfl fun X w0 gs hF => ?_
  unfold spec_laHole.f at H
  exact auto
instance spec_laHole.ctr {k : Nat} {l0_0 : List Int} {a0_1 : Int} {a1_0 : Int} {a1_1 : Int} {a1_2 : Int} {t_ : (Int) × (Int) × (Int) × (Bool)} : Ctr (spec_laHole.f k l0_0 a0_1 a1_0 a1_1 a1_2 = some t_) (Con Tryz.prog 59 [.p (.ag [.sl (.int .i64) l0_0, .v (.int .i64 a0_1)]), .p (.ag [.v (.int .i64 a1_0), .v (.int .i64 a1_1), .v (.int .i64 a1_2)])] (.tp [.ag [.v (.int .i64 t_.1), .v (.int .i64 t_.2.1), .v (.int .i64 t_.2.2.1)], .c (.v (.bool t_.2.2.2))])) := ⟨fun h => spec_laHole.con _ _ _ _ _ _ (t_.1) (t_.2.1) (t_.2.2.1) (t_.2.2.2) h⟩
/-! ### spec_inMissing: function 100 -/
def spec_inMissing.l0 : Nat → List Int → List (S36) → Int → Int → List Int → Int → Option (List Int)
  | 0, _, _, _, _, _, _ => none
  | k + 1, x5, x8, x9, x10, x474000, x474001 => if x10 < x9 then (if 0 ≤ x10 then (if x10 < (x8.length : Int) then ((spec_inTrack.f k x474000 x474001 ((rd_T36 x8 x10).f0)).bind fun t476 => (if t476 < 0 then ((spec_l1Put.f k x5 ((rd_T36 x8 x10).f0)).bind fun t477 => (spec_inMissing.l0 k t477 x8 x9 (wrap64 (x10 + 1)) x474000 x474001)) else (spec_inMissing.l0 k x5 x8 x9 (wrap64 (x10 + 1)) x474000 x474001))) else (none)) else (none)) else (some x5)
def spec_inMissing.f (k : Nat) (l0_0 : List Int) (a0_1 : Int) (l1 : List (S36)) : Option (List Int) := spec_inMissing.l0 k ([] : List Int) l1 (l1.length : Int) 0 l0_0 a0_1
instance spec_inMissing.lp0 {k : Nat} {r : List Int} {Q : Wr → Prop} {p1 : List (S36)} {p2 : Int} {p4 : List Int} {p5 : Int} {x5_1 : List Int} {x10_1 : Int} : Lp (spec_inMissing.l0 k x5_1 p1 p2 x10_1 p4 p5 = some r) Q (fun k => ∀ {x5_1 : List Int} {x10_1 : Int}, spec_inMissing.l0 k x5_1 p1 p2 x10_1 p4 p5 = some r → Q [(10, .p (.c (.rp (Tryz.f100.ntmps + 5)))), (2 * (Tryz.f100.ntmps + 5) + 1, .row 3 (.int .i64) x5_1), (20, .p (.c (.v (.int .i64 x10_1))))]) k [(10, .p (.c (.rp (Tryz.f100.ntmps + 5)))), (2 * (Tryz.f100.ntmps + 5) + 1, .row 3 (.int .i64) x5_1), (20, .p (.c (.v (.int .i64 x10_1))))] := ⟨fun j h => j h⟩
set_option maxRecDepth 20000 in
set_option maxHeartbeats 2000000 in
theorem spec_inMissing.con (k : Nat) (l0_0 : List Int) (a0_1 : Int) (l1 : List (S36)) (r : List Int) (H : spec_inMissing.f k l0_0 a0_1 l1 = some r) : Con Tryz.prog 100 [.p (.ag [.sl (.int .i64) l0_0, .v (.int .i64 a0_1)]), .p (.c (.sl K36 l1))] (.p (.c (.ow 3 (.int .i64) r))) := by
  refine Con.mk' (fn := Tryz.f100) Tryz.func100 rfl (by kernel_rfl) rfl rfl rfl fun X w0 gs hF => ?_
  unfold spec_inMissing.f at H
  exact auto
instance spec_inMissing.ctr {k : Nat} {l0_0 : List Int} {a0_1 : Int} {l1 : List (S36)} {r : List Int} : Ctr (spec_inMissing.f k l0_0 a0_1 l1 = some r) (Con Tryz.prog 100 [.p (.ag [.sl (.int .i64) l0_0, .v (.int .i64 a0_1)]), .p (.c (.sl K36 l1))] (.p (.c (.ow 3 (.int .i64) r)))) := ⟨spec_inMissing.con _ _ _ _ _⟩
end Go.Proofs.YtgjpphcbdbfhlaaGreat.L
