/- BY EV: what the Go functions compute (read off the print), and that their calls come to it. No condition. -/
import Derived.Test.YtafapmanfncfkaaDEU
set_option linter.unusedVariables false
set_option linter.unusedSimpArgs false
namespace Go.Proofs.Ytafapmanfncfkaa.D
open Go.RowKit Go.Proofs Go.Proofs.YtafapmanfncfkaaW.PrintWords Go.Proofs.YtafapmanfncfkaaW.PrintLast EV
/-! ### impl_distance: function 78 -/
def impl_distance.f (a0 : Int) (a1 : Int) : Option (Int) := some (mx (wrap64 (a0 - a1)) (wrap64 (a1 - a0)))
set_option maxRecDepth 8000 in
set_option maxHeartbeats 2000000 in
theorem impl_distance.con (a0 : Int) (a1 : Int) (r : Int) (H : impl_distance.f a0 a1 = some r) : Con Try.prog 78 [.p (.c (.v (.int .i64 a0))), .p (.c (.v (.int .i64 a1)))] (.p (.c (.v (.int .i64 r)))) := by
  refine Con.mk' (fn := Try.f78) Try.func78 rfl (by kernel_rfl) rfl rfl rfl fun X w0 gs hF => ?_
  unfold impl_distance.f at H
  exact auto
instance impl_distance.ctr {a0 : Int} {a1 : Int} {r : Int} : Ctr (impl_distance.f a0 a1 = some r) (Con Try.prog 78 [.p (.c (.v (.int .i64 a0))), .p (.c (.v (.int .i64 a1)))] (.p (.c (.v (.int .i64 r))))) := ⟨impl_distance.con _ _ _⟩
/-! ### impl_foldPitch: function 62 -/
def impl_foldPitch.l0 : Nat → Int → Int → List Int → Int → Int → Option (Int)
  | 0, _, _, _, _, _ => none
  | k + 1, x1, x5, x9, x10, x11 => if x11 < x10 then (if 0 ≤ x11 then (if x11 < (x9.length : Int) then (if (Int.tmod (wrap64 ((rd x9 x11) - x1)) 12) = 0 then (if x5 = 0 then (impl_foldPitch.l0 k x1 (rd x9 x11) x9 x10 (wrap64 (x11 + 1))) else ((impl_distance.f (rd x9 x11) x1).bind fun t233 => ((impl_distance.f x5 x1).bind fun t234 => (if t233 < t234 then (impl_foldPitch.l0 k x1 (rd x9 x11) x9 x10 (wrap64 (x11 + 1))) else (impl_foldPitch.l0 k x1 x5 x9 x10 (wrap64 (x11 + 1))))))) else (impl_foldPitch.l0 k x1 x5 x9 x10 (wrap64 (x11 + 1)))) else (none)) else (none)) else (some x5)
def impl_foldPitch.f (k : Nat) (l0_0 : List Int) (a0_1 : Int) (a1 : Int) : Option (Int) := impl_foldPitch.l0 k a1 0 l0_0 (l0_0.length : Int) 0
instance impl_foldPitch.lp0 {k : Nat} {r : Int} {Q : Wr → Prop} {p0 : Int} {p2 : List Int} {p3 : Int} {x5_1 : Int} {x11_1 : Int} : Lp (impl_foldPitch.l0 k p0 x5_1 p2 p3 x11_1 = some r) Q (fun k => ∀ {x5_1 : Int} {x11_1 : Int}, impl_foldPitch.l0 k p0 x5_1 p2 p3 x11_1 = some r → Q [(10, .p (.c (.v (.int .i64 x5_1)))), (22, .p (.c (.v (.int .i64 x11_1))))]) k [(10, .p (.c (.v (.int .i64 x5_1)))), (22, .p (.c (.v (.int .i64 x11_1))))] := ⟨fun j h => j h⟩
set_option maxRecDepth 8000 in
set_option maxHeartbeats 2000000 in
theorem impl_foldPitch.con (k : Nat) (l0_0 : List Int) (a0_1 : Int) (a1 : Int) (r : Int) (H : impl_foldPitch.f k l0_0 a0_1 a1 = some r) : Con Try.prog 62 [.p (.ag [.sl (.int .i64) l0_0, .v (.int .i64 a0_1)]), .p (.c (.v (.int .i64 a1)))] (.p (.c (.v (.int .i64 r)))) := by
  refine Con.mk' (fn := Try.f62) Try.func62 rfl (by kernel_rfl) rfl rfl rfl fun X w0 gs hF => ?_
  unfold impl_foldPitch.f at H
  exact auto
instance impl_foldPitch.ctr {k : Nat} {l0_0 : List Int} {a0_1 : Int} {a1 : Int} {r : Int} : Ctr (impl_foldPitch.f k l0_0 a0_1 a1 = some r) (Con Try.prog 62 [.p (.ag [.sl (.int .i64) l0_0, .v (.int .i64 a0_1)]), .p (.c (.v (.int .i64 a1)))] (.p (.c (.v (.int .i64 r))))) := ⟨impl_foldPitch.con _ _ _ _ _⟩
end Go.Proofs.Ytafapmanfncfkaa.D
