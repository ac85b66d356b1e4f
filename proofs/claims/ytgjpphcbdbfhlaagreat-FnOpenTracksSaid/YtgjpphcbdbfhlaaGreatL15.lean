/- BY EV: what the Go functions compute (read off the print), and that their calls come to it. No condition. -/
import Derived.Test.YtgjpphcbdbfhlaaGreatLEU
import Derived.Test.YtgjpphcbdbfhlaaGreatL5
set_option linter.unusedVariables false
set_option linter.unusedSimpArgs false
namespace Go.Proofs.YtgjpphcbdbfhlaaGreat.L
open Go.RowKit Go.Proofs Go.Proofs.YtgjpphcbdbfhlaaGreatW.PrintWords Go.Proofs.YtgjpphcbdbfhlaaGreatW.PrintLast EV
mutual
def impl_CrowdedSteps.l0 : Nat → Int → List Int → List (S40) → Int → Int → Option (Int × Bool)
  | 0, _, _, _, _, _ => none
  | k + 1, x1, x6, x24, x25, x26 => if x26 < x25 then (if 0 ≤ x26 then (if x26 < (x24.length : Int) then (impl_CrowdedSteps.l1 k x1 x6 ((rd_T40 x24 x26).f1) x24 x25 x26 ((rd_T40 x24 x26).f0) ((rd_T40 x24 x26).f1) ((rd_T40 x24 x26).f2)) else (none)) else (none)) else (if x6.length = 2000 then (impl_CrowdedSteps.l2 k x1 0 x6 0) else (none))
def impl_CrowdedSteps.l1 : Nat → Int → List Int → Int → List (S40) → Int → Int → Int → Int → Int → Option (Int × Bool)
  | 0, _, _, _, _, _, _, _, _, _ => none
  | k + 1, x1, x6, x9, x24, x25, x26, y0, y1, y2 => if x9 < y2 then (if 0 ≤ x9 then (if x9 < 2000 then (impl_CrowdedSteps.l1 k x1 (x6.set (x9 : Int).toNat (wrap64 ((rd x6 x9) + 1))) (wrap64 (x9 + 1)) x24 x25 x26 y0 y1 y2) else (none)) else (none)) else (impl_CrowdedSteps.l0 k x1 x6 x24 x25 (wrap64 (x26 + 1)))
def impl_CrowdedSteps.l2 : Nat → Int → Int → List Int → Int → Option (Int × Bool)
  | 0, _, _, _, _ => none
  | k + 1, x1, x10, x44, x45 => if x45 < 2000 then (if 0 ≤ x45 then (if x44.length = 2000 then (if (rd x44 x45) > x1 then (impl_CrowdedSteps.l2 k x1 (wrap64 (x10 + 1)) x44 (wrap64 (x45 + 1))) else (impl_CrowdedSteps.l2 k x1 x10 x44 (wrap64 (x45 + 1)))) else (none)) else (none)) else (some (x10, true))
end
def impl_CrowdedSteps.f (k : Nat) (l0 : List (S40)) (a1 : Int) : Option (Int × Bool) := (impl_IsSheet.f k l0).bind fun t14 => (if t14 = true then (if a1 < 0 then (some (0, false)) else (if a1 > 20 then (some (0, false)) else (impl_CrowdedSteps.l0 k a1 (List.replicate 2000 0) l0 (l0.length : Int) 0))) else (some (0, false)))
instance impl_CrowdedSteps.lp0 {k : Nat} {r : Int × Bool} {Q : Wr → Prop} {p1 : Int} {p24 : List (S40)} {p25 : Int} {x6 : List Int} {x26 : Int} : Lp (impl_CrowdedSteps.l0 k p1 x6 p24 p25 x26 = some r) Q (fun k => ∀ {x6 : List Int} {x26 : Int}, impl_CrowdedSteps.l0 k p1 x6 p24 p25 x26 = some r → Q [(13, .row 91 (.int .i64) x6), (52, .p (.c (.v (.int .i64 x26))))]) k [(13, .row 91 (.int .i64) x6), (52, .p (.c (.v (.int .i64 x26))))] := ⟨fun j h => j h⟩
instance impl_CrowdedSteps.lp1 {k : Nat} {r : Int × Bool} {Q : Wr → Prop} {p1 : Int} {p24 : List (S40)} {p25 p26 q0 q1 q2 : Int} {x6 : List Int} {x9 : Int} : Lp (impl_CrowdedSteps.l1 k p1 x6 x9 p24 p25 p26 q0 q1 q2 = some r) Q (fun k => ∀ {x6 : List Int} {x9 : Int}, impl_CrowdedSteps.l1 k p1 x6 x9 p24 p25 p26 q0 q1 q2 = some r → Q [(13, .row 91 (.int .i64) x6), (18, .p (.c (.v (.int .i64 x9))))]) k [(13, .row 91 (.int .i64) x6), (18, .p (.c (.v (.int .i64 x9))))] := ⟨fun j h => j h⟩
instance impl_CrowdedSteps.lp2 {k : Nat} {r : Int × Bool} {Q : Wr → Prop} {p1 : Int} {p44 : List Int} {x10 x45 : Int} : Lp (impl_CrowdedSteps.l2 k p1 x10 p44 x45 = some r) Q (fun k => ∀ {x10 x45 : Int}, impl_CrowdedSteps.l2 k p1 x10 p44 x45 = some r → Q [(20, .p (.c (.v (.int .i64 x10)))), (90, .p (.c (.v (.int .i64 x45))))]) k [(20, .p (.c (.v (.int .i64 x10)))), (90, .p (.c (.v (.int .i64 x45))))] := ⟨fun j h => j h⟩
set_option maxRecDepth 8000 in
set_option maxHeartbeats 2000000 in
theorem impl_CrowdedSteps.con (k : Nat) (l0 : List (S40)) (a1 r1 : Int) (r2 : Bool) (H : impl_CrowdedSteps.f k l0 a1 = some (r1, r2)) : Con Tryz.prog 34 [.p (.c (.sl K40 l0)), .p (.c (.v (.int .i64 a1)))] (.tp [.c (.v (.int .i64 r1)), .c (.v (.bool r2))]) := by
  refine Con.mk' (fn := Tryz.f34) Tryz.func34 rfl (by kernel_rfl) rfl rfl rfl fun X w0 gs hF => ?_
  unfold impl_CrowdedSteps.f at H
  exact auto
instance impl_CrowdedSteps.ctr {k : Nat} {l0 : List (S40)} {a1 : Int} {t_ : Int × Bool} : Ctr (impl_CrowdedSteps.f k l0 a1 = some t_) (Con Tryz.prog 34 [.p (.c (.sl K40 l0)), .p (.c (.v (.int .i64 a1)))] (.tp [.c (.v (.int .i64 t_.1)), .c (.v (.bool t_.2))])) := ⟨fun h => impl_CrowdedSteps.con _ _ _ _ _ h⟩

end Go.Proofs.YtgjpphcbdbfhlaaGreat.L
