/- BY EV: what the Go functions compute (read off the print), and that their calls come to it. No condition. -/
import Derived.Test.YtlhhjdlaljmppaaGreatTEU
import Derived.Test.YtlhhjdlaljmppaaGreatT3
import Derived.Test.YtlhhjdlaljmppaaGreatT5
import Derived.Test.YtlhhjdlaljmppaaGreatT14
set_option linter.unusedVariables false
set_option linter.unusedSimpArgs false
namespace Go.Proofs.YtlhhjdlaljmppaaGreat.T
open Go.RowKit Go.Proofs Go.Proofs.YtlhhjdlaljmppaaGreatW.PrintWords Go.Proofs.YtlhhjdlaljmppaaGreatW.PrintLast EV
def impl_BestFold_1.l0 : Nat → List (S47) → Int → Int → Int → List (S47) → List Int → Int → Option Int
  | 0, _, _, _, _, _, _, _ => none
  | k + 1, x5, x12, x13, b, q2, q0, q1 => if x13 < x12 then (if 0 ≤ x13 then (if x13 < (q2.length : Int) then ((impl_isPitch.f (wrap64 (((rd_T47 q2 x13).f0) + b))).bind fun t24 => (if t24 = true then (if x5.length < 5864062014805 then (impl_BestFold_1.l0 k (x5 ++ [(⟨wrap64 (((rd_T47 q2 x13).f0) + b), (rd_T47 q2 x13).f1, (rd_T47 q2 x13).f2⟩ : S47)]) x12 (wrap64 (x13 + 1)) b q2 q0 q1) else (none)) else (impl_BestFold_1.l0 k x5 x12 (wrap64 (x13 + 1)) b q2 q0 q1))) else (none)) else (none)) else ((impl_foldScore.f k q0 q1 x5).bind fun t33 => (some (wrap64 (wrap64 (t33.2 + (q2.length : Int)) - (x5.length : Int)))))
def impl_BestFold_1.f (k : Nat) (l0_0 : List Int) (a0_1 : Int) (l1 : List (S47)) (b : Int) : Option Int := impl_BestFold_1.l0 k ([] : List (S47)) (l1.length : Int) 0 b l1 l0_0 a0_1
instance impl_BestFold_1.lp0 {k : Nat} {r : Int} {Q : Wr → Prop} {p12 b : Int} {q2 : List (S47)} {q0 : List Int} {q1 : Int} {x5 : List (S47)} {x13 : Int} : Lp (impl_BestFold_1.l0 k x5 p12 x13 b q2 q0 q1 = some r) Q (fun k => ∀ {x5 : List (S47)} {x13 : Int}, impl_BestFold_1.l0 k x5 p12 x13 b q2 q0 q1 = some r → Q [(10, .p (.c (.rp (Tryz.f36.ntmps + 5)))), (2 * (Tryz.f36.ntmps + 5) + 1, .row 47 K47 x5), (26, .p (.c (.v (.int .i64 x13))))]) k [(10, .p (.c (.rp (Tryz.f36.ntmps + 5)))), (2 * (Tryz.f36.ntmps + 5) + 1, .row 47 K47 x5), (26, .p (.c (.v (.int .i64 x13))))] := ⟨fun j h => j h⟩
set_option maxRecDepth 8000 in
set_option maxHeartbeats 2000000 in
theorem impl_BestFold_1.con (k : Nat) (l0_0 : List Int) (a0_1 : Int) (l1 : List (S47)) (b r : Int) (H : impl_BestFold_1.f k l0_0 a0_1 l1 b = some r) : Con Tryz.prog 36 [.p (.c (.v (.int .i64 b))), .p (.fb [.sl K47 l1]), .p (.fb [.sl (.int .i64) l0_0, .v (.int .i64 a0_1)])] (.p (.c (.v (.int .i64 r)))) := by
  refine Con.mk' (fn := Tryz.f36) Tryz.func36 rfl (by kernel_rfl) rfl rfl rfl fun X w0 gs hF => ?_
  unfold impl_BestFold_1.f at H
  exact auto
instance impl_BestFold_1.ctr {k : Nat} {l0_0 : List Int} {a0_1 : Int} {l1 : List (S47)} {b r : Int} : Ctr (impl_BestFold_1.f k l0_0 a0_1 l1 b = some r) (Con Tryz.prog 36 [.p (.c (.v (.int .i64 b))), .p (.fb [.sl K47 l1]), .p (.fb [.sl (.int .i64) l0_0, .v (.int .i64 a0_1)])] (.p (.c (.v (.int .i64 r))))) := ⟨impl_BestFold_1.con _ _ _ _ _ _⟩
mutual
def impl_bestBy_F.l0 : Nat → Int → Int → Int → Int → List Int → Int → List (S47) → Option (Int × Int)
  | 0, _, _, _, _, _, _, _ => none
  | k + 1, x0, x6, x7, x8, q0, q1, q2 => if x8 ≤ x0 then (impl_bestBy_F.l1 k x0 x6 x7 x8 [wrap64 (-x8), x8] (([wrap64 (-x8), x8] : List Int).length : Int) 0 q0 q1 q2) else (some (x6, x7))
def impl_bestBy_F.l1 : Nat → Int → Int → Int → Int → List Int → Int → Int → List Int → Int → List (S47) → Option (Int × Int)
  | 0, _, _, _, _, _, _, _, _, _, _ => none
  | k + 1, x0, x6, x7, x8, x22, x23, x24, q0, q1, q2 => if x24 < x23 then (if 0 ≤ x24 then (if x24 < (x22.length : Int) then ((impl_BestFold_1.f k q0 q1 q2 (rd x22 x24)).bind fun t => (if t < x7 then (impl_bestBy_F.l1 k x0 (rd x22 x24) t x8 x22 x23 (wrap64 (x24 + 1)) q0 q1 q2) else (impl_bestBy_F.l1 k x0 x6 x7 x8 x22 x23 (wrap64 (x24 + 1)) q0 q1 q2))) else (none)) else (none)) else (impl_bestBy_F.l0 k x0 x6 x7 (wrap64 (x8 + 1)) q0 q1 q2)
end
def impl_bestBy_F.f (k : Nat) (a0 : Int) (l0_0 : List Int) (a0_1 : Int) (l1 : List (S47)) : Option (Int × Int) := (impl_BestFold_1.f k l0_0 a0_1 l1 0).bind fun t => (impl_bestBy_F.l0 k a0 0 t 1 l0_0 a0_1 l1)
instance impl_bestBy_F.lp0 {k : Nat} {r : Int × Int} {Q : Wr → Prop} {p0 : Int} {q0 : List Int} {q1 : Int} {q2 : List (S47)} {x6 x7 x8 : Int} : Lp (impl_bestBy_F.l0 k p0 x6 x7 x8 q0 q1 q2 = some r) Q (fun k => ∀ {x6 x7 x8 : Int}, impl_bestBy_F.l0 k p0 x6 x7 x8 q0 q1 q2 = some r → Q [(12, .p (.c (.v (.int .i64 x6)))), (14, .p (.c (.v (.int .i64 x7)))), (16, .p (.c (.v (.int .i64 x8))))]) k [(12, .p (.c (.v (.int .i64 x6)))), (14, .p (.c (.v (.int .i64 x7)))), (16, .p (.c (.v (.int .i64 x8))))] := ⟨fun j h => j h⟩
instance impl_bestBy_F.lp1 {k : Nat} {r : Int × Int} {Q : Wr → Prop} {p0 p8 : Int} {p22 : List Int} {p23 : Int} {q0 : List Int} {q1 : Int} {q2 : List (S47)} {x6 x7 x24 : Int} : Lp (impl_bestBy_F.l1 k p0 x6 x7 p8 p22 p23 x24 q0 q1 q2 = some r) Q (fun k => ∀ {x6 x7 x24 : Int}, impl_bestBy_F.l1 k p0 x6 x7 p8 p22 p23 x24 q0 q1 q2 = some r → Q [(12, .p (.c (.v (.int .i64 x6)))), (14, .p (.c (.v (.int .i64 x7)))), (48, .p (.c (.v (.int .i64 x24))))]) k [(12, .p (.c (.v (.int .i64 x6)))), (14, .p (.c (.v (.int .i64 x7)))), (48, .p (.c (.v (.int .i64 x24))))] := ⟨fun j h => j h⟩
set_option maxRecDepth 8000 in
set_option maxHeartbeats 2000000 in
theorem impl_bestBy_F.con (k : Nat) (a0 : Int) (l0_0 : List Int) (a0_1 : Int) (l1 : List (S47)) (r1 r2 : Int) (H : impl_bestBy_F.f k a0 l0_0 a0_1 l1 = some (r1, r2)) : Con Tryz.prog 35 [.p (.c (.v (.int .i64 a0))), .fn 36 [.fb [.sl K47 l1], .fb [.sl (.int .i64) l0_0, .v (.int .i64 a0_1)]]] (.tp [.c (.v (.int .i64 r1)), .c (.v (.int .i64 r2))]) := by
  refine Con.mk' (fn := Tryz.f35) Tryz.func35 rfl (by kernel_rfl) rfl rfl rfl fun X w0 gs hF => ?_
  unfold impl_bestBy_F.f at H
  exact auto
instance impl_bestBy_F.ctr {k : Nat} {a0 : Int} {l0_0 : List Int} {a0_1 : Int} {l1 : List (S47)} {t_ : Int × Int} : Ctr (impl_bestBy_F.f k a0 l0_0 a0_1 l1 = some t_) (Con Tryz.prog 35 [.p (.c (.v (.int .i64 a0))), .fn 36 [.fb [.sl K47 l1], .fb [.sl (.int .i64) l0_0, .v (.int .i64 a0_1)]]] (.tp [.c (.v (.int .i64 t_.1)), .c (.v (.int .i64 t_.2))])) := ⟨fun h => impl_bestBy_F.con _ _ _ _ _ _ _ h⟩
def impl_BestFold.f (k : Nat) (l0_0 : List Int) (a0_1 : Int) (l1 : List (S47)) : Option (Int × Int × Bool) := (impl_IsInstrument.f k l0_0 a0_1).bind fun t10 => (if t10 = true then ((impl_IsScore.f k l1).bind fun t14 => (if t14 = true then ((impl_bestBy_F.f k 11 l0_0 a0_1 l1).bind fun t19 => (some (t19.1, t19.2, true))) else (some (0, 0, false)))) else (some (0, 0, false)))
set_option maxRecDepth 8000 in
set_option maxHeartbeats 2000000 in
theorem impl_BestFold.con (k : Nat) (l0_0 : List Int) (a0_1 : Int) (l1 : List (S47)) (r1 r2 : Int) (r3 : Bool) (H : impl_BestFold.f k l0_0 a0_1 l1 = some (r1, r2, r3)) : Con Tryz.prog 15 [.p (.ag [.sl (.int .i64) l0_0, .v (.int .i64 a0_1)]), .p (.c (.sl K47 l1))] (.tp [.c (.v (.int .i64 r1)), .c (.v (.int .i64 r2)), .c (.v (.bool r3))]) := by
  refine Con.mk' (fn := Tryz.f15) Tryz.func15 rfl (by kernel_rfl) rfl rfl rfl fun X w0 gs hF => ?_
  unfold impl_BestFold.f at H
  exact auto
instance impl_BestFold.ctr {k : Nat} {l0_0 : List Int} {a0_1 : Int} {l1 : List (S47)} {t_ : Int × Int × Bool} : Ctr (impl_BestFold.f k l0_0 a0_1 l1 = some t_) (Con Tryz.prog 15 [.p (.ag [.sl (.int .i64) l0_0, .v (.int .i64 a0_1)]), .p (.c (.sl K47 l1))] (.tp [.c (.v (.int .i64 t_.1)), .c (.v (.int .i64 t_.2.1)), .c (.v (.bool t_.2.2))])) := ⟨fun h => impl_BestFold.con _ _ _ _ _ _ _ h⟩

end Go.Proofs.YtlhhjdlaljmppaaGreat.T
