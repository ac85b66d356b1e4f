/- BY EV: what the Go functions compute (read off the print), and that their calls come to it. No condition. -/
import Derived.Test.YtlhhjdlaljmppaaTEU
import Derived.Test.YtlhhjdlaljmppaaT4
import Derived.Test.YtlhhjdlaljmppaaT5
set_option linter.unusedVariables false
set_option linter.unusedSimpArgs false
namespace Go.Proofs.Ytlhhjdlaljmppaa.T
open Go.RowKit Go.Proofs Go.Proofs.YtlhhjdlaljmppaaW.PrintWords Go.Proofs.YtlhhjdlaljmppaaW.PrintLast EV
def impl_BestTransposition_1.f (k : Nat) (l0_0 : List Int) (a0_1 : Int) (l1 : List (S60)) (b : Int) : Option Int := (impl_transposeLoss.f k l0_0 a0_1 l1 b).bind fun t => (some t)
set_option maxRecDepth 8000 in
set_option maxHeartbeats 2000000 in
theorem impl_BestTransposition_1.con (k : Nat) (l0_0 : List Int) (a0_1 : Int) (l1 : List (S60)) (b r : Int) (H : impl_BestTransposition_1.f k l0_0 a0_1 l1 b = some r) : Con Try.prog 25 [.p (.c (.v (.int .i64 b))), .p (.fb [.sl (.int .i64) l0_0, .v (.int .i64 a0_1)]), .p (.fb [.sl K60 l1])] (.p (.c (.v (.int .i64 r)))) := by
  refine Con.mk' (fn := Try.f25) Try.func25 rfl (by kernel_rfl) rfl rfl rfl fun X w0 gs hF => ?_
  unfold impl_BestTransposition_1.f at H
  exact auto
instance impl_BestTransposition_1.ctr {k : Nat} {l0_0 : List Int} {a0_1 : Int} {l1 : List (S60)} {b r : Int} : Ctr (impl_BestTransposition_1.f k l0_0 a0_1 l1 b = some r) (Con Try.prog 25 [.p (.c (.v (.int .i64 b))), .p (.fb [.sl (.int .i64) l0_0, .v (.int .i64 a0_1)]), .p (.fb [.sl K60 l1])] (.p (.c (.v (.int .i64 r))))) := ⟨impl_BestTransposition_1.con _ _ _ _ _ _⟩
mutual
def impl_bestBy_T.l0 : Nat → Int → Int → Int → Int → List Int → Int → List (S60) → Option (Int × Int)
  | 0, _, _, _, _, _, _, _ => none
  | k + 1, x0, x6, x7, x8, q0, q1, q2 => if x8 ≤ x0 then (impl_bestBy_T.l1 k x0 x6 x7 x8 [wrap64 (-x8), x8] (([wrap64 (-x8), x8] : List Int).length : Int) 0 q0 q1 q2) else (some (x6, x7))
def impl_bestBy_T.l1 : Nat → Int → Int → Int → Int → List Int → Int → Int → List Int → Int → List (S60) → Option (Int × Int)
  | 0, _, _, _, _, _, _, _, _, _, _ => none
  | k + 1, x0, x6, x7, x8, x22, x23, x24, q0, q1, q2 => if x24 < x23 then (if 0 ≤ x24 then (if x24 < (x22.length : Int) then ((impl_BestTransposition_1.f k q0 q1 q2 (rd x22 x24)).bind fun t => (if t < x7 then (impl_bestBy_T.l1 k x0 (rd x22 x24) t x8 x22 x23 (wrap64 (x24 + 1)) q0 q1 q2) else (impl_bestBy_T.l1 k x0 x6 x7 x8 x22 x23 (wrap64 (x24 + 1)) q0 q1 q2))) else (none)) else (none)) else (impl_bestBy_T.l0 k x0 x6 x7 (wrap64 (x8 + 1)) q0 q1 q2)
end
def impl_bestBy_T.f (k : Nat) (a0 : Int) (l0_0 : List Int) (a0_1 : Int) (l1 : List (S60)) : Option (Int × Int) := (impl_BestTransposition_1.f k l0_0 a0_1 l1 0).bind fun t => (impl_bestBy_T.l0 k a0 0 t 1 l0_0 a0_1 l1)
instance impl_bestBy_T.lp0 {k : Nat} {r : Int × Int} {Q : Wr → Prop} {p0 : Int} {q0 : List Int} {q1 : Int} {q2 : List (S60)} {x6 x7 x8 : Int} : Lp (impl_bestBy_T.l0 k p0 x6 x7 x8 q0 q1 q2 = some r) Q (fun k => ∀ {x6 x7 x8 : Int}, impl_bestBy_T.l0 k p0 x6 x7 x8 q0 q1 q2 = some r → Q [(12, .p (.c (.v (.int .i64 x6)))), (14, .p (.c (.v (.int .i64 x7)))), (16, .p (.c (.v (.int .i64 x8))))]) k [(12, .p (.c (.v (.int .i64 x6)))), (14, .p (.c (.v (.int .i64 x7)))), (16, .p (.c (.v (.int .i64 x8))))] := ⟨fun j h => j h⟩
instance impl_bestBy_T.lp1 {k : Nat} {r : Int × Int} {Q : Wr → Prop} {p0 p8 : Int} {p22 : List Int} {p23 : Int} {q0 : List Int} {q1 : Int} {q2 : List (S60)} {x6 x7 x24 : Int} : Lp (impl_bestBy_T.l1 k p0 x6 x7 p8 p22 p23 x24 q0 q1 q2 = some r) Q (fun k => ∀ {x6 x7 x24 : Int}, impl_bestBy_T.l1 k p0 x6 x7 p8 p22 p23 x24 q0 q1 q2 = some r → Q [(12, .p (.c (.v (.int .i64 x6)))), (14, .p (.c (.v (.int .i64 x7)))), (48, .p (.c (.v (.int .i64 x24))))]) k [(12, .p (.c (.v (.int .i64 x6)))), (14, .p (.c (.v (.int .i64 x7)))), (48, .p (.c (.v (.int .i64 x24))))] := ⟨fun j h => j h⟩
set_option maxRecDepth 8000 in
set_option maxHeartbeats 2000000 in
theorem impl_bestBy_T.con (k : Nat) (a0 : Int) (l0_0 : List Int) (a0_1 : Int) (l1 : List (S60)) (r1 r2 : Int) (H : impl_bestBy_T.f k a0 l0_0 a0_1 l1 = some (r1, r2)) : Con Try.prog 24 [.p (.c (.v (.int .i64 a0))), .fn 25 [.fb [.sl (.int .i64) l0_0, .v (.int .i64 a0_1)], .fb [.sl K60 l1]]] (.tp [.c (.v (.int .i64 r1)), .c (.v (.int .i64 r2))]) := by
  refine Con.mk' (fn := Try.f24) Try.func24 rfl (by kernel_rfl) rfl rfl rfl fun X w0 gs hF => ?_
  unfold impl_bestBy_T.f at H
  exact auto
instance impl_bestBy_T.ctr {k : Nat} {a0 : Int} {l0_0 : List Int} {a0_1 : Int} {l1 : List (S60)} {t_ : Int × Int} : Ctr (impl_bestBy_T.f k a0 l0_0 a0_1 l1 = some t_) (Con Try.prog 24 [.p (.c (.v (.int .i64 a0))), .fn 25 [.fb [.sl (.int .i64) l0_0, .v (.int .i64 a0_1)], .fb [.sl K60 l1]]] (.tp [.c (.v (.int .i64 t_.1)), .c (.v (.int .i64 t_.2))])) := ⟨fun h => impl_bestBy_T.con _ _ _ _ _ _ _ h⟩
def impl_BestTransposition.f (k : Nat) (l0_0 : List Int) (a0_1 : Int) (l1 : List (S60)) : Option (Int × Int × Bool) := (impl_IsInstrument.f k l0_0 a0_1).bind fun t10 => (if t10 = true then ((impl_IsScore.f k l1).bind fun t14 => (if t14 = true then ((impl_bestBy_T.f k 24 l0_0 a0_1 l1).bind fun t19 => (some (t19.1, t19.2, true))) else (some (0, 0, false)))) else (some (0, 0, false)))
set_option maxRecDepth 8000 in
set_option maxHeartbeats 2000000 in
theorem impl_BestTransposition.con (k : Nat) (l0_0 : List Int) (a0_1 : Int) (l1 : List (S60)) (r1 r2 : Int) (r3 : Bool) (H : impl_BestTransposition.f k l0_0 a0_1 l1 = some (r1, r2, r3)) : Con Try.prog 6 [.p (.ag [.sl (.int .i64) l0_0, .v (.int .i64 a0_1)]), .p (.c (.sl K60 l1))] (.tp [.c (.v (.int .i64 r1)), .c (.v (.int .i64 r2)), .c (.v (.bool r3))]) := by
  refine Con.mk' (fn := Try.f6) Try.func6 rfl (by kernel_rfl) rfl rfl rfl fun X w0 gs hF => ?_
  unfold impl_BestTransposition.f at H
  exact auto
instance impl_BestTransposition.ctr {k : Nat} {l0_0 : List Int} {a0_1 : Int} {l1 : List (S60)} {t_ : Int × Int × Bool} : Ctr (impl_BestTransposition.f k l0_0 a0_1 l1 = some t_) (Con Try.prog 6 [.p (.ag [.sl (.int .i64) l0_0, .v (.int .i64 a0_1)]), .p (.c (.sl K60 l1))] (.tp [.c (.v (.int .i64 t_.1)), .c (.v (.int .i64 t_.2.1)), .c (.v (.bool t_.2.2))])) := ⟨fun h => impl_BestTransposition.con _ _ _ _ _ _ _ h⟩

end Go.Proofs.Ytlhhjdlaljmppaa.T
