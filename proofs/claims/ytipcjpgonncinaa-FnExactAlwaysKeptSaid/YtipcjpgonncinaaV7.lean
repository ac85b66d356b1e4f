/- BY EV: what the Go functions compute (read off the print), and that their calls come to it. No condition. -/
import Derived.Test.YtipcjpgonncinaaVEU
import Derived.Test.YtipcjpgonncinaaV3
import Derived.Test.YtipcjpgonncinaaV4
set_option linter.unusedVariables false
set_option linter.unusedSimpArgs false
namespace Go.Proofs.Ytipcjpgonncinaa.V
open Go.RowKit Go.Proofs Go.Proofs.YtipcjpgonncinaaW.PrintWords Go.Proofs.YtipcjpgonncinaaW.PrintLast EV
def spec_look.l1 : Nat → List Int → Int → Int → Int → List Bool → List Int → Option (List Int × Int × List Bool)
  | 0, _, _, _, _, _, _ => none
  | k + 1, kp, le, p92, x93, al, q1 => if x93 < p92 then (if 0 ≤ x93 then (if x93 < (al.length : Int) then (if rdOf false al x93 = true then ((spec_l1Has.f k q1 x93).bind fun t111 => (spec_look.l1 k kp le p92 (wrap64 (x93 + 1)) (al.set (x93 : Int).toNat t111) q1)) else (spec_look.l1 k kp le p92 (wrap64 (x93 + 1)) (al.set (x93 : Int).toNat false) q1)) else (none)) else (none)) else (some (kp, le, al))
def spec_look.l2 : Nat → List Int → Int → Int → Int → List Bool → List Int → Option (List Int × Int × List Bool)
  | 0, _, _, _, _, _, _ => none
  | k + 1, kp, le, p92, x93, al, q1 => if x93 < p92 then (if 0 ≤ x93 then (if x93 < (al.length : Int) then (if rdOf false al x93 = true then ((spec_l1Has.f k q1 x93).bind fun t111 => (spec_look.l2 k kp le p92 (wrap64 (x93 + 1)) (al.set (x93 : Int).toNat t111) q1)) else (spec_look.l2 k kp le p92 (wrap64 (x93 + 1)) (al.set (x93 : Int).toNat false) q1)) else (none)) else (none)) else (some (kp, le, al))
def spec_look.l3 : Nat → List Int → Int → Int → Int → List Bool → List Int → Option (List Int × Int × List Bool)
  | 0, _, _, _, _, _, _ => none
  | k + 1, kp, le, p92, x93, al, q1 => if x93 < p92 then (if 0 ≤ x93 then (if x93 < (al.length : Int) then (if rdOf false al x93 = true then ((spec_l1Has.f k q1 x93).bind fun t111 => (spec_look.l3 k kp le p92 (wrap64 (x93 + 1)) (al.set (x93 : Int).toNat t111) q1)) else (spec_look.l3 k kp le p92 (wrap64 (x93 + 1)) (al.set (x93 : Int).toNat false) q1)) else (none)) else (none)) else (some (kp, le, al))
def spec_look.l0 : Nat → List Int → Int → Int → Int → List Bool → List (S51) → List Int → Option (List Int × Int × List Bool)
  | 0, _, _, _, _, _, _, _ => none
  | k + 1, kp, le, p66, x67, al, l1, q1 => if x67 < p66 then (if 0 ≤ x67 then (if x67 < (al.length : Int) then (spec_look.l0 k kp le p66 (wrap64 (x67 + 1)) (al.set (x67 : Int).toNat true) l1 q1) else (none)) else (none)) else (spec_look.l1 k kp le (l1.length : Int) 0 al q1)
abbrev LookF := Nat → List Int → Int → List (S51) → Int → List Int → Int → List Bool → List Int → Int → Int → Option (List Int × Int × List Bool)
def spec_look.j2 (F : LookF) : LookF
  | 0, _, _, _, _, _, _, _, _, _, _ => none
  | k + 1, l0_0, a0_1, l1, a2, kp, le, al, q1, i, lo => if 0 ≤ i then (if i < (l1.length : Int) then ((F k l0_0 a0_1 l1 a2 kp le al q1 (wrap64 (i + 1)) (wrap64 (lo + (rd_T51 l1 i).f2))).bind fun s => (some (s.1, s.2.1, s.2.2))) else (none)) else (none)
def spec_look.j1 : LookF
  | 0, _, _, _, _, _, _, _, _, _, _ => none
  | k + 1, l0_0, a0_1, l1, a2, kp, le, al, q1, i, lo => (spec_l1Own.f q1).bind fun t50 => (if (l1.length : Int) ≤ 35184372088832 then (spec_look.l0 k t50 lo ((List.replicate (l1.length : Int).toNat false).length : Int) 0 (List.replicate (l1.length : Int).toNat false) l1 q1) else (none))
def spec_look.j0 (F : LookF) : LookF
  | 0, _, _, _, _, _, _, _, _, _, _ => none
  | k + 1, l0_0, a0_1, l1, a2, kp, le, al, q1, i, lo => if i = (l1.length : Int) then (if le < 0 then (spec_look.j1 k l0_0 a0_1 l1 a2 kp le al q1 i lo) else (if lo < le then (spec_look.j1 k l0_0 a0_1 l1 a2 kp le al q1 i lo) else ((spec_thBefore.f k q1 kp).bind fun t82 => (if t82 = true then ((spec_l1Own.f q1).bind fun t85 => (spec_look.l3 k t85 le (l1.length : Int) 0 al q1)) else (spec_look.l2 k kp le (l1.length : Int) 0 al q1))))) else ((spec_l1Own.f q1).bind fun t116 => (if t116.length < 17592186044416 then ((spec_thIs.f k l0_0 a0_1 l1 a2 (t116 ++ [i])).bind fun t133 => (if t133 = true then ((F k l0_0 a0_1 l1 a2 kp le al (t116 ++ [i]) (wrap64 (i + 1)) lo).bind fun s => (spec_look.j2 F k l0_0 a0_1 l1 a2 s.1 s.2.1 s.2.2 q1 i lo)) else (spec_look.j2 F k l0_0 a0_1 l1 a2 kp le al q1 i lo))) else (none)))
def spec_look.f : Nat → LookF
  | 0, _, _, _, _, _, _, _, _, _, _, _ => none
  | d + 1, k, l0_0, a0_1, l1, a2, kp, le, al, q1, i, lo => if le ≥ 0 then (if lo > le then (some (kp, le, al)) else (spec_look.j0 (spec_look.f d) k l0_0 a0_1 l1 a2 kp le al q1 i lo)) else (spec_look.j0 (spec_look.f d) k l0_0 a0_1 l1 a2 kp le al q1 i lo)
instance spec_look.lp0 {k : Nat} {r : List Int × Int × List Bool} {Q : Wr → Prop} {kp q1 : List Int} {le p66 : Int} {l1 : List (S51)} {al : List Bool} {x67 : Int} : Lp (spec_look.l0 k kp le p66 x67 al l1 q1 = some r) Q (fun k => ∀ {al : List Bool} {x67 : Int}, spec_look.l0 k kp le p66 x67 al l1 q1 = some r → Q [(101, .row 3 (.int .i64) kp), (119, .row 4 .bool al), (134, .p (.c (.v (.int .i64 x67))))]) k [(101, .row 3 (.int .i64) kp), (119, .row 4 .bool al), (134, .p (.c (.v (.int .i64 x67))))] := ⟨fun j h => j h⟩
instance spec_look.lp1 {k : Nat} {r : List Int × Int × List Bool} {Q : Wr → Prop} {kp q1 : List Int} {le p92 : Int} {al : List Bool} {x93 : Int} : Lp (spec_look.l1 k kp le p92 x93 al q1 = some r) Q (fun k => ∀ {al : List Bool} {x93 : Int}, spec_look.l1 k kp le p92 x93 al q1 = some r → Q [(101, .row 3 (.int .i64) kp), (119, .row 4 .bool al), (186, .p (.c (.v (.int .i64 x93))))]) k [(101, .row 3 (.int .i64) kp), (119, .row 4 .bool al), (186, .p (.c (.v (.int .i64 x93))))] := ⟨fun j h => j h⟩
instance spec_look.lp2 {k : Nat} {r : List Int × Int × List Bool} {Q : Wr → Prop} {kp q1 : List Int} {le p92 : Int} {al : List Bool} {x93 : Int} : Lp (spec_look.l2 k kp le p92 x93 al q1 = some r) Q (fun k => ∀ {al : List Bool} {x93 : Int}, spec_look.l2 k kp le p92 x93 al q1 = some r → Q [(635, .row 4 .bool al), (186, .p (.c (.v (.int .i64 x93))))]) k [(635, .row 4 .bool al), (186, .p (.c (.v (.int .i64 x93))))] := ⟨fun j h => j h⟩
instance spec_look.lp3 {k : Nat} {r : List Int × Int × List Bool} {Q : Wr → Prop} {kp q1 : List Int} {le p92 : Int} {al : List Bool} {x93 : Int} : Lp (spec_look.l3 k kp le p92 x93 al q1 = some r) Q (fun k => ∀ {al : List Bool} {x93 : Int}, spec_look.l3 k kp le p92 x93 al q1 = some r → Q [(171, .row 3 (.int .i64) kp), (635, .row 4 .bool al), (186, .p (.c (.v (.int .i64 x93))))]) k [(171, .row 3 (.int .i64) kp), (635, .row 4 .bool al), (186, .p (.c (.v (.int .i64 x93))))] := ⟨fun j h => j h⟩
set_option maxRecDepth 8000 in
set_option maxHeartbeats 4000000 in
theorem spec_look.con : ∀ (d k : Nat) (l0_0 : List Int) (a0_1 : Int) (l1 : List (S51)) (a2 : Int) (kp : List Int) (le : Int) (al : List Bool) (q1 : List Int) (i lo : Int) (r1 : List Int) (r2 : Int) (r3 : List Bool) (H : spec_look.f d k l0_0 a0_1 l1 a2 kp le al q1 i lo = some (r1, r2, r3)), Con Try.prog 62 [.p (.ob 67 [.sl (.int .i64) l0_0, .v (.int .i64 a0_1), .sl K51 l1, .v (.int .i64 a2), .sl (.int .i64) kp, .v (.int .i64 le), .ow 4 .bool al]), .p (.c (.sl (.int .i64) q1)), .p (.c (.v (.int .i64 i))), .p (.c (.v (.int .i64 lo)))] (.tp []) [(0, .ob 67 [.sl (.int .i64) l0_0, .v (.int .i64 a0_1), .sl K51 l1, .v (.int .i64 a2), .sl (.int .i64) r1, .v (.int .i64 r2), .ow 4 .bool r3])] := by
  intro d
  induction d with
  | zero => intro k l0_0 a0_1 l1 a2 kp le al q1 i lo r1 r2 r3 H; cases H
  | succ d ih =>
    intro k l0_0 a0_1 l1 a2 kp le al q1 i lo r1 r2 r3 H
    haveI hc : ∀ {k : Nat} {l0_0 : List Int} {a0_1 : Int} {l1 : List (S51)} {a2 : Int} {kp : List Int} {le : Int} {al : List Bool} {q1 : List Int} {i lo : Int} {t_ : List Int × Int × List Bool}, Ctr (spec_look.f d k l0_0 a0_1 l1 a2 kp le al q1 i lo = some t_) (Con Try.prog 62 [.p (.ob 67 [.sl (.int .i64) l0_0, .v (.int .i64 a0_1), .sl K51 l1, .v (.int .i64 a2), .sl (.int .i64) kp, .v (.int .i64 le), .ow 4 .bool al]), .p (.c (.sl (.int .i64) q1)), .p (.c (.v (.int .i64 i))), .p (.c (.v (.int .i64 lo)))] (.tp []) [(0, .ob 67 [.sl (.int .i64) l0_0, .v (.int .i64 a0_1), .sl K51 l1, .v (.int .i64 a2), .sl (.int .i64) t_.1, .v (.int .i64 t_.2.1), .ow 4 .bool t_.2.2])]) := ⟨fun h => ih _ _ _ _ _ _ _ _ _ _ _ _ _ _ h⟩
    clear ih
    refine Con.mk' (fn := Try.f62) Try.func62 rfl (by kernel_rfl) rfl rfl rfl fun X w0 gs hF => ?_
    rw [spec_look.f] at H
    exact auto
instance spec_look.ctr {d k : Nat} {l0_0 : List Int} {a0_1 : Int} {l1 : List (S51)} {a2 : Int} {kp : List Int} {le : Int} {al : List Bool} {q1 : List Int} {i lo : Int} {t_ : List Int × Int × List Bool} : Ctr (spec_look.f d k l0_0 a0_1 l1 a2 kp le al q1 i lo = some t_) (Con Try.prog 62 [.p (.ob 67 [.sl (.int .i64) l0_0, .v (.int .i64 a0_1), .sl K51 l1, .v (.int .i64 a2), .sl (.int .i64) kp, .v (.int .i64 le), .ow 4 .bool al]), .p (.c (.sl (.int .i64) q1)), .p (.c (.v (.int .i64 i))), .p (.c (.v (.int .i64 lo)))] (.tp []) [(0, .ob 67 [.sl (.int .i64) l0_0, .v (.int .i64 a0_1), .sl K51 l1, .v (.int .i64 a2), .sl (.int .i64) t_.1, .v (.int .i64 t_.2.1), .ow 4 .bool t_.2.2])]) := ⟨fun h => spec_look.con _ _ _ _ _ _ _ _ _ _ _ _ _ _ _ h⟩
def spec_thSearch.f (k : Nat) (l0_0 : List Int) (a0_1 : Int) (l1 : List (S51)) (a2 : Int) : Option (List Int × Int × List Bool) := (spec_look.f k k l0_0 a0_1 l1 a2 [] (-1) [] [] 0 0).bind fun s => (some (s.1, s.2.1, s.2.2))
set_option maxRecDepth 8000 in
set_option maxHeartbeats 2000000 in
theorem spec_thSearch.con (k : Nat) (l0_0 : List Int) (a0_1 : Int) (l1 : List (S51)) (a2 : Int) (r1 : List Int) (r2 : Int) (r3 : List Bool) (H : spec_thSearch.f k l0_0 a0_1 l1 a2 = some (r1, r2, r3)) : Con Try.prog 51 [.p (.ag [.sl (.int .i64) l0_0, .v (.int .i64 a0_1)]), .p (.c (.sl K51 l1)), .p (.c (.v (.int .i64 a2)))] (.p (.ob 67 [.sl (.int .i64) l0_0, .v (.int .i64 a0_1), .sl K51 l1, .v (.int .i64 a2), .sl (.int .i64) r1, .v (.int .i64 r2), .ow 4 .bool r3])) := by
  refine Con.mk' (fn := Try.f51) Try.func51 rfl (by kernel_rfl) rfl rfl rfl fun X w0 gs hF => ?_
  unfold spec_thSearch.f at H
  exact auto
instance spec_thSearch.ctr {k : Nat} {l0_0 : List Int} {a0_1 : Int} {l1 : List (S51)} {a2 : Int} {t_ : List Int × Int × List Bool} : Ctr (spec_thSearch.f k l0_0 a0_1 l1 a2 = some t_) (Con Try.prog 51 [.p (.ag [.sl (.int .i64) l0_0, .v (.int .i64 a0_1)]), .p (.c (.sl K51 l1)), .p (.c (.v (.int .i64 a2)))] (.p (.ob 67 [.sl (.int .i64) l0_0, .v (.int .i64 a0_1), .sl K51 l1, .v (.int .i64 a2), .sl (.int .i64) t_.1, .v (.int .i64 t_.2.1), .ow 4 .bool t_.2.2]))) := ⟨fun h => spec_thSearch.con _ _ _ _ _ _ _ _ h⟩

end Go.Proofs.Ytipcjpgonncinaa.V
