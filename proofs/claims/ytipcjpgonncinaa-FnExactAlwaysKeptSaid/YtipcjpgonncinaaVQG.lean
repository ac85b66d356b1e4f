/- Plain facts on a greedy part of a score. No condition. -/
import Derived.Test.YtipcjpgonncinaaV0
import Derived.Test.YtipcjpgonncinaaV3
import Derived.Test.YtipcjpgonncinaaVQK
set_option linter.unusedVariables false
set_option linter.unusedSimpArgs false
namespace Go.Proofs.Ytipcjpgonncinaa.V
open Go.RowKit Go.Proofs.YtipcjpgonncinaaW.PrintWords Go.Proofs.YtipcjpgonncinaaW.PrintLast Go.Proofs.YtipcjpgonncinaaW.PrintMore

theorem IncFrom.up {hi h2 b : Int} {l : List Int} (h : IncFrom hi b l) (hc : hi ≤ h2) : IncFrom h2 b l := by
  induction h with
  | nil b => exact .nil _
  | cons h0 h1 _ ih => exact .cons h0 (by omega) ih
theorem IncFrom.snoc {i b : Int} {l : List Int} (h : IncFrom i b l) : b ≤ i → IncFrom (i + 1) b (l ++ [i]) := by
  induction h with
  | nil b => intro hb; exact .cons hb (by omega) (.nil _)
  | cons h0 h1 _ ih => intro hb; exact .cons h0 (by omega) (ih (by omega))
theorem own_eq (K : List Int) (h : K.length ≤ 1048576) : spec_l1Own.f K = some K := by
  unfold spec_l1Own.f
  simp only [Option.bind_some, List.nil_append, List.length_nil, Nat.zero_add]
  rw [if_pos (by omega)]