/- The pure statement of the law FnNearPins. No condition. -/
import Derived.Test.YthgemodkebahoaaA0
import Derived.Test.YthgemodkebahoaaA18
import Derived.Test.YthgemodkebahoaaAQNP
set_option linter.unusedVariables false
namespace Go.Proofs.Ythgemodkebahoaa.A
open Go.RowKit Go.Proofs.YthgemodkebahoaaW.PrintWords
theorem laws_FnNearPins_pure : ∀ (l0 : List Int) (l1 : List Int), l0.length ≤ 9223372036854775807 → (∀ x ∈ l0, (Lit.int .u8 x).wf = true) → l1.length ≤ 9223372036854775807 → (∀ x ∈ l1, (Lit.int .u8 x).wf = true) → ∃ k, laws_FnNearPins.f k l0 l1 = some true :=
  fun l0 l1 h0 w0 h1 w1 => (np_ev l0 l1 h0 w0 h1 w1).rounds
end Go.Proofs.Ythgemodkebahoaa.A
