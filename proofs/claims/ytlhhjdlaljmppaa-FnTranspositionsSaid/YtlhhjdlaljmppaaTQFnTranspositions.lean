/- The pure statement of the law FnTranspositions. No condition. -/
import Derived.Test.YtlhhjdlaljmppaaT0
import Derived.Test.YtlhhjdlaljmppaaT18
import Derived.Test.YtlhhjdlaljmppaaTQFT
set_option linter.unusedVariables false
namespace Go.Proofs.Ytlhhjdlaljmppaa.T
open Go.RowKit Go.Proofs.YtlhhjdlaljmppaaW.PrintWords
theorem laws_FnTranspositions_pure : ∀ (l0 : List Int) (l1 : List Int), l0.length ≤ 9223372036854775807 → (∀ x ∈ l0, (Lit.int .u8 x).wf = true) → l1.length ≤ 9223372036854775807 → (∀ x ∈ l1, (Lit.int .u8 x).wf = true) → ∃ k, laws_FnTranspositions.f k l0 l1 = some true :=
  fun l0 l1 h0 w0 h1 w1 => (ft_ev l0 l1 h0 w0 h1 w1).rounds
end Go.Proofs.Ytlhhjdlaljmppaa.T
