/- The pure statement of the law FnFolds. No condition. -/
import Derived.Test.YtlhhjdlaljmppaaGreatT0
import Derived.Test.YtlhhjdlaljmppaaGreatT20
import Derived.Test.YtlhhjdlaljmppaaGreatTQA
set_option linter.unusedVariables false
namespace Go.Proofs.YtlhhjdlaljmppaaGreat.T
open Go.RowKit Go.Proofs.YtlhhjdlaljmppaaGreatW.PrintWords
theorem laws_FnFolds_pure : ∀ (l0 : List Int) (l1 : List Int), l0.length ≤ 9223372036854775807 → (∀ x ∈ l0, (Lit.int .u8 x).wf = true) → l1.length ≤ 9223372036854775807 → (∀ x ∈ l1, (Lit.int .u8 x).wf = true) → ∃ k, laws_FnFolds.f k l0 l1 = some true :=
  fun l0 l1 h0 w0 h1 w1 => (ff_ev l0 l1 h0 w0 h1 w1).rounds
end Go.Proofs.YtlhhjdlaljmppaaGreat.T
