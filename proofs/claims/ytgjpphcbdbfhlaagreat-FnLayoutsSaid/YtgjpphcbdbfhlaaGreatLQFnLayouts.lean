/- The pure statement of the law FnLayouts. No condition. -/
import Derived.Test.YtgjpphcbdbfhlaaGreatL0
import Derived.Test.YtgjpphcbdbfhlaaGreatL28
import Derived.Test.YtgjpphcbdbfhlaaGreatLQFY
set_option linter.unusedVariables false
namespace Go.Proofs.YtgjpphcbdbfhlaaGreat.L
open Go.RowKit Go.Proofs.YtgjpphcbdbfhlaaGreatW.PrintWords
theorem laws_FnLayouts_pure : ∀ (l0 : List Int) (l1 : List Int), l0.length ≤ 9223372036854775807 → (∀ x ∈ l0, (Lit.int .u8 x).wf = true) → l1.length ≤ 9223372036854775807 → (∀ x ∈ l1, (Lit.int .u8 x).wf = true) → ∃ k, laws_FnLayouts.f k l0 l1 = some true :=
  fun l0 l1 h0 w0 h1 w1 => (fy_ev l0 l1 h0 w0 h1 w1).rounds
end Go.Proofs.YtgjpphcbdbfhlaaGreat.L
