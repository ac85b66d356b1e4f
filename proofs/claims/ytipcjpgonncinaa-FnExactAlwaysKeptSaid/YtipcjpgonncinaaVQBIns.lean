/- Plain facts on the helpers that all laws of this seat use: bounds, copies, comparisons, marks. No condition. -/
import Derived.Test.YtipcjpgonncinaaV0
import Derived.Test.YtipcjpgonncinaaV1
import Derived.Test.YtipcjpgonncinaaV2
import Derived.Test.YtipcjpgonncinaaV6
import Derived.Test.YtipcjpgonncinaaVQBInt
set_option linter.unusedVariables false
set_option linter.unusedSimpArgs false
namespace Go.Proofs.Ytipcjpgonncinaa.V
open Go.RowKit Go.Proofs.YtipcjpgonncinaaW.PrintWords Go.Proofs.YtipcjpgonncinaaW.PrintLast Go.Proofs.YtipcjpgonncinaaW.PrintMore

/-! instruments -/
theorem szInstrument_cases (l : List Int) (r : Int) (a : Int) (h0 : 0 ≤ a) (h1 : a ≤ 1048576) (hb : l.length ≤ 9223372036854775807) :
    laws_szInstrument.f l r a = some (-1) ∨ ∃ n, 0 ≤ n ∧ n ≤ a ∧ (l.length : Int) ≤ a ∧ laws_szInstrument.f l r a = some n := by
  unfold laws_szInstrument.f
  rcases szIntS_cases l a h0 h1 hb with h | ⟨n, n0, n1, n2, h⟩
  · exact Or.inl (by rw [h]; rfl)
  · exact Or.inr ⟨n, n0, n1, n2, by rw [h]; simp only [Option.bind_some]; rw [if_neg (by omega)]⟩
theorem toInstrument_ev (l : List Int) (r : Int) (hl : l.length ≤ 1048576) : Ev (fun k => laws_toInstrument.f k l r) (l, r) := by
  unfold laws_toInstrument.f
  exact Ev.bind (toIntS_ev l hl) (Ev.now _)
theorem eqInstrument_ev (l : List Int) (r : Int) (hl : l.length ≤ 4611686018427387) : Ev (fun k => laws_eqInstrument.f k l r l r) true := by
  unfold laws_eqInstrument.f
  refine Ev.bind (eqIntS_ev l hl) ?_
  simp only [↓reduceIte]
  exact Ev.now _
theorem markInstrument_ev (l : List Int) (r : Int) (m : Int) (h0 : 0 ≤ m) (h1 : m ≤ 1152921504606846976) (hl : l.length ≤ 1125899906842624) : Ev (fun k => laws_markInstrument.f k l r m) (m + l.length, marksI m l.length) := by
  unfold laws_markInstrument.f
  exact Ev.bind (markIntS_ev l m h0 h1 hl) (Ev.now _)

end Go.Proofs.Ytipcjpgonncinaa.V
