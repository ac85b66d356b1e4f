/- Written by a program of this session over the print of the loaded functions: what each Go function computes, and that the call comes to it. -/
import Derived.Test.YtjidioekeinppaaBFJN
import Derived.Test.YtjidioekeinppaaB0
import Derived.Test.YtjidioekeinppaaB9
namespace Go.Proofs.Ytjidioekeinppaa.B
open Go.RowKit Go.Proofs.YtjidioekeinppaaW.PrintWords Go.Proofs.YtjidioekeinppaaW.PrintLast Go.Proofs.YtjidioekeinppaaW.PrintMore
attribute [local go_sem] max2_int min2_int max_two min_two max_three min_three max_four min_four   -- for this text's walks alone
set_option linter.unusedVariables false
set_option linter.unusedSimpArgs false

--EXT FJN
def spec_ntSorted.f (k : Nat) (l0 : List (S37)) : Option ((List (S37)) × Bool) := SNote.sortedF k l0
theorem spec_ntSorted.mono : ∀ a0 k, LeO (spec_ntSorted.f k a0) (spec_ntSorted.f (k + 1) a0) := by
 intro a0 k r h
 unfold spec_ntSorted.f SNote.sortedF at h ⊢
 split at h
 ·rename_i hb
  rw [if_pos hb]
  obtain ⟨t, h1, h2⟩ := Option.bind_eq_some_iff.mp h
  exact Option.bind_eq_some_iff.mpr ⟨t, spec_ntGood.mono _ k t h1, h2⟩
 ·cases h
theorem spec_ntSorted.calls (k : Nat) (A0 : Option Addr) (c0 : Nat) (l0 : List (S37)) (r1 : List (S37)) (r2 : Bool) (w : World) (hr0 : Kd.C k37 w A0 l0.length l0) (hc0 : l0.length ≤ c0) (h : spec_ntSorted.f k l0 = some (r1, r2)) :
  Calls Try.prog 94 #[.slice A0 l0.length c0] w fun e w' => ∃ v0_ : Value, e = .returned (.tuple #[v0_, .bool r2]) ∧ Kd.R k37 37 w' w.heap.size (fun _ => True) v0_ r1 ∧ Below w.heap.size w w' := SNote.sorted_calls k A0 c0 l0 r1 r2 w hr0 hc0 h


end Go.Proofs.Ytjidioekeinppaa.B
