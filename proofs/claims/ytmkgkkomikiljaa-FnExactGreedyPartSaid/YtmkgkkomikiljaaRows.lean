/-
  No cell of these rows narrows 'for every input' (looked for: loops, veiled, ifaces, maps, wideKeys, modest, calm, conditions, laid).
  DERIVED. THE GIVEN ROWS OF THIS SEAT. 11 by the template 'for every input the law returns true; each argument reads behind the call as it read before'; 0 by the template 'total and deterministic' (their statements: YtmkgkkomikiljaaTotals.lean).
  GIVEN WITH THE SEED: the statements are not yours to turn. If you find one false, say at which input.
  Laid BY PROGRAM, IN A SANDBOX (cutbox-rows.mjs): the forced cells as the released guide's own fill.sh prints them over the translation 3f70ed603e501bad… (all of the seat's roots in one cut). By AI agents, Wed Nov 11 2026. No macro, syntax, notation, axiom, sorry.
-/
import Derived.Test.YtmkgkkomikiljaaChecked
import GoSem.Claim
import GoSem.ClaimJoined
import GoSem.ClaimMapViews
import Derived.JoinedTies
import Derived.KernelRfl
namespace Go.Proofs.Ytmkgkkomikiljaa
/- THE CELL 'sum', in the pinned program and in every row, IS THE sha256 OF THE DUMP (.gsa) THAT YtmkgkkomikiljaaProg.lean LOADS. Nothing in Lean hashes anything: it is a label: what it is worth is what the hold of that sum in a sandbox is worth. -/
noncomputable def Try.pinned : Pinned := { name := "ytmkgkkomikiljaa", sum := "3f70ed603e501badebbd97f3580612c3c4f4f424565e58b333c199b4475ddde5", checked := Try.checked }
namespace Rows
def none {H : Type} : Left H := { results := [], args := [] }

/-- 'laws.FnExactMostVoices': WHATEVER THE INPUT: true; the input reads as it did. -/
def fnExactMostVoicesSpec : ChangeSpec := { name := "fnExactMostVoices", fn := fun _ => fun
  | [d] => { results := [.lit (.bool true)], args := [d] }
  | _ => none }
def fnExactMostVoicesRow : OpenClaim := { program := "ytmkgkkomikiljaa", sum := "3f70ed603e501badebbd97f3580612c3c4f4f424565e58b333c199b4475ddde5", func := "loop.example/g00949/laws.FnExactMostVoices", spec := "fnExactMostVoices", apart := false }
def FnExactMostVoicesSaid : Prop := fnExactMostVoicesRow.holds Try.pinned (OpenSpec.ofChange fnExactMostVoicesSpec)

/-- ITS FALSE NEIGHBOUR: 'it returns false'. Refute it at one input. -/
def fnExactMostVoicesWrong : ChangeSpec := { name := "fnExactMostVoices", fn := fun _ => fun
  | [d] => { results := [.lit (.bool false)], args := [d] }
  | _ => none }
def FnExactMostVoicesWrongFalsely : Prop := fnExactMostVoicesRow.holds Try.pinned (OpenSpec.ofChange fnExactMostVoicesWrong)

/-- 'laws.FnExactThinLoss': WHATEVER THE INPUT: true; the input reads as it did. -/
def fnExactThinLossSpec : ChangeSpec := { name := "fnExactThinLoss", fn := fun _ => fun
  | [d1, d2] => { results := [.lit (.bool true)], args := [d1, d2] }
  | _ => none }
def fnExactThinLossRow : OpenClaim := { program := "ytmkgkkomikiljaa", sum := "3f70ed603e501badebbd97f3580612c3c4f4f424565e58b333c199b4475ddde5", func := "loop.example/g00949/laws.FnExactThinLoss", spec := "fnExactThinLoss", apart := false }
def FnExactThinLossSaid : Prop := fnExactThinLossRow.holds Try.pinned (OpenSpec.ofChange fnExactThinLossSpec)

/-- ITS FALSE NEIGHBOUR: 'it returns false'. Refute it at one input. -/
def fnExactThinLossWrong : ChangeSpec := { name := "fnExactThinLoss", fn := fun _ => fun
  | [d1, d2] => { results := [.lit (.bool false)], args := [d1, d2] }
  | _ => none }
def FnExactThinLossWrongFalsely : Prop := fnExactThinLossRow.holds Try.pinned (OpenSpec.ofChange fnExactThinLossWrong)

/-- 'laws.FnExactKeptScore': WHATEVER THE INPUT: true; the input reads as it did. -/
def fnExactKeptScoreSpec : ChangeSpec := { name := "fnExactKeptScore", fn := fun _ => fun
  | [d1, d2] => { results := [.lit (.bool true)], args := [d1, d2] }
  | _ => none }
def fnExactKeptScoreRow : OpenClaim := { program := "ytmkgkkomikiljaa", sum := "3f70ed603e501badebbd97f3580612c3c4f4f424565e58b333c199b4475ddde5", func := "loop.example/g00949/laws.FnExactKeptScore", spec := "fnExactKeptScore", apart := false }
def FnExactKeptScoreSaid : Prop := fnExactKeptScoreRow.holds Try.pinned (OpenSpec.ofChange fnExactKeptScoreSpec)

/-- ITS FALSE NEIGHBOUR: 'it returns false'. Refute it at one input. -/
def fnExactKeptScoreWrong : ChangeSpec := { name := "fnExactKeptScore", fn := fun _ => fun
  | [d1, d2] => { results := [.lit (.bool false)], args := [d1, d2] }
  | _ => none }
def FnExactKeptScoreWrongFalsely : Prop := fnExactKeptScoreRow.holds Try.pinned (OpenSpec.ofChange fnExactKeptScoreWrong)

/-- 'laws.FnExactJoinRepeats': WHATEVER THE INPUT: true; the input reads as it did. -/
def fnExactJoinRepeatsSpec : ChangeSpec := { name := "fnExactJoinRepeats", fn := fun _ => fun
  | [d1, d2] => { results := [.lit (.bool true)], args := [d1, d2] }
  | _ => none }
def fnExactJoinRepeatsRow : OpenClaim := { program := "ytmkgkkomikiljaa", sum := "3f70ed603e501badebbd97f3580612c3c4f4f424565e58b333c199b4475ddde5", func := "loop.example/g00949/laws.FnExactJoinRepeats", spec := "fnExactJoinRepeats", apart := false }
def FnExactJoinRepeatsSaid : Prop := fnExactJoinRepeatsRow.holds Try.pinned (OpenSpec.ofChange fnExactJoinRepeatsSpec)

/-- ITS FALSE NEIGHBOUR: 'it returns false'. Refute it at one input. -/
def fnExactJoinRepeatsWrong : ChangeSpec := { name := "fnExactJoinRepeats", fn := fun _ => fun
  | [d1, d2] => { results := [.lit (.bool false)], args := [d1, d2] }
  | _ => none }
def FnExactJoinRepeatsWrongFalsely : Prop := fnExactJoinRepeatsRow.holds Try.pinned (OpenSpec.ofChange fnExactJoinRepeatsWrong)

/-- 'laws.FnExactLossBound': WHATEVER THE INPUT: true; the input reads as it did. -/
def fnExactLossBoundSpec : ChangeSpec := { name := "fnExactLossBound", fn := fun _ => fun
  | [d1, d2, d3] => { results := [.lit (.bool true)], args := [d1, d2, d3] }
  | _ => none }
def fnExactLossBoundRow : OpenClaim := { program := "ytmkgkkomikiljaa", sum := "3f70ed603e501badebbd97f3580612c3c4f4f424565e58b333c199b4475ddde5", func := "loop.example/g00949/laws.FnExactLossBound", spec := "fnExactLossBound", apart := false }
def FnExactLossBoundSaid : Prop := fnExactLossBoundRow.holds Try.pinned (OpenSpec.ofChange fnExactLossBoundSpec)

/-- ITS FALSE NEIGHBOUR: 'it returns false'. Refute it at one input. -/
def fnExactLossBoundWrong : ChangeSpec := { name := "fnExactLossBound", fn := fun _ => fun
  | [d1, d2, d3] => { results := [.lit (.bool false)], args := [d1, d2, d3] }
  | _ => none }
def FnExactLossBoundWrongFalsely : Prop := fnExactLossBoundRow.holds Try.pinned (OpenSpec.ofChange fnExactLossBoundWrong)

/-- 'laws.FnExactIsThinned': WHATEVER THE INPUT: true; the input reads as it did. -/
def fnExactIsThinnedSpec : ChangeSpec := { name := "fnExactIsThinned", fn := fun _ => fun
  | [d1, d2, d3, d4] => { results := [.lit (.bool true)], args := [d1, d2, d3, d4] }
  | _ => none }
def fnExactIsThinnedRow : OpenClaim := { program := "ytmkgkkomikiljaa", sum := "3f70ed603e501badebbd97f3580612c3c4f4f424565e58b333c199b4475ddde5", func := "loop.example/g00949/laws.FnExactIsThinned", spec := "fnExactIsThinned", apart := false }
def FnExactIsThinnedSaid : Prop := fnExactIsThinnedRow.holds Try.pinned (OpenSpec.ofChange fnExactIsThinnedSpec)

/-- ITS FALSE NEIGHBOUR: 'it returns false'. Refute it at one input. -/
def fnExactIsThinnedWrong : ChangeSpec := { name := "fnExactIsThinned", fn := fun _ => fun
  | [d1, d2, d3, d4] => { results := [.lit (.bool false)], args := [d1, d2, d3, d4] }
  | _ => none }
def FnExactIsThinnedWrongFalsely : Prop := fnExactIsThinnedRow.holds Try.pinned (OpenSpec.ofChange fnExactIsThinnedWrong)

/-- 'laws.FnExactGreedyPart': WHATEVER THE INPUT: true; the input reads as it did. -/
def fnExactGreedyPartSpec : ChangeSpec := { name := "fnExactGreedyPart", fn := fun _ => fun
  | [d1, d2, d3] => { results := [.lit (.bool true)], args := [d1, d2, d3] }
  | _ => none }
def fnExactGreedyPartRow : OpenClaim := { program := "ytmkgkkomikiljaa", sum := "3f70ed603e501badebbd97f3580612c3c4f4f424565e58b333c199b4475ddde5", func := "loop.example/g00949/laws.FnExactGreedyPart", spec := "fnExactGreedyPart", apart := false }
def FnExactGreedyPartSaid : Prop := fnExactGreedyPartRow.holds Try.pinned (OpenSpec.ofChange fnExactGreedyPartSpec)

/-- ITS FALSE NEIGHBOUR: 'it returns false'. Refute it at one input. -/
def fnExactGreedyPartWrong : ChangeSpec := { name := "fnExactGreedyPart", fn := fun _ => fun
  | [d1, d2, d3] => { results := [.lit (.bool false)], args := [d1, d2, d3] }
  | _ => none }
def FnExactGreedyPartWrongFalsely : Prop := fnExactGreedyPartRow.holds Try.pinned (OpenSpec.ofChange fnExactGreedyPartWrong)

/-- 'laws.FnExactVoicesFor': WHATEVER THE INPUT: true; the input reads as it did. -/
def fnExactVoicesForSpec : ChangeSpec := { name := "fnExactVoicesFor", fn := fun _ => fun
  | [d1, d2, d3] => { results := [.lit (.bool true)], args := [d1, d2, d3] }
  | _ => none }
def fnExactVoicesForRow : OpenClaim := { program := "ytmkgkkomikiljaa", sum := "3f70ed603e501badebbd97f3580612c3c4f4f424565e58b333c199b4475ddde5", func := "loop.example/g00949/laws.FnExactVoicesFor", spec := "fnExactVoicesFor", recurses := true, apart := false }
def FnExactVoicesForSaid : Prop := fnExactVoicesForRow.holds Try.pinned (OpenSpec.ofChange fnExactVoicesForSpec)

/-- ITS FALSE NEIGHBOUR: 'it returns false'. Refute it at one input. -/
def fnExactVoicesForWrong : ChangeSpec := { name := "fnExactVoicesFor", fn := fun _ => fun
  | [d1, d2, d3] => { results := [.lit (.bool false)], args := [d1, d2, d3] }
  | _ => none }
def FnExactVoicesForWrongFalsely : Prop := fnExactVoicesForRow.holds Try.pinned (OpenSpec.ofChange fnExactVoicesForWrong)

/-- 'laws.FnExactAlwaysKept': WHATEVER THE INPUT: true; the input reads as it did. -/
def fnExactAlwaysKeptSpec : ChangeSpec := { name := "fnExactAlwaysKept", fn := fun _ => fun
  | [d1, d2, d3] => { results := [.lit (.bool true)], args := [d1, d2, d3] }
  | _ => none }
def fnExactAlwaysKeptRow : OpenClaim := { program := "ytmkgkkomikiljaa", sum := "3f70ed603e501badebbd97f3580612c3c4f4f424565e58b333c199b4475ddde5", func := "loop.example/g00949/laws.FnExactAlwaysKept", spec := "fnExactAlwaysKept", recurses := true, apart := false }
def FnExactAlwaysKeptSaid : Prop := fnExactAlwaysKeptRow.holds Try.pinned (OpenSpec.ofChange fnExactAlwaysKeptSpec)

/-- ITS FALSE NEIGHBOUR: 'it returns false'. Refute it at one input. -/
def fnExactAlwaysKeptWrong : ChangeSpec := { name := "fnExactAlwaysKept", fn := fun _ => fun
  | [d1, d2, d3] => { results := [.lit (.bool false)], args := [d1, d2, d3] }
  | _ => none }
def FnExactAlwaysKeptWrongFalsely : Prop := fnExactAlwaysKeptRow.holds Try.pinned (OpenSpec.ofChange fnExactAlwaysKeptWrong)

/-- 'laws.FnExactLeastLoss': WHATEVER THE INPUT: true; the input reads as it did. -/
def fnExactLeastLossSpec : ChangeSpec := { name := "fnExactLeastLoss", fn := fun _ => fun
  | [d1, d2, d3] => { results := [.lit (.bool true)], args := [d1, d2, d3] }
  | _ => none }
def fnExactLeastLossRow : OpenClaim := { program := "ytmkgkkomikiljaa", sum := "3f70ed603e501badebbd97f3580612c3c4f4f424565e58b333c199b4475ddde5", func := "loop.example/g00949/laws.FnExactLeastLoss", spec := "fnExactLeastLoss", unfollowed := true, recurses := true, apart := false }
def FnExactLeastLossSaid : Prop := fnExactLeastLossRow.holds Try.pinned (OpenSpec.ofChange fnExactLeastLossSpec)

/-- ITS FALSE NEIGHBOUR: 'it returns false'. Refute it at one input. -/
def fnExactLeastLossWrong : ChangeSpec := { name := "fnExactLeastLoss", fn := fun _ => fun
  | [d1, d2, d3] => { results := [.lit (.bool false)], args := [d1, d2, d3] }
  | _ => none }
def FnExactLeastLossWrongFalsely : Prop := fnExactLeastLossRow.holds Try.pinned (OpenSpec.ofChange fnExactLeastLossWrong)

/-- 'laws.FnThinned': WHATEVER THE INPUT: true; the input reads as it did. -/
def fnThinnedSpec : ChangeSpec := { name := "fnThinned", fn := fun _ => fun
  | [d1, d2] => { results := [.lit (.bool true)], args := [d1, d2] }
  | _ => none }
def fnThinnedRow : OpenClaim := { program := "ytmkgkkomikiljaa", sum := "3f70ed603e501badebbd97f3580612c3c4f4f424565e58b333c199b4475ddde5", func := "loop.example/g00949/laws.FnThinned", spec := "fnThinned", unfollowed := true, recurses := true, apart := false }
def FnThinnedSaid : Prop := fnThinnedRow.holds Try.pinned (OpenSpec.ofChange fnThinnedSpec)

/-- ITS FALSE NEIGHBOUR: 'it returns false'. Refute it at one input. -/
def fnThinnedWrong : ChangeSpec := { name := "fnThinned", fn := fun _ => fun
  | [d1, d2] => { results := [.lit (.bool false)], args := [d1, d2] }
  | _ => none }
def FnThinnedWrongFalsely : Prop := fnThinnedRow.holds Try.pinned (OpenSpec.ofChange fnThinnedWrong)

/- THE SECOND FORM. 'bulk': how many values and letters a reading holds, each counted each time it is reached (what is shared counts as often as it is met; a slice's spare places count too). A statement '..UptoSaid' is the law's where the arguments, and the package variables that the reading takes, are together of bulk at most 1048576: NARROWER than '..Said'. Prove '..Said' where nothing that the law and all that it calls make is longer than what came in: it says more and counts as full. Else prove '..UptoSaid'. A law counts once. -/
mutual
def uptoBulk {H : Type} : DataW H → Nat
  | .lit (.string bytes) => bytes.length + 1
  | .lit _ => 1
  | .nil => 1
  | .ptr d => uptoBulk d + 1
  | .slice elems spare => uptoBulkAll elems + uptoBulkAll spare + 1
  | .agg parts => uptoBulkAll parts + 1
  | .iface _ d => uptoBulk d + 1
  | .map entries => uptoBulkEntries entries + 1
  | .held _ => 1
def uptoBulkAll {H : Type} : List (DataW H) → Nat
  | [] => 0
  | d :: r => uptoBulk d + uptoBulkAll r
def uptoBulkEntries {H : Type} : List (Lit × DataW H) → Nat
  | [] => 0
  | x :: r => uptoBulkEntry x + uptoBulkEntries r
def uptoBulkEntry {H : Type} : Lit × DataW H → Nat
  | (.string bytes, d) => bytes.length + uptoBulk d + 1
  | (_, d) => uptoBulk d + 1
 end
def uptoSmall : (H : Type) → List (DataW H) → Bool := fun _ ds => decide (uptoBulkAll ds ≤ 1048576)
def OpenSpec.upto (s : _root_.Go.ChangeSpec) : _root_.Go.OpenSpec := { _root_.Go.OpenSpec.ofChange s with cond := some uptoSmall }

/-- 'laws.FnExactMostVoices', WHERE WHAT IT READS IS OF BULK AT MOST 1048576: true; the input reads as it did. -/
def fnExactMostVoicesUptoRow : OpenClaim := { program := "ytmkgkkomikiljaa", sum := "3f70ed603e501badebbd97f3580612c3c4f4f424565e58b333c199b4475ddde5", func := "loop.example/g00949/laws.FnExactMostVoices", spec := "fnExactMostVoices", apart := false, narrowed := true }
def FnExactMostVoicesUptoSaid : Prop := fnExactMostVoicesUptoRow.holds Try.pinned (OpenSpec.upto fnExactMostVoicesSpec)

/-- 'laws.FnExactThinLoss', WHERE WHAT IT READS IS OF BULK AT MOST 1048576: true; the input reads as it did. -/
def fnExactThinLossUptoRow : OpenClaim := { program := "ytmkgkkomikiljaa", sum := "3f70ed603e501badebbd97f3580612c3c4f4f424565e58b333c199b4475ddde5", func := "loop.example/g00949/laws.FnExactThinLoss", spec := "fnExactThinLoss", apart := false, narrowed := true }
def FnExactThinLossUptoSaid : Prop := fnExactThinLossUptoRow.holds Try.pinned (OpenSpec.upto fnExactThinLossSpec)

/-- 'laws.FnExactKeptScore', WHERE WHAT IT READS IS OF BULK AT MOST 1048576: true; the input reads as it did. -/
def fnExactKeptScoreUptoRow : OpenClaim := { program := "ytmkgkkomikiljaa", sum := "3f70ed603e501badebbd97f3580612c3c4f4f424565e58b333c199b4475ddde5", func := "loop.example/g00949/laws.FnExactKeptScore", spec := "fnExactKeptScore", apart := false, narrowed := true }
def FnExactKeptScoreUptoSaid : Prop := fnExactKeptScoreUptoRow.holds Try.pinned (OpenSpec.upto fnExactKeptScoreSpec)

/-- 'laws.FnExactJoinRepeats', WHERE WHAT IT READS IS OF BULK AT MOST 1048576: true; the input reads as it did. -/
def fnExactJoinRepeatsUptoRow : OpenClaim := { program := "ytmkgkkomikiljaa", sum := "3f70ed603e501badebbd97f3580612c3c4f4f424565e58b333c199b4475ddde5", func := "loop.example/g00949/laws.FnExactJoinRepeats", spec := "fnExactJoinRepeats", apart := false, narrowed := true }
def FnExactJoinRepeatsUptoSaid : Prop := fnExactJoinRepeatsUptoRow.holds Try.pinned (OpenSpec.upto fnExactJoinRepeatsSpec)

/-- 'laws.FnExactLossBound', WHERE WHAT IT READS IS OF BULK AT MOST 1048576: true; the input reads as it did. -/
def fnExactLossBoundUptoRow : OpenClaim := { program := "ytmkgkkomikiljaa", sum := "3f70ed603e501badebbd97f3580612c3c4f4f424565e58b333c199b4475ddde5", func := "loop.example/g00949/laws.FnExactLossBound", spec := "fnExactLossBound", apart := false, narrowed := true }
def FnExactLossBoundUptoSaid : Prop := fnExactLossBoundUptoRow.holds Try.pinned (OpenSpec.upto fnExactLossBoundSpec)

/-- 'laws.FnExactIsThinned', WHERE WHAT IT READS IS OF BULK AT MOST 1048576: true; the input reads as it did. -/
def fnExactIsThinnedUptoRow : OpenClaim := { program := "ytmkgkkomikiljaa", sum := "3f70ed603e501badebbd97f3580612c3c4f4f424565e58b333c199b4475ddde5", func := "loop.example/g00949/laws.FnExactIsThinned", spec := "fnExactIsThinned", apart := false, narrowed := true }
def FnExactIsThinnedUptoSaid : Prop := fnExactIsThinnedUptoRow.holds Try.pinned (OpenSpec.upto fnExactIsThinnedSpec)

/-- 'laws.FnExactGreedyPart', WHERE WHAT IT READS IS OF BULK AT MOST 1048576: true; the input reads as it did. -/
def fnExactGreedyPartUptoRow : OpenClaim := { program := "ytmkgkkomikiljaa", sum := "3f70ed603e501badebbd97f3580612c3c4f4f424565e58b333c199b4475ddde5", func := "loop.example/g00949/laws.FnExactGreedyPart", spec := "fnExactGreedyPart", apart := false, narrowed := true }
def FnExactGreedyPartUptoSaid : Prop := fnExactGreedyPartUptoRow.holds Try.pinned (OpenSpec.upto fnExactGreedyPartSpec)

/-- 'laws.FnExactVoicesFor', WHERE WHAT IT READS IS OF BULK AT MOST 1048576: true; the input reads as it did. -/
def fnExactVoicesForUptoRow : OpenClaim := { program := "ytmkgkkomikiljaa", sum := "3f70ed603e501badebbd97f3580612c3c4f4f424565e58b333c199b4475ddde5", func := "loop.example/g00949/laws.FnExactVoicesFor", spec := "fnExactVoicesFor", recurses := true, apart := false, narrowed := true }
def FnExactVoicesForUptoSaid : Prop := fnExactVoicesForUptoRow.holds Try.pinned (OpenSpec.upto fnExactVoicesForSpec)

/-- 'laws.FnExactAlwaysKept', WHERE WHAT IT READS IS OF BULK AT MOST 1048576: true; the input reads as it did. -/
def fnExactAlwaysKeptUptoRow : OpenClaim := { program := "ytmkgkkomikiljaa", sum := "3f70ed603e501badebbd97f3580612c3c4f4f424565e58b333c199b4475ddde5", func := "loop.example/g00949/laws.FnExactAlwaysKept", spec := "fnExactAlwaysKept", recurses := true, apart := false, narrowed := true }
def FnExactAlwaysKeptUptoSaid : Prop := fnExactAlwaysKeptUptoRow.holds Try.pinned (OpenSpec.upto fnExactAlwaysKeptSpec)

/-- 'laws.FnExactLeastLoss', WHERE WHAT IT READS IS OF BULK AT MOST 1048576: true; the input reads as it did. -/
def fnExactLeastLossUptoRow : OpenClaim := { program := "ytmkgkkomikiljaa", sum := "3f70ed603e501badebbd97f3580612c3c4f4f424565e58b333c199b4475ddde5", func := "loop.example/g00949/laws.FnExactLeastLoss", spec := "fnExactLeastLoss", unfollowed := true, recurses := true, apart := false, narrowed := true }
def FnExactLeastLossUptoSaid : Prop := fnExactLeastLossUptoRow.holds Try.pinned (OpenSpec.upto fnExactLeastLossSpec)

/-- 'laws.FnThinned', WHERE WHAT IT READS IS OF BULK AT MOST 1048576: true; the input reads as it did. -/
def fnThinnedUptoRow : OpenClaim := { program := "ytmkgkkomikiljaa", sum := "3f70ed603e501badebbd97f3580612c3c4f4f424565e58b333c199b4475ddde5", func := "loop.example/g00949/laws.FnThinned", spec := "fnThinned", unfollowed := true, recurses := true, apart := false, narrowed := true }
def FnThinnedUptoSaid : Prop := fnThinnedUptoRow.holds Try.pinned (OpenSpec.upto fnThinnedSpec)

end Rows
end Go.Proofs.Ytmkgkkomikiljaa
