/-
  No cell of these rows narrows 'for every input' (looked for: loops, veiled, ifaces, maps, wideKeys, modest, calm, conditions, laid).
  DERIVED. THE GIVEN ROWS OF THIS SEAT. 4 by the template 'for every input the law returns true; each argument reads behind the call as it read before'; 0 by the template 'total and deterministic' (their statements: YtbfehdhncncgdaaTotals.lean).
  GIVEN WITH THE SEED: the statements are not yours to turn. If you find one false, say at which input.
  Laid BY PROGRAM, IN A SANDBOX (cutbox-rows.mjs): the forced cells as the released guide's own fill.sh prints them over the translation f8781e4f980c86d7… (all of the seat's roots in one cut). By AI agents, Wed Nov 11 2026. No macro, syntax, notation, axiom, sorry.
-/
import Derived.Test.YtbfehdhncncgdaaChecked
import GoSem.Claim
import GoSem.ClaimJoined
import GoSem.ClaimMapViews
import Derived.JoinedTies
import Derived.KernelRfl
namespace Go.Proofs.Ytbfehdhncncgdaa
/- THE CELL 'sum', in the pinned program and in every row, IS THE sha256 OF THE DUMP (.gsa) THAT YtbfehdhncncgdaaProg.lean LOADS. Nothing in Lean hashes anything: it is a label: what it is worth is what the hold of that sum in a sandbox is worth. -/
noncomputable def Try.pinned : Pinned := { name := "ytbfehdhncncgdaa", sum := "f8781e4f980c86d7587e38ae9db15b7527eac4c091d5972a8b8747cbb9227c67", checked := Try.checked }
namespace Rows
def none {H : Type} : Left H := { results := [], args := [] }

/-- 'laws.FnExactLayOut': WHATEVER THE INPUT: true; the input reads as it did. -/
def fnExactLayOutSpec : ChangeSpec := { name := "fnExactLayOut", fn := fun _ => fun
  | [d1, d2] => { results := [.lit (.bool true)], args := [d1, d2] }
  | _ => none }
def fnExactLayOutRow : OpenClaim := { program := "ytbfehdhncncgdaa", sum := "f8781e4f980c86d7587e38ae9db15b7527eac4c091d5972a8b8747cbb9227c67", func := "loop.example/g00949/laws.FnExactLayOut", spec := "fnExactLayOut", inPlace := ["internal/reflectlite.ValueOf", "internal/reflectlite.Swapper", "(internal/reflectlite.Value).Len"], unfollowed := true, recurses := true, apart := false }
def FnExactLayOutSaid : Prop := fnExactLayOutRow.holds Try.pinned (OpenSpec.ofChange fnExactLayOutSpec)

/-- ITS FALSE NEIGHBOUR: 'it returns false'. Refute it at one input. -/
def fnExactLayOutWrong : ChangeSpec := { name := "fnExactLayOut", fn := fun _ => fun
  | [d1, d2] => { results := [.lit (.bool false)], args := [d1, d2] }
  | _ => none }
def FnExactLayOutWrongFalsely : Prop := fnExactLayOutRow.holds Try.pinned (OpenSpec.ofChange fnExactLayOutWrong)

/-- 'laws.FnExactLayOutFrom': WHATEVER THE INPUT: true; the input reads as it did. -/
def fnExactLayOutFromSpec : ChangeSpec := { name := "fnExactLayOutFrom", fn := fun _ => fun
  | [d1, d2, d3] => { results := [.lit (.bool true)], args := [d1, d2, d3] }
  | _ => none }
def fnExactLayOutFromRow : OpenClaim := { program := "ytbfehdhncncgdaa", sum := "f8781e4f980c86d7587e38ae9db15b7527eac4c091d5972a8b8747cbb9227c67", func := "loop.example/g00949/laws.FnExactLayOutFrom", spec := "fnExactLayOutFrom", inPlace := ["internal/reflectlite.ValueOf", "internal/reflectlite.Swapper", "(internal/reflectlite.Value).Len"], unfollowed := true, recurses := true, apart := false }
def FnExactLayOutFromSaid : Prop := fnExactLayOutFromRow.holds Try.pinned (OpenSpec.ofChange fnExactLayOutFromSpec)

/-- ITS FALSE NEIGHBOUR: 'it returns false'. Refute it at one input. -/
def fnExactLayOutFromWrong : ChangeSpec := { name := "fnExactLayOutFrom", fn := fun _ => fun
  | [d1, d2, d3] => { results := [.lit (.bool false)], args := [d1, d2, d3] }
  | _ => none }
def FnExactLayOutFromWrongFalsely : Prop := fnExactLayOutFromRow.holds Try.pinned (OpenSpec.ofChange fnExactLayOutFromWrong)

/-- 'laws.FnExactIsLayOut': WHATEVER THE INPUT: true; the input reads as it did. -/
def fnExactIsLayOutSpec : ChangeSpec := { name := "fnExactIsLayOut", fn := fun _ => fun
  | [d1, d2] => { results := [.lit (.bool true)], args := [d1, d2] }
  | _ => none }
def fnExactIsLayOutRow : OpenClaim := { program := "ytbfehdhncncgdaa", sum := "f8781e4f980c86d7587e38ae9db15b7527eac4c091d5972a8b8747cbb9227c67", func := "loop.example/g00949/laws.FnExactIsLayOut", spec := "fnExactIsLayOut", inPlace := ["internal/reflectlite.ValueOf", "internal/reflectlite.Swapper", "(internal/reflectlite.Value).Len"], unfollowed := true, recurses := true, apart := false }
def FnExactIsLayOutSaid : Prop := fnExactIsLayOutRow.holds Try.pinned (OpenSpec.ofChange fnExactIsLayOutSpec)

/-- ITS FALSE NEIGHBOUR: 'it returns false'. Refute it at one input. -/
def fnExactIsLayOutWrong : ChangeSpec := { name := "fnExactIsLayOut", fn := fun _ => fun
  | [d1, d2] => { results := [.lit (.bool false)], args := [d1, d2] }
  | _ => none }
def FnExactIsLayOutWrongFalsely : Prop := fnExactIsLayOutRow.holds Try.pinned (OpenSpec.ofChange fnExactIsLayOutWrong)

/-- 'laws.FnExactCrowdedSteps': WHATEVER THE INPUT: true; the input reads as it did. -/
def fnExactCrowdedStepsSpec : ChangeSpec := { name := "fnExactCrowdedSteps", fn := fun _ => fun
  | [d1, d2] => { results := [.lit (.bool true)], args := [d1, d2] }
  | _ => none }
def fnExactCrowdedStepsRow : OpenClaim := { program := "ytbfehdhncncgdaa", sum := "f8781e4f980c86d7587e38ae9db15b7527eac4c091d5972a8b8747cbb9227c67", func := "loop.example/g00949/laws.FnExactCrowdedSteps", spec := "fnExactCrowdedSteps", apart := false }
def FnExactCrowdedStepsSaid : Prop := fnExactCrowdedStepsRow.holds Try.pinned (OpenSpec.ofChange fnExactCrowdedStepsSpec)

/-- ITS FALSE NEIGHBOUR: 'it returns false'. Refute it at one input. -/
def fnExactCrowdedStepsWrong : ChangeSpec := { name := "fnExactCrowdedSteps", fn := fun _ => fun
  | [d1, d2] => { results := [.lit (.bool false)], args := [d1, d2] }
  | _ => none }
def FnExactCrowdedStepsWrongFalsely : Prop := fnExactCrowdedStepsRow.holds Try.pinned (OpenSpec.ofChange fnExactCrowdedStepsWrong)

/- THE SECOND FORM. 'bulk': how many values and letters a reading holds, each counted each time it is reached (what is shared counts as often as it is met; a slice's spare places count too). A statement '..UptoSaid' is the law's where the arguments, and the package variables that the reading takes, are together of bulk at most 1048576: NARROWER than '..Said'. Prove '..Said' where nothing that the law and all that it calls make is longer than what came in: it says more and counts as full. Else prove '..UptoSaid'. A law counts once. -/
mutual
def uptoBulk {H : Type} : DataW H → Nat
  | .lit (.string bytes) => bytes.length + 1
  | .lit _ => 1
  | .nil => 1
  | .ptr d => uptoBulk d + 1
  | .slice elems spare => uptoBulkAll elems + uptoBulkAll spare + 1
  | .agg parts => uptoBulkAll parts + 1
  | .iface _ d => uptoBulk d + 1
  | .map entries => uptoBulkEntries entries + 1
  | .held _ => 1
def uptoBulkAll {H : Type} : List (DataW H) → Nat
  | [] => 0
  | d :: r => uptoBulk d + uptoBulkAll r
def uptoBulkEntries {H : Type} : List (Lit × DataW H) → Nat
  | [] => 0
  | x :: r => uptoBulkEntry x + uptoBulkEntries r
def uptoBulkEntry {H : Type} : Lit × DataW H → Nat
  | (.string bytes, d) => bytes.length + uptoBulk d + 1
  | (_, d) => uptoBulk d + 1
 end
def uptoSmall : (H : Type) → List (DataW H) → Bool := fun _ ds => decide (uptoBulkAll ds ≤ 1048576)
def OpenSpec.upto (s : _root_.Go.ChangeSpec) : _root_.Go.OpenSpec := { _root_.Go.OpenSpec.ofChange s with cond := some uptoSmall }

/-- 'laws.FnExactLayOut', WHERE WHAT IT READS IS OF BULK AT MOST 1048576: true; the input reads as it did. -/
def fnExactLayOutUptoRow : OpenClaim := { program := "ytbfehdhncncgdaa", sum := "f8781e4f980c86d7587e38ae9db15b7527eac4c091d5972a8b8747cbb9227c67", func := "loop.example/g00949/laws.FnExactLayOut", spec := "fnExactLayOut", inPlace := ["internal/reflectlite.ValueOf", "internal/reflectlite.Swapper", "(internal/reflectlite.Value).Len"], unfollowed := true, recurses := true, apart := false, narrowed := true }
def FnExactLayOutUptoSaid : Prop := fnExactLayOutUptoRow.holds Try.pinned (OpenSpec.upto fnExactLayOutSpec)

/-- 'laws.FnExactLayOutFrom', WHERE WHAT IT READS IS OF BULK AT MOST 1048576: true; the input reads as it did. -/
def fnExactLayOutFromUptoRow : OpenClaim := { program := "ytbfehdhncncgdaa", sum := "f8781e4f980c86d7587e38ae9db15b7527eac4c091d5972a8b8747cbb9227c67", func := "loop.example/g00949/laws.FnExactLayOutFrom", spec := "fnExactLayOutFrom", inPlace := ["internal/reflectlite.ValueOf", "internal/reflectlite.Swapper", "(internal/reflectlite.Value).Len"], unfollowed := true, recurses := true, apart := false, narrowed := true }
def FnExactLayOutFromUptoSaid : Prop := fnExactLayOutFromUptoRow.holds Try.pinned (OpenSpec.upto fnExactLayOutFromSpec)

/-- 'laws.FnExactIsLayOut', WHERE WHAT IT READS IS OF BULK AT MOST 1048576: true; the input reads as it did. -/
def fnExactIsLayOutUptoRow : OpenClaim := { program := "ytbfehdhncncgdaa", sum := "f8781e4f980c86d7587e38ae9db15b7527eac4c091d5972a8b8747cbb9227c67", func := "loop.example/g00949/laws.FnExactIsLayOut", spec := "fnExactIsLayOut", inPlace := ["internal/reflectlite.ValueOf", "internal/reflectlite.Swapper", "(internal/reflectlite.Value).Len"], unfollowed := true, recurses := true, apart := false, narrowed := true }
def FnExactIsLayOutUptoSaid : Prop := fnExactIsLayOutUptoRow.holds Try.pinned (OpenSpec.upto fnExactIsLayOutSpec)

/-- 'laws.FnExactCrowdedSteps', WHERE WHAT IT READS IS OF BULK AT MOST 1048576: true; the input reads as it did. -/
def fnExactCrowdedStepsUptoRow : OpenClaim := { program := "ytbfehdhncncgdaa", sum := "f8781e4f980c86d7587e38ae9db15b7527eac4c091d5972a8b8747cbb9227c67", func := "loop.example/g00949/laws.FnExactCrowdedSteps", spec := "fnExactCrowdedSteps", apart := false, narrowed := true }
def FnExactCrowdedStepsUptoSaid : Prop := fnExactCrowdedStepsUptoRow.holds Try.pinned (OpenSpec.upto fnExactCrowdedStepsSpec)

end Rows
end Go.Proofs.Ytbfehdhncncgdaa
