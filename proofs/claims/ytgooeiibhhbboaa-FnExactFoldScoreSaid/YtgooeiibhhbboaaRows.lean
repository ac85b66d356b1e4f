/-
  No cell of these rows narrows 'for every input' (looked for: loops, veiled, ifaces, maps, wideKeys, modest, calm, conditions, laid).
  DERIVED. THE GIVEN ROWS OF THIS SEAT. 11 by the template 'for every input the law returns true; each argument reads behind the call as it read before'; 0 by the template 'total and deterministic' (their statements: YtgooeiibhhbboaaTotals.lean).
  GIVEN WITH THE SEED: the statements are not yours to turn. If you find one false, say at which input.
  Laid BY PROGRAM, IN A SANDBOX (cutbox-rows.mjs): the forced cells as the released guide's own fill.sh prints them over the translation 6fc555507e6e96ee… (all of the seat's roots in one cut). By AI agents, Wed Nov 11 2026. No macro, syntax, notation, axiom, sorry.
-/
import Derived.Test.YtgooeiibhhbboaaChecked
import GoSem.Claim
import GoSem.ClaimJoined
import GoSem.ClaimMapViews
import Derived.JoinedTies
import Derived.KernelRfl
namespace Go.Proofs.Ytgooeiibhhbboaa
/- THE CELL 'sum', in the pinned program and in every row, IS THE sha256 OF THE DUMP (.gsa) THAT YtgooeiibhhbboaaProg.lean LOADS. Nothing in Lean hashes anything: it is a label: what it is worth is what the hold of that sum in a sandbox is worth. -/
noncomputable def Try.pinned : Pinned := { name := "ytgooeiibhhbboaa", sum := "6fc555507e6e96ee0be8f322a61e2c3190eed88247a218ef22a596a3fa199440", checked := Try.checked }
namespace Rows
def none {H : Type} : Left H := { results := [], args := [] }

/-- 'laws.FnExactNearestPitch': WHATEVER THE INPUT: true; the input reads as it did. -/
def fnExactNearestPitchSpec : ChangeSpec := { name := "fnExactNearestPitch", fn := fun _ => fun
  | [d1, d2] => { results := [.lit (.bool true)], args := [d1, d2] }
  | _ => none }
def fnExactNearestPitchRow : OpenClaim := { program := "ytgooeiibhhbboaa", sum := "6fc555507e6e96ee0be8f322a61e2c3190eed88247a218ef22a596a3fa199440", func := "loop.example/g00949/laws.FnExactNearestPitch", spec := "fnExactNearestPitch", apart := false }
def FnExactNearestPitchSaid : Prop := fnExactNearestPitchRow.holds Try.pinned (OpenSpec.ofChange fnExactNearestPitchSpec)

/-- ITS FALSE NEIGHBOUR: 'it returns false'. Refute it at one input. -/
def fnExactNearestPitchWrong : ChangeSpec := { name := "fnExactNearestPitch", fn := fun _ => fun
  | [d1, d2] => { results := [.lit (.bool false)], args := [d1, d2] }
  | _ => none }
def FnExactNearestPitchWrongFalsely : Prop := fnExactNearestPitchRow.holds Try.pinned (OpenSpec.ofChange fnExactNearestPitchWrong)

/-- 'laws.FnExactFoldPitch': WHATEVER THE INPUT: true; the input reads as it did. -/
def fnExactFoldPitchSpec : ChangeSpec := { name := "fnExactFoldPitch", fn := fun _ => fun
  | [d1, d2] => { results := [.lit (.bool true)], args := [d1, d2] }
  | _ => none }
def fnExactFoldPitchRow : OpenClaim := { program := "ytgooeiibhhbboaa", sum := "6fc555507e6e96ee0be8f322a61e2c3190eed88247a218ef22a596a3fa199440", func := "loop.example/g00949/laws.FnExactFoldPitch", spec := "fnExactFoldPitch", apart := false }
def FnExactFoldPitchSaid : Prop := fnExactFoldPitchRow.holds Try.pinned (OpenSpec.ofChange fnExactFoldPitchSpec)

/-- ITS FALSE NEIGHBOUR: 'it returns false'. Refute it at one input. -/
def fnExactFoldPitchWrong : ChangeSpec := { name := "fnExactFoldPitch", fn := fun _ => fun
  | [d1, d2] => { results := [.lit (.bool false)], args := [d1, d2] }
  | _ => none }
def FnExactFoldPitchWrongFalsely : Prop := fnExactFoldPitchRow.holds Try.pinned (OpenSpec.ofChange fnExactFoldPitchWrong)

/-- 'laws.FnExactTransposeLoss': WHATEVER THE INPUT: true; the input reads as it did. -/
def fnExactTransposeLossSpec : ChangeSpec := { name := "fnExactTransposeLoss", fn := fun _ => fun
  | [d1, d2, d3] => { results := [.lit (.bool true)], args := [d1, d2, d3] }
  | _ => none }
def fnExactTransposeLossRow : OpenClaim := { program := "ytgooeiibhhbboaa", sum := "6fc555507e6e96ee0be8f322a61e2c3190eed88247a218ef22a596a3fa199440", func := "loop.example/g00949/laws.FnExactTransposeLoss", spec := "fnExactTransposeLoss", apart := false }
def FnExactTransposeLossSaid : Prop := fnExactTransposeLossRow.holds Try.pinned (OpenSpec.ofChange fnExactTransposeLossSpec)

/-- ITS FALSE NEIGHBOUR: 'it returns false'. Refute it at one input. -/
def fnExactTransposeLossWrong : ChangeSpec := { name := "fnExactTransposeLoss", fn := fun _ => fun
  | [d1, d2, d3] => { results := [.lit (.bool false)], args := [d1, d2, d3] }
  | _ => none }
def FnExactTransposeLossWrongFalsely : Prop := fnExactTransposeLossRow.holds Try.pinned (OpenSpec.ofChange fnExactTransposeLossWrong)

/-- 'laws.FnExactBestTransposition': WHATEVER THE INPUT: true; the input reads as it did. -/
def fnExactBestTranspositionSpec : ChangeSpec := { name := "fnExactBestTransposition", fn := fun _ => fun
  | [d1, d2] => { results := [.lit (.bool true)], args := [d1, d2] }
  | _ => none }
def fnExactBestTranspositionRow : OpenClaim := { program := "ytgooeiibhhbboaa", sum := "6fc555507e6e96ee0be8f322a61e2c3190eed88247a218ef22a596a3fa199440", func := "loop.example/g00949/laws.FnExactBestTransposition", spec := "fnExactBestTransposition", unfollowed := true, recurses := true, apart := false }
def FnExactBestTranspositionSaid : Prop := fnExactBestTranspositionRow.holds Try.pinned (OpenSpec.ofChange fnExactBestTranspositionSpec)

/-- ITS FALSE NEIGHBOUR: 'it returns false'. Refute it at one input. -/
def fnExactBestTranspositionWrong : ChangeSpec := { name := "fnExactBestTransposition", fn := fun _ => fun
  | [d1, d2] => { results := [.lit (.bool false)], args := [d1, d2] }
  | _ => none }
def FnExactBestTranspositionWrongFalsely : Prop := fnExactBestTranspositionRow.holds Try.pinned (OpenSpec.ofChange fnExactBestTranspositionWrong)

/-- 'laws.FnExactLossTable': WHATEVER THE INPUT: true; the input reads as it did. -/
def fnExactLossTableSpec : ChangeSpec := { name := "fnExactLossTable", fn := fun _ => fun
  | [d1, d2] => { results := [.lit (.bool true)], args := [d1, d2] }
  | _ => none }
def fnExactLossTableRow : OpenClaim := { program := "ytgooeiibhhbboaa", sum := "6fc555507e6e96ee0be8f322a61e2c3190eed88247a218ef22a596a3fa199440", func := "loop.example/g00949/laws.FnExactLossTable", spec := "fnExactLossTable", apart := false }
def FnExactLossTableSaid : Prop := fnExactLossTableRow.holds Try.pinned (OpenSpec.ofChange fnExactLossTableSpec)

/-- ITS FALSE NEIGHBOUR: 'it returns false'. Refute it at one input. -/
def fnExactLossTableWrong : ChangeSpec := { name := "fnExactLossTable", fn := fun _ => fun
  | [d1, d2] => { results := [.lit (.bool false)], args := [d1, d2] }
  | _ => none }
def FnExactLossTableWrongFalsely : Prop := fnExactLossTableRow.holds Try.pinned (OpenSpec.ofChange fnExactLossTableWrong)

/-- 'laws.FnExactFullTranspositions': WHATEVER THE INPUT: true; the input reads as it did. -/
def fnExactFullTranspositionsSpec : ChangeSpec := { name := "fnExactFullTranspositions", fn := fun _ => fun
  | [d1, d2] => { results := [.lit (.bool true)], args := [d1, d2] }
  | _ => none }
def fnExactFullTranspositionsRow : OpenClaim := { program := "ytgooeiibhhbboaa", sum := "6fc555507e6e96ee0be8f322a61e2c3190eed88247a218ef22a596a3fa199440", func := "loop.example/g00949/laws.FnExactFullTranspositions", spec := "fnExactFullTranspositions", apart := false }
def FnExactFullTranspositionsSaid : Prop := fnExactFullTranspositionsRow.holds Try.pinned (OpenSpec.ofChange fnExactFullTranspositionsSpec)

/-- ITS FALSE NEIGHBOUR: 'it returns false'. Refute it at one input. -/
def fnExactFullTranspositionsWrong : ChangeSpec := { name := "fnExactFullTranspositions", fn := fun _ => fun
  | [d1, d2] => { results := [.lit (.bool false)], args := [d1, d2] }
  | _ => none }
def FnExactFullTranspositionsWrongFalsely : Prop := fnExactFullTranspositionsRow.holds Try.pinned (OpenSpec.ofChange fnExactFullTranspositionsWrong)

/-- 'laws.FnExactPlayableClasses': WHATEVER THE INPUT: true; the input reads as it did. -/
def fnExactPlayableClassesSpec : ChangeSpec := { name := "fnExactPlayableClasses", fn := fun _ => fun
  | [d] => { results := [.lit (.bool true)], args := [d] }
  | _ => none }
def fnExactPlayableClassesRow : OpenClaim := { program := "ytgooeiibhhbboaa", sum := "6fc555507e6e96ee0be8f322a61e2c3190eed88247a218ef22a596a3fa199440", func := "loop.example/g00949/laws.FnExactPlayableClasses", spec := "fnExactPlayableClasses", recurses := true, apart := false }
def FnExactPlayableClassesSaid : Prop := fnExactPlayableClassesRow.holds Try.pinned (OpenSpec.ofChange fnExactPlayableClassesSpec)

/-- ITS FALSE NEIGHBOUR: 'it returns false'. Refute it at one input. -/
def fnExactPlayableClassesWrong : ChangeSpec := { name := "fnExactPlayableClasses", fn := fun _ => fun
  | [d] => { results := [.lit (.bool false)], args := [d] }
  | _ => none }
def FnExactPlayableClassesWrongFalsely : Prop := fnExactPlayableClassesRow.holds Try.pinned (OpenSpec.ofChange fnExactPlayableClassesWrong)

/-- 'laws.FnExactBestFold': WHATEVER THE INPUT: true; the input reads as it did. -/
def fnExactBestFoldSpec : ChangeSpec := { name := "fnExactBestFold", fn := fun _ => fun
  | [d1, d2] => { results := [.lit (.bool true)], args := [d1, d2] }
  | _ => none }
def fnExactBestFoldRow : OpenClaim := { program := "ytgooeiibhhbboaa", sum := "6fc555507e6e96ee0be8f322a61e2c3190eed88247a218ef22a596a3fa199440", func := "loop.example/g00949/laws.FnExactBestFold", spec := "fnExactBestFold", inPlace := ["internal/reflectlite.ValueOf", "internal/reflectlite.Swapper", "(internal/reflectlite.Value).Len"], unfollowed := true, recurses := true, apart := false }
def FnExactBestFoldSaid : Prop := fnExactBestFoldRow.holds Try.pinned (OpenSpec.ofChange fnExactBestFoldSpec)

/-- ITS FALSE NEIGHBOUR: 'it returns false'. Refute it at one input. -/
def fnExactBestFoldWrong : ChangeSpec := { name := "fnExactBestFold", fn := fun _ => fun
  | [d1, d2] => { results := [.lit (.bool false)], args := [d1, d2] }
  | _ => none }
def FnExactBestFoldWrongFalsely : Prop := fnExactBestFoldRow.holds Try.pinned (OpenSpec.ofChange fnExactBestFoldWrong)

/-- 'laws.FnExactFoldScore': WHATEVER THE INPUT: true; the input reads as it did. -/
def fnExactFoldScoreSpec : ChangeSpec := { name := "fnExactFoldScore", fn := fun _ => fun
  | [d1, d2] => { results := [.lit (.bool true)], args := [d1, d2] }
  | _ => none }
def fnExactFoldScoreRow : OpenClaim := { program := "ytgooeiibhhbboaa", sum := "6fc555507e6e96ee0be8f322a61e2c3190eed88247a218ef22a596a3fa199440", func := "loop.example/g00949/laws.FnExactFoldScore", spec := "fnExactFoldScore", inPlace := ["internal/reflectlite.ValueOf", "internal/reflectlite.Swapper", "(internal/reflectlite.Value).Len"], unfollowed := true, recurses := true, apart := false }
def FnExactFoldScoreSaid : Prop := fnExactFoldScoreRow.holds Try.pinned (OpenSpec.ofChange fnExactFoldScoreSpec)

/-- ITS FALSE NEIGHBOUR: 'it returns false'. Refute it at one input. -/
def fnExactFoldScoreWrong : ChangeSpec := { name := "fnExactFoldScore", fn := fun _ => fun
  | [d1, d2] => { results := [.lit (.bool false)], args := [d1, d2] }
  | _ => none }
def FnExactFoldScoreWrongFalsely : Prop := fnExactFoldScoreRow.holds Try.pinned (OpenSpec.ofChange fnExactFoldScoreWrong)

/-- 'laws.FnTranspositions': WHATEVER THE INPUT: true; the input reads as it did. -/
def fnTranspositionsSpec : ChangeSpec := { name := "fnTranspositions", fn := fun _ => fun
  | [d1, d2] => { results := [.lit (.bool true)], args := [d1, d2] }
  | _ => none }
def fnTranspositionsRow : OpenClaim := { program := "ytgooeiibhhbboaa", sum := "6fc555507e6e96ee0be8f322a61e2c3190eed88247a218ef22a596a3fa199440", func := "loop.example/g00949/laws.FnTranspositions", spec := "fnTranspositions", unfollowed := true, recurses := true, apart := false }
def FnTranspositionsSaid : Prop := fnTranspositionsRow.holds Try.pinned (OpenSpec.ofChange fnTranspositionsSpec)

/-- ITS FALSE NEIGHBOUR: 'it returns false'. Refute it at one input. -/
def fnTranspositionsWrong : ChangeSpec := { name := "fnTranspositions", fn := fun _ => fun
  | [d1, d2] => { results := [.lit (.bool false)], args := [d1, d2] }
  | _ => none }
def FnTranspositionsWrongFalsely : Prop := fnTranspositionsRow.holds Try.pinned (OpenSpec.ofChange fnTranspositionsWrong)

/-- 'laws.FnNearPins': WHATEVER THE INPUT: true; the input reads as it did. -/
def fnNearPinsSpec : ChangeSpec := { name := "fnNearPins", fn := fun _ => fun
  | [d1, d2] => { results := [.lit (.bool true)], args := [d1, d2] }
  | _ => none }
def fnNearPinsRow : OpenClaim := { program := "ytgooeiibhhbboaa", sum := "6fc555507e6e96ee0be8f322a61e2c3190eed88247a218ef22a596a3fa199440", func := "loop.example/g00949/laws.FnNearPins", spec := "fnNearPins", inPlace := ["internal/reflectlite.ValueOf", "internal/reflectlite.Swapper", "(internal/reflectlite.Value).Len"], unfollowed := true, recurses := true, apart := false }
def FnNearPinsSaid : Prop := fnNearPinsRow.holds Try.pinned (OpenSpec.ofChange fnNearPinsSpec)

/-- ITS FALSE NEIGHBOUR: 'it returns false'. Refute it at one input. -/
def fnNearPinsWrong : ChangeSpec := { name := "fnNearPins", fn := fun _ => fun
  | [d1, d2] => { results := [.lit (.bool false)], args := [d1, d2] }
  | _ => none }
def FnNearPinsWrongFalsely : Prop := fnNearPinsRow.holds Try.pinned (OpenSpec.ofChange fnNearPinsWrong)

/- THE SECOND FORM. 'bulk': how many values and letters a reading holds, each counted each time it is reached (what is shared counts as often as it is met; a slice's spare places count too). A statement '..UptoSaid' is the law's where the arguments, and the package variables that the reading takes, are together of bulk at most 1048576: NARROWER than '..Said'. Prove '..Said' where nothing that the law and all that it calls make is longer than what came in: it says more and counts as full. Else prove '..UptoSaid'. A law counts once. -/
mutual
def uptoBulk {H : Type} : DataW H → Nat
  | .lit (.string bytes) => bytes.length + 1
  | .lit _ => 1
  | .nil => 1
  | .ptr d => uptoBulk d + 1
  | .slice elems spare => uptoBulkAll elems + uptoBulkAll spare + 1
  | .agg parts => uptoBulkAll parts + 1
  | .iface _ d => uptoBulk d + 1
  | .map entries => uptoBulkEntries entries + 1
  | .held _ => 1
def uptoBulkAll {H : Type} : List (DataW H) → Nat
  | [] => 0
  | d :: r => uptoBulk d + uptoBulkAll r
def uptoBulkEntries {H : Type} : List (Lit × DataW H) → Nat
  | [] => 0
  | x :: r => uptoBulkEntry x + uptoBulkEntries r
def uptoBulkEntry {H : Type} : Lit × DataW H → Nat
  | (.string bytes, d) => bytes.length + uptoBulk d + 1
  | (_, d) => uptoBulk d + 1
 end
def uptoSmall : (H : Type) → List (DataW H) → Bool := fun _ ds => decide (uptoBulkAll ds ≤ 1048576)
def OpenSpec.upto (s : _root_.Go.ChangeSpec) : _root_.Go.OpenSpec := { _root_.Go.OpenSpec.ofChange s with cond := some uptoSmall }

/-- 'laws.FnExactNearestPitch', WHERE WHAT IT READS IS OF BULK AT MOST 1048576: true; the input reads as it did. -/
def fnExactNearestPitchUptoRow : OpenClaim := { program := "ytgooeiibhhbboaa", sum := "6fc555507e6e96ee0be8f322a61e2c3190eed88247a218ef22a596a3fa199440", func := "loop.example/g00949/laws.FnExactNearestPitch", spec := "fnExactNearestPitch", apart := false, narrowed := true }
def FnExactNearestPitchUptoSaid : Prop := fnExactNearestPitchUptoRow.holds Try.pinned (OpenSpec.upto fnExactNearestPitchSpec)

/-- 'laws.FnExactFoldPitch', WHERE WHAT IT READS IS OF BULK AT MOST 1048576: true; the input reads as it did. -/
def fnExactFoldPitchUptoRow : OpenClaim := { program := "ytgooeiibhhbboaa", sum := "6fc555507e6e96ee0be8f322a61e2c3190eed88247a218ef22a596a3fa199440", func := "loop.example/g00949/laws.FnExactFoldPitch", spec := "fnExactFoldPitch", apart := false, narrowed := true }
def FnExactFoldPitchUptoSaid : Prop := fnExactFoldPitchUptoRow.holds Try.pinned (OpenSpec.upto fnExactFoldPitchSpec)

/-- 'laws.FnExactTransposeLoss', WHERE WHAT IT READS IS OF BULK AT MOST 1048576: true; the input reads as it did. -/
def fnExactTransposeLossUptoRow : OpenClaim := { program := "ytgooeiibhhbboaa", sum := "6fc555507e6e96ee0be8f322a61e2c3190eed88247a218ef22a596a3fa199440", func := "loop.example/g00949/laws.FnExactTransposeLoss", spec := "fnExactTransposeLoss", apart := false, narrowed := true }
def FnExactTransposeLossUptoSaid : Prop := fnExactTransposeLossUptoRow.holds Try.pinned (OpenSpec.upto fnExactTransposeLossSpec)

/-- 'laws.FnExactBestTransposition', WHERE WHAT IT READS IS OF BULK AT MOST 1048576: true; the input reads as it did. -/
def fnExactBestTranspositionUptoRow : OpenClaim := { program := "ytgooeiibhhbboaa", sum := "6fc555507e6e96ee0be8f322a61e2c3190eed88247a218ef22a596a3fa199440", func := "loop.example/g00949/laws.FnExactBestTransposition", spec := "fnExactBestTransposition", unfollowed := true, recurses := true, apart := false, narrowed := true }
def FnExactBestTranspositionUptoSaid : Prop := fnExactBestTranspositionUptoRow.holds Try.pinned (OpenSpec.upto fnExactBestTranspositionSpec)

/-- 'laws.FnExactLossTable', WHERE WHAT IT READS IS OF BULK AT MOST 1048576: true; the input reads as it did. -/
def fnExactLossTableUptoRow : OpenClaim := { program := "ytgooeiibhhbboaa", sum := "6fc555507e6e96ee0be8f322a61e2c3190eed88247a218ef22a596a3fa199440", func := "loop.example/g00949/laws.FnExactLossTable", spec := "fnExactLossTable", apart := false, narrowed := true }
def FnExactLossTableUptoSaid : Prop := fnExactLossTableUptoRow.holds Try.pinned (OpenSpec.upto fnExactLossTableSpec)

/-- 'laws.FnExactFullTranspositions', WHERE WHAT IT READS IS OF BULK AT MOST 1048576: true; the input reads as it did. -/
def fnExactFullTranspositionsUptoRow : OpenClaim := { program := "ytgooeiibhhbboaa", sum := "6fc555507e6e96ee0be8f322a61e2c3190eed88247a218ef22a596a3fa199440", func := "loop.example/g00949/laws.FnExactFullTranspositions", spec := "fnExactFullTranspositions", apart := false, narrowed := true }
def FnExactFullTranspositionsUptoSaid : Prop := fnExactFullTranspositionsUptoRow.holds Try.pinned (OpenSpec.upto fnExactFullTranspositionsSpec)

/-- 'laws.FnExactPlayableClasses', WHERE WHAT IT READS IS OF BULK AT MOST 1048576: true; the input reads as it did. -/
def fnExactPlayableClassesUptoRow : OpenClaim := { program := "ytgooeiibhhbboaa", sum := "6fc555507e6e96ee0be8f322a61e2c3190eed88247a218ef22a596a3fa199440", func := "loop.example/g00949/laws.FnExactPlayableClasses", spec := "fnExactPlayableClasses", recurses := true, apart := false, narrowed := true }
def FnExactPlayableClassesUptoSaid : Prop := fnExactPlayableClassesUptoRow.holds Try.pinned (OpenSpec.upto fnExactPlayableClassesSpec)

/-- 'laws.FnExactBestFold', WHERE WHAT IT READS IS OF BULK AT MOST 1048576: true; the input reads as it did. -/
def fnExactBestFoldUptoRow : OpenClaim := { program := "ytgooeiibhhbboaa", sum := "6fc555507e6e96ee0be8f322a61e2c3190eed88247a218ef22a596a3fa199440", func := "loop.example/g00949/laws.FnExactBestFold", spec := "fnExactBestFold", inPlace := ["internal/reflectlite.ValueOf", "internal/reflectlite.Swapper", "(internal/reflectlite.Value).Len"], unfollowed := true, recurses := true, apart := false, narrowed := true }
def FnExactBestFoldUptoSaid : Prop := fnExactBestFoldUptoRow.holds Try.pinned (OpenSpec.upto fnExactBestFoldSpec)

/-- 'laws.FnExactFoldScore', WHERE WHAT IT READS IS OF BULK AT MOST 1048576: true; the input reads as it did. -/
def fnExactFoldScoreUptoRow : OpenClaim := { program := "ytgooeiibhhbboaa", sum := "6fc555507e6e96ee0be8f322a61e2c3190eed88247a218ef22a596a3fa199440", func := "loop.example/g00949/laws.FnExactFoldScore", spec := "fnExactFoldScore", inPlace := ["internal/reflectlite.ValueOf", "internal/reflectlite.Swapper", "(internal/reflectlite.Value).Len"], unfollowed := true, recurses := true, apart := false, narrowed := true }
def FnExactFoldScoreUptoSaid : Prop := fnExactFoldScoreUptoRow.holds Try.pinned (OpenSpec.upto fnExactFoldScoreSpec)

/-- 'laws.FnTranspositions', WHERE WHAT IT READS IS OF BULK AT MOST 1048576: true; the input reads as it did. -/
def fnTranspositionsUptoRow : OpenClaim := { program := "ytgooeiibhhbboaa", sum := "6fc555507e6e96ee0be8f322a61e2c3190eed88247a218ef22a596a3fa199440", func := "loop.example/g00949/laws.FnTranspositions", spec := "fnTranspositions", unfollowed := true, recurses := true, apart := false, narrowed := true }
def FnTranspositionsUptoSaid : Prop := fnTranspositionsUptoRow.holds Try.pinned (OpenSpec.upto fnTranspositionsSpec)

/-- 'laws.FnNearPins', WHERE WHAT IT READS IS OF BULK AT MOST 1048576: true; the input reads as it did. -/
def fnNearPinsUptoRow : OpenClaim := { program := "ytgooeiibhhbboaa", sum := "6fc555507e6e96ee0be8f322a61e2c3190eed88247a218ef22a596a3fa199440", func := "loop.example/g00949/laws.FnNearPins", spec := "fnNearPins", inPlace := ["internal/reflectlite.ValueOf", "internal/reflectlite.Swapper", "(internal/reflectlite.Value).Len"], unfollowed := true, recurses := true, apart := false, narrowed := true }
def FnNearPinsUptoSaid : Prop := fnNearPinsUptoRow.holds Try.pinned (OpenSpec.upto fnNearPinsSpec)

end Rows
end Go.Proofs.Ytgooeiibhhbboaa
