/-
  No cell of these rows narrows 'for every input' (looked for: loops, veiled, ifaces, maps, wideKeys, modest, calm, conditions, laid).
  DERIVED. THE GIVEN ROWS OF THIS SEAT. 3 by the template 'for every input the law returns true; each argument reads behind the call as it read before'; 0 by the template 'total and deterministic' (their statements: YtafapmanfncfkaaTotals.lean).
  GIVEN WITH THE SEED: the statements are not yours to turn. If you find one false, say at which input.
  Laid BY PROGRAM, IN A SANDBOX (cutbox-rows.mjs): the forced cells as the released guide's own fill.sh prints them over the translation 58e5bfacb3b32d13… (all of the seat's roots in one cut). By AI agents, Wed Nov 11 2026. No macro, syntax, notation, axiom, sorry.
-/
import Derived.Test.YtafapmanfncfkaaChecked
import GoSem.Claim
import GoSem.ClaimJoined
import GoSem.ClaimMapViews
import Derived.JoinedTies
import Derived.KernelRfl
namespace Go.Proofs.Ytafapmanfncfkaa
/- THE CELL 'sum', in the pinned program and in every row, IS THE sha256 OF THE DUMP (.gsa) THAT YtafapmanfncfkaaProg.lean LOADS. Nothing in Lean hashes anything: it is a label: what it is worth is what the hold of that sum in a sandbox is worth. -/
noncomputable def Try.pinned : Pinned := { name := "ytafapmanfncfkaa", sum := "58e5bfacb3b32d13174710c851ef43ea012f1f5a93e32fd9d1ee1a31b3f22376", checked := Try.checked }
namespace Rows
def none {H : Type} : Left H := { results := [], args := [] }

/-- 'laws.FnExactBestTransposition': WHATEVER THE INPUT: true; the input reads as it did. -/
def fnExactBestTranspositionSpec : ChangeSpec := { name := "fnExactBestTransposition", fn := fun _ => fun
  | [d1, d2] => { results := [.lit (.bool true)], args := [d1, d2] }
  | _ => none }
def fnExactBestTranspositionRow : OpenClaim := { program := "ytafapmanfncfkaa", sum := "58e5bfacb3b32d13174710c851ef43ea012f1f5a93e32fd9d1ee1a31b3f22376", func := "loop.example/g00949/laws.FnExactBestTransposition", spec := "fnExactBestTransposition", unfollowed := true, recurses := true, apart := false }
def FnExactBestTranspositionSaid : Prop := fnExactBestTranspositionRow.holds Try.pinned (OpenSpec.ofChange fnExactBestTranspositionSpec)

/-- ITS FALSE NEIGHBOUR: 'it returns false'. Refute it at one input. -/
def fnExactBestTranspositionWrong : ChangeSpec := { name := "fnExactBestTransposition", fn := fun _ => fun
  | [d1, d2] => { results := [.lit (.bool false)], args := [d1, d2] }
  | _ => none }
def FnExactBestTranspositionWrongFalsely : Prop := fnExactBestTranspositionRow.holds Try.pinned (OpenSpec.ofChange fnExactBestTranspositionWrong)

/-- 'laws.FnExactBestFold': WHATEVER THE INPUT: true; the input reads as it did. -/
def fnExactBestFoldSpec : ChangeSpec := { name := "fnExactBestFold", fn := fun _ => fun
  | [d1, d2] => { results := [.lit (.bool true)], args := [d1, d2] }
  | _ => none }
def fnExactBestFoldRow : OpenClaim := { program := "ytafapmanfncfkaa", sum := "58e5bfacb3b32d13174710c851ef43ea012f1f5a93e32fd9d1ee1a31b3f22376", func := "loop.example/g00949/laws.FnExactBestFold", spec := "fnExactBestFold", inPlace := ["internal/reflectlite.ValueOf", "internal/reflectlite.Swapper", "(internal/reflectlite.Value).Len"], unfollowed := true, recurses := true, apart := false }
def FnExactBestFoldSaid : Prop := fnExactBestFoldRow.holds Try.pinned (OpenSpec.ofChange fnExactBestFoldSpec)

/-- ITS FALSE NEIGHBOUR: 'it returns false'. Refute it at one input. -/
def fnExactBestFoldWrong : ChangeSpec := { name := "fnExactBestFold", fn := fun _ => fun
  | [d1, d2] => { results := [.lit (.bool false)], args := [d1, d2] }
  | _ => none }
def FnExactBestFoldWrongFalsely : Prop := fnExactBestFoldRow.holds Try.pinned (OpenSpec.ofChange fnExactBestFoldWrong)

/-- 'laws.FnExactNearPins': WHATEVER THE INPUT: true; the input reads as it did. -/
def fnExactNearPinsSpec : ChangeSpec := { name := "fnExactNearPins", fn := fun _ => fun
  | [d1, d2] => { results := [.lit (.bool true)], args := [d1, d2] }
  | _ => none }
def fnExactNearPinsRow : OpenClaim := { program := "ytafapmanfncfkaa", sum := "58e5bfacb3b32d13174710c851ef43ea012f1f5a93e32fd9d1ee1a31b3f22376", func := "loop.example/g00949/laws.FnExactNearPins", spec := "fnExactNearPins", apart := false }
def FnExactNearPinsSaid : Prop := fnExactNearPinsRow.holds Try.pinned (OpenSpec.ofChange fnExactNearPinsSpec)

/-- ITS FALSE NEIGHBOUR: 'it returns false'. Refute it at one input. -/
def fnExactNearPinsWrong : ChangeSpec := { name := "fnExactNearPins", fn := fun _ => fun
  | [d1, d2] => { results := [.lit (.bool false)], args := [d1, d2] }
  | _ => none }
def FnExactNearPinsWrongFalsely : Prop := fnExactNearPinsRow.holds Try.pinned (OpenSpec.ofChange fnExactNearPinsWrong)

/- THE SECOND FORM. 'bulk': how many values and letters a reading holds, each counted each time it is reached (what is shared counts as often as it is met; a slice's spare places count too). A statement '..UptoSaid' is the law's where the arguments, and the package variables that the reading takes, are together of bulk at most 1048576: NARROWER than '..Said'. Prove '..Said' where nothing that the law and all that it calls make is longer than what came in: it says more and counts as full. Else prove '..UptoSaid'. A law counts once. -/
mutual
def uptoBulk {H : Type} : DataW H → Nat
  | .lit (.string bytes) => bytes.length + 1
  | .lit _ => 1
  | .nil => 1
  | .ptr d => uptoBulk d + 1
  | .slice elems spare => uptoBulkAll elems + uptoBulkAll spare + 1
  | .agg parts => uptoBulkAll parts + 1
  | .iface _ d => uptoBulk d + 1
  | .map entries => uptoBulkEntries entries + 1
  | .held _ => 1
def uptoBulkAll {H : Type} : List (DataW H) → Nat
  | [] => 0
  | d :: r => uptoBulk d + uptoBulkAll r
def uptoBulkEntries {H : Type} : List (Lit × DataW H) → Nat
  | [] => 0
  | x :: r => uptoBulkEntry x + uptoBulkEntries r
def uptoBulkEntry {H : Type} : Lit × DataW H → Nat
  | (.string bytes, d) => bytes.length + uptoBulk d + 1
  | (_, d) => uptoBulk d + 1
 end
def uptoSmall : (H : Type) → List (DataW H) → Bool := fun _ ds => decide (uptoBulkAll ds ≤ 1048576)
def OpenSpec.upto (s : _root_.Go.ChangeSpec) : _root_.Go.OpenSpec := { _root_.Go.OpenSpec.ofChange s with cond := some uptoSmall }

/-- 'laws.FnExactBestTransposition', WHERE WHAT IT READS IS OF BULK AT MOST 1048576: true; the input reads as it did. -/
def fnExactBestTranspositionUptoRow : OpenClaim := { program := "ytafapmanfncfkaa", sum := "58e5bfacb3b32d13174710c851ef43ea012f1f5a93e32fd9d1ee1a31b3f22376", func := "loop.example/g00949/laws.FnExactBestTransposition", spec := "fnExactBestTransposition", unfollowed := true, recurses := true, apart := false, narrowed := true }
def FnExactBestTranspositionUptoSaid : Prop := fnExactBestTranspositionUptoRow.holds Try.pinned (OpenSpec.upto fnExactBestTranspositionSpec)

/-- 'laws.FnExactBestFold', WHERE WHAT IT READS IS OF BULK AT MOST 1048576: true; the input reads as it did. -/
def fnExactBestFoldUptoRow : OpenClaim := { program := "ytafapmanfncfkaa", sum := "58e5bfacb3b32d13174710c851ef43ea012f1f5a93e32fd9d1ee1a31b3f22376", func := "loop.example/g00949/laws.FnExactBestFold", spec := "fnExactBestFold", inPlace := ["internal/reflectlite.ValueOf", "internal/reflectlite.Swapper", "(internal/reflectlite.Value).Len"], unfollowed := true, recurses := true, apart := false, narrowed := true }
def FnExactBestFoldUptoSaid : Prop := fnExactBestFoldUptoRow.holds Try.pinned (OpenSpec.upto fnExactBestFoldSpec)

/-- 'laws.FnExactNearPins', WHERE WHAT IT READS IS OF BULK AT MOST 1048576: true; the input reads as it did. -/
def fnExactNearPinsUptoRow : OpenClaim := { program := "ytafapmanfncfkaa", sum := "58e5bfacb3b32d13174710c851ef43ea012f1f5a93e32fd9d1ee1a31b3f22376", func := "loop.example/g00949/laws.FnExactNearPins", spec := "fnExactNearPins", apart := false, narrowed := true }
def FnExactNearPinsUptoSaid : Prop := fnExactNearPinsUptoRow.holds Try.pinned (OpenSpec.upto fnExactNearPinsSpec)

end Rows
end Go.Proofs.Ytafapmanfncfkaa
