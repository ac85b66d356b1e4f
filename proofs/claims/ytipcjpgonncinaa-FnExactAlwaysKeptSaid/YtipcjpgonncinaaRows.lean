/-
  No cell of these rows narrows 'for every input' (looked for: loops, veiled, ifaces, maps, wideKeys, modest, calm, conditions, laid).
  DERIVED. THE GIVEN ROWS OF THIS SEAT. 5 by the template 'for every input the law returns true; each argument reads behind the call as it read before'; 0 by the template 'total and deterministic' (their statements: YtipcjpgonncinaaTotals.lean).
  GIVEN WITH THE SEED: the statements are not yours to turn. If you find one false, say at which input.
  Laid BY PROGRAM, IN A SANDBOX (cutbox-rows.mjs): the forced cells as the released guide's own fill.sh prints them over the translation 33a041de7594287d… (all of the seat's roots in one cut). By AI agents, Wed Nov 11 2026. No macro, syntax, notation, axiom, sorry.
-/
import Derived.Test.YtipcjpgonncinaaChecked
import GoSem.Claim
import GoSem.ClaimJoined
import GoSem.ClaimMapViews
import Derived.JoinedTies
import Derived.KernelRfl
namespace Go.Proofs.Ytipcjpgonncinaa
/- THE CELL 'sum', in the pinned program and in every row, IS THE sha256 OF THE DUMP (.gsa) THAT YtipcjpgonncinaaProg.lean LOADS. Nothing in Lean hashes anything: it is a label: what it is worth is what the hold of that sum in a sandbox is worth. -/
noncomputable def Try.pinned : Pinned := { name := "ytipcjpgonncinaa", sum := "33a041de7594287d5774adf43af0df1316286538a518c356f658dca7fd001ac3", checked := Try.checked }
namespace Rows
def none {H : Type} : Left H := { results := [], args := [] }

/-- 'laws.FnExactJoinRepeats': WHATEVER THE INPUT: true; the input reads as it did. -/
def fnExactJoinRepeatsSpec : ChangeSpec := { name := "fnExactJoinRepeats", fn := fun _ => fun
  | [d1, d2] => { results := [.lit (.bool true)], args := [d1, d2] }
  | _ => none }
def fnExactJoinRepeatsRow : OpenClaim := { program := "ytipcjpgonncinaa", sum := "33a041de7594287d5774adf43af0df1316286538a518c356f658dca7fd001ac3", func := "loop.example/g00949/laws.FnExactJoinRepeats", spec := "fnExactJoinRepeats", apart := false }
def FnExactJoinRepeatsSaid : Prop := fnExactJoinRepeatsRow.holds Try.pinned (OpenSpec.ofChange fnExactJoinRepeatsSpec)

/-- ITS FALSE NEIGHBOUR: 'it returns false'. Refute it at one input. -/
def fnExactJoinRepeatsWrong : ChangeSpec := { name := "fnExactJoinRepeats", fn := fun _ => fun
  | [d1, d2] => { results := [.lit (.bool false)], args := [d1, d2] }
  | _ => none }
def FnExactJoinRepeatsWrongFalsely : Prop := fnExactJoinRepeatsRow.holds Try.pinned (OpenSpec.ofChange fnExactJoinRepeatsWrong)

/-- 'laws.FnExactLossBound': WHATEVER THE INPUT: true; the input reads as it did. -/
def fnExactLossBoundSpec : ChangeSpec := { name := "fnExactLossBound", fn := fun _ => fun
  | [d1, d2, d3] => { results := [.lit (.bool true)], args := [d1, d2, d3] }
  | _ => none }
def fnExactLossBoundRow : OpenClaim := { program := "ytipcjpgonncinaa", sum := "33a041de7594287d5774adf43af0df1316286538a518c356f658dca7fd001ac3", func := "loop.example/g00949/laws.FnExactLossBound", spec := "fnExactLossBound", apart := false }
def FnExactLossBoundSaid : Prop := fnExactLossBoundRow.holds Try.pinned (OpenSpec.ofChange fnExactLossBoundSpec)

/-- ITS FALSE NEIGHBOUR: 'it returns false'. Refute it at one input. -/
def fnExactLossBoundWrong : ChangeSpec := { name := "fnExactLossBound", fn := fun _ => fun
  | [d1, d2, d3] => { results := [.lit (.bool false)], args := [d1, d2, d3] }
  | _ => none }
def FnExactLossBoundWrongFalsely : Prop := fnExactLossBoundRow.holds Try.pinned (OpenSpec.ofChange fnExactLossBoundWrong)

/-- 'laws.FnExactVoicesFor': WHATEVER THE INPUT: true; the input reads as it did. -/
def fnExactVoicesForSpec : ChangeSpec := { name := "fnExactVoicesFor", fn := fun _ => fun
  | [d1, d2, d3] => { results := [.lit (.bool true)], args := [d1, d2, d3] }
  | _ => none }
def fnExactVoicesForRow : OpenClaim := { program := "ytipcjpgonncinaa", sum := "33a041de7594287d5774adf43af0df1316286538a518c356f658dca7fd001ac3", func := "loop.example/g00949/laws.FnExactVoicesFor", spec := "fnExactVoicesFor", recurses := true, apart := false }
def FnExactVoicesForSaid : Prop := fnExactVoicesForRow.holds Try.pinned (OpenSpec.ofChange fnExactVoicesForSpec)

/-- ITS FALSE NEIGHBOUR: 'it returns false'. Refute it at one input. -/
def fnExactVoicesForWrong : ChangeSpec := { name := "fnExactVoicesFor", fn := fun _ => fun
  | [d1, d2, d3] => { results := [.lit (.bool false)], args := [d1, d2, d3] }
  | _ => none }
def FnExactVoicesForWrongFalsely : Prop := fnExactVoicesForRow.holds Try.pinned (OpenSpec.ofChange fnExactVoicesForWrong)

/-- 'laws.FnExactAlwaysKept': WHATEVER THE INPUT: true; the input reads as it did. -/
def fnExactAlwaysKeptSpec : ChangeSpec := { name := "fnExactAlwaysKept", fn := fun _ => fun
  | [d1, d2, d3] => { results := [.lit (.bool true)], args := [d1, d2, d3] }
  | _ => none }
def fnExactAlwaysKeptRow : OpenClaim := { program := "ytipcjpgonncinaa", sum := "33a041de7594287d5774adf43af0df1316286538a518c356f658dca7fd001ac3", func := "loop.example/g00949/laws.FnExactAlwaysKept", spec := "fnExactAlwaysKept", recurses := true, apart := false }
def FnExactAlwaysKeptSaid : Prop := fnExactAlwaysKeptRow.holds Try.pinned (OpenSpec.ofChange fnExactAlwaysKeptSpec)

/-- ITS FALSE NEIGHBOUR: 'it returns false'. Refute it at one input. -/
def fnExactAlwaysKeptWrong : ChangeSpec := { name := "fnExactAlwaysKept", fn := fun _ => fun
  | [d1, d2, d3] => { results := [.lit (.bool false)], args := [d1, d2, d3] }
  | _ => none }
def FnExactAlwaysKeptWrongFalsely : Prop := fnExactAlwaysKeptRow.holds Try.pinned (OpenSpec.ofChange fnExactAlwaysKeptWrong)

/-- 'laws.FnExactLeastLoss': WHATEVER THE INPUT: true; the input reads as it did. -/
def fnExactLeastLossSpec : ChangeSpec := { name := "fnExactLeastLoss", fn := fun _ => fun
  | [d1, d2, d3] => { results := [.lit (.bool true)], args := [d1, d2, d3] }
  | _ => none }
def fnExactLeastLossRow : OpenClaim := { program := "ytipcjpgonncinaa", sum := "33a041de7594287d5774adf43af0df1316286538a518c356f658dca7fd001ac3", func := "loop.example/g00949/laws.FnExactLeastLoss", spec := "fnExactLeastLoss", unfollowed := true, recurses := true, apart := false }
def FnExactLeastLossSaid : Prop := fnExactLeastLossRow.holds Try.pinned (OpenSpec.ofChange fnExactLeastLossSpec)

/-- ITS FALSE NEIGHBOUR: 'it returns false'. Refute it at one input. -/
def fnExactLeastLossWrong : ChangeSpec := { name := "fnExactLeastLoss", fn := fun _ => fun
  | [d1, d2, d3] => { results := [.lit (.bool false)], args := [d1, d2, d3] }
  | _ => none }
def FnExactLeastLossWrongFalsely : Prop := fnExactLeastLossRow.holds Try.pinned (OpenSpec.ofChange fnExactLeastLossWrong)

/- THE SECOND FORM. 'bulk': how many values and letters a reading holds, each counted each time it is reached (what is shared counts as often as it is met; a slice's spare places count too). A statement '..UptoSaid' is the law's where the arguments, and the package variables that the reading takes, are together of bulk at most 1048576: NARROWER than '..Said'. Prove '..Said' where nothing that the law and all that it calls make is longer than what came in: it says more and counts as full. Else prove '..UptoSaid'. A law counts once. -/
mutual
def uptoBulk {H : Type} : DataW H → Nat
  | .lit (.string bytes) => bytes.length + 1
  | .lit _ => 1
  | .nil => 1
  | .ptr d => uptoBulk d + 1
  | .slice elems spare => uptoBulkAll elems + uptoBulkAll spare + 1
  | .agg parts => uptoBulkAll parts + 1
  | .iface _ d => uptoBulk d + 1
  | .map entries => uptoBulkEntries entries + 1
  | .held _ => 1
def uptoBulkAll {H : Type} : List (DataW H) → Nat
  | [] => 0
  | d :: r => uptoBulk d + uptoBulkAll r
def uptoBulkEntries {H : Type} : List (Lit × DataW H) → Nat
  | [] => 0
  | x :: r => uptoBulkEntry x + uptoBulkEntries r
def uptoBulkEntry {H : Type} : Lit × DataW H → Nat
  | (.string bytes, d) => bytes.length + uptoBulk d + 1
  | (_, d) => uptoBulk d + 1
 end
def uptoSmall : (H : Type) → List (DataW H) → Bool := fun _ ds => decide (uptoBulkAll ds ≤ 1048576)
def OpenSpec.upto (s : _root_.Go.ChangeSpec) : _root_.Go.OpenSpec := { _root_.Go.OpenSpec.ofChange s with cond := some uptoSmall }

/-- 'laws.FnExactJoinRepeats', WHERE WHAT IT READS IS OF BULK AT MOST 1048576: true; the input reads as it did. -/
def fnExactJoinRepeatsUptoRow : OpenClaim := { program := "ytipcjpgonncinaa", sum := "33a041de7594287d5774adf43af0df1316286538a518c356f658dca7fd001ac3", func := "loop.example/g00949/laws.FnExactJoinRepeats", spec := "fnExactJoinRepeats", apart := false, narrowed := true }
def FnExactJoinRepeatsUptoSaid : Prop := fnExactJoinRepeatsUptoRow.holds Try.pinned (OpenSpec.upto fnExactJoinRepeatsSpec)

/-- 'laws.FnExactLossBound', WHERE WHAT IT READS IS OF BULK AT MOST 1048576: true; the input reads as it did. -/
def fnExactLossBoundUptoRow : OpenClaim := { program := "ytipcjpgonncinaa", sum := "33a041de7594287d5774adf43af0df1316286538a518c356f658dca7fd001ac3", func := "loop.example/g00949/laws.FnExactLossBound", spec := "fnExactLossBound", apart := false, narrowed := true }
def FnExactLossBoundUptoSaid : Prop := fnExactLossBoundUptoRow.holds Try.pinned (OpenSpec.upto fnExactLossBoundSpec)

/-- 'laws.FnExactVoicesFor', WHERE WHAT IT READS IS OF BULK AT MOST 1048576: true; the input reads as it did. -/
def fnExactVoicesForUptoRow : OpenClaim := { program := "ytipcjpgonncinaa", sum := "33a041de7594287d5774adf43af0df1316286538a518c356f658dca7fd001ac3", func := "loop.example/g00949/laws.FnExactVoicesFor", spec := "fnExactVoicesFor", recurses := true, apart := false, narrowed := true }
def FnExactVoicesForUptoSaid : Prop := fnExactVoicesForUptoRow.holds Try.pinned (OpenSpec.upto fnExactVoicesForSpec)

/-- 'laws.FnExactAlwaysKept', WHERE WHAT IT READS IS OF BULK AT MOST 1048576: true; the input reads as it did. -/
def fnExactAlwaysKeptUptoRow : OpenClaim := { program := "ytipcjpgonncinaa", sum := "33a041de7594287d5774adf43af0df1316286538a518c356f658dca7fd001ac3", func := "loop.example/g00949/laws.FnExactAlwaysKept", spec := "fnExactAlwaysKept", recurses := true, apart := false, narrowed := true }
def FnExactAlwaysKeptUptoSaid : Prop := fnExactAlwaysKeptUptoRow.holds Try.pinned (OpenSpec.upto fnExactAlwaysKeptSpec)

/-- 'laws.FnExactLeastLoss', WHERE WHAT IT READS IS OF BULK AT MOST 1048576: true; the input reads as it did. -/
def fnExactLeastLossUptoRow : OpenClaim := { program := "ytipcjpgonncinaa", sum := "33a041de7594287d5774adf43af0df1316286538a518c356f658dca7fd001ac3", func := "loop.example/g00949/laws.FnExactLeastLoss", spec := "fnExactLeastLoss", unfollowed := true, recurses := true, apart := false, narrowed := true }
def FnExactLeastLossUptoSaid : Prop := fnExactLeastLossUptoRow.holds Try.pinned (OpenSpec.upto fnExactLeastLossSpec)

end Rows
end Go.Proofs.Ytipcjpgonncinaa
