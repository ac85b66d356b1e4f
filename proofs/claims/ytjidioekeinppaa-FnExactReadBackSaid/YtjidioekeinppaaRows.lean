/-
  No cell of these rows narrows 'for every input' (looked for: loops, veiled, ifaces, maps, wideKeys, modest, calm, conditions, laid).
  DERIVED. THE GIVEN ROWS OF THIS SEAT. 10 by the template 'for every input the law returns true; each argument reads behind the call as it read before'; 0 by the template 'total and deterministic' (their statements: YtjidioekeinppaaTotals.lean).
  GIVEN WITH THE SEED: the statements are not yours to turn. If you find one false, say at which input.
  Laid BY PROGRAM, IN A SANDBOX (cutbox-rows.mjs): the forced cells as the released guide's own fill.sh prints them over the translation 886cf2682922a4d8… (all of the seat's roots in one cut). By AI agents, Wed Nov 11 2026. No macro, syntax, notation, axiom, sorry.
-/
import Derived.Test.YtjidioekeinppaaChecked
import GoSem.Claim
import GoSem.ClaimJoined
import GoSem.ClaimMapViews
import Derived.JoinedTies
import Derived.KernelRfl
namespace Go.Proofs.Ytjidioekeinppaa
/- THE CELL 'sum', in the pinned program and in every row, IS THE sha256 OF THE DUMP (.gsa) THAT YtjidioekeinppaaProg.lean LOADS. Nothing in Lean hashes anything: it is a label: what it is worth is what the hold of that sum in a sandbox is worth. -/
noncomputable def Try.pinned : Pinned := { name := "ytjidioekeinppaa", sum := "886cf2682922a4d822a5d4479e9cc32ea170cfc2323ed3d98e93429248400bbc", checked := Try.checked }
namespace Rows
def none {H : Type} : Left H := { results := [], args := [] }

/-- 'laws.FnExactOpenTime': WHATEVER THE INPUT: true; the input reads as it did. -/
def fnExactOpenTimeSpec : ChangeSpec := { name := "fnExactOpenTime", fn := fun _ => fun
  | [d1, d2] => { results := [.lit (.bool true)], args := [d1, d2] }
  | _ => none }
def fnExactOpenTimeRow : OpenClaim := { program := "ytjidioekeinppaa", sum := "886cf2682922a4d822a5d4479e9cc32ea170cfc2323ed3d98e93429248400bbc", func := "loop.example/g00949/laws.FnExactOpenTime", spec := "fnExactOpenTime", apart := false }
def FnExactOpenTimeSaid : Prop := fnExactOpenTimeRow.holds Try.pinned (OpenSpec.ofChange fnExactOpenTimeSpec)

/-- ITS FALSE NEIGHBOUR: 'it returns false'. Refute it at one input. -/
def fnExactOpenTimeWrong : ChangeSpec := { name := "fnExactOpenTime", fn := fun _ => fun
  | [d1, d2] => { results := [.lit (.bool false)], args := [d1, d2] }
  | _ => none }
def FnExactOpenTimeWrongFalsely : Prop := fnExactOpenTimeRow.holds Try.pinned (OpenSpec.ofChange fnExactOpenTimeWrong)

/-- 'laws.FnExactCrowdedSteps': WHATEVER THE INPUT: true; the input reads as it did. -/
def fnExactCrowdedStepsSpec : ChangeSpec := { name := "fnExactCrowdedSteps", fn := fun _ => fun
  | [d1, d2] => { results := [.lit (.bool true)], args := [d1, d2] }
  | _ => none }
def fnExactCrowdedStepsRow : OpenClaim := { program := "ytjidioekeinppaa", sum := "886cf2682922a4d822a5d4479e9cc32ea170cfc2323ed3d98e93429248400bbc", func := "loop.example/g00949/laws.FnExactCrowdedSteps", spec := "fnExactCrowdedSteps", apart := false }
def FnExactCrowdedStepsSaid : Prop := fnExactCrowdedStepsRow.holds Try.pinned (OpenSpec.ofChange fnExactCrowdedStepsSpec)

/-- ITS FALSE NEIGHBOUR: 'it returns false'. Refute it at one input. -/
def fnExactCrowdedStepsWrong : ChangeSpec := { name := "fnExactCrowdedSteps", fn := fun _ => fun
  | [d1, d2] => { results := [.lit (.bool false)], args := [d1, d2] }
  | _ => none }
def FnExactCrowdedStepsWrongFalsely : Prop := fnExactCrowdedStepsRow.holds Try.pinned (OpenSpec.ofChange fnExactCrowdedStepsWrong)

/-- 'laws.FnExactNoteFor': WHATEVER THE INPUT: true; the input reads as it did. -/
def fnExactNoteForSpec : ChangeSpec := { name := "fnExactNoteFor", fn := fun _ => fun
  | [d1, d2] => { results := [.lit (.bool true)], args := [d1, d2] }
  | _ => none }
def fnExactNoteForRow : OpenClaim := { program := "ytjidioekeinppaa", sum := "886cf2682922a4d822a5d4479e9cc32ea170cfc2323ed3d98e93429248400bbc", func := "loop.example/g00949/laws.FnExactNoteFor", spec := "fnExactNoteFor", apart := false }
def FnExactNoteForSaid : Prop := fnExactNoteForRow.holds Try.pinned (OpenSpec.ofChange fnExactNoteForSpec)

/-- ITS FALSE NEIGHBOUR: 'it returns false'. Refute it at one input. -/
def fnExactNoteForWrong : ChangeSpec := { name := "fnExactNoteFor", fn := fun _ => fun
  | [d1, d2] => { results := [.lit (.bool false)], args := [d1, d2] }
  | _ => none }
def FnExactNoteForWrongFalsely : Prop := fnExactNoteForRow.holds Try.pinned (OpenSpec.ofChange fnExactNoteForWrong)

/-- 'laws.FnExactHoleFor': WHATEVER THE INPUT: true; the input reads as it did. -/
def fnExactHoleForSpec : ChangeSpec := { name := "fnExactHoleFor", fn := fun _ => fun
  | [d1, d2] => { results := [.lit (.bool true)], args := [d1, d2] }
  | _ => none }
def fnExactHoleForRow : OpenClaim := { program := "ytjidioekeinppaa", sum := "886cf2682922a4d822a5d4479e9cc32ea170cfc2323ed3d98e93429248400bbc", func := "loop.example/g00949/laws.FnExactHoleFor", spec := "fnExactHoleFor", apart := false }
def FnExactHoleForSaid : Prop := fnExactHoleForRow.holds Try.pinned (OpenSpec.ofChange fnExactHoleForSpec)

/-- ITS FALSE NEIGHBOUR: 'it returns false'. Refute it at one input. -/
def fnExactHoleForWrong : ChangeSpec := { name := "fnExactHoleFor", fn := fun _ => fun
  | [d1, d2] => { results := [.lit (.bool false)], args := [d1, d2] }
  | _ => none }
def FnExactHoleForWrongFalsely : Prop := fnExactHoleForRow.holds Try.pinned (OpenSpec.ofChange fnExactHoleForWrong)

/-- 'laws.FnExactTracksUsed': WHATEVER THE INPUT: true; the input reads as it did. -/
def fnExactTracksUsedSpec : ChangeSpec := { name := "fnExactTracksUsed", fn := fun _ => fun
  | [d] => { results := [.lit (.bool true)], args := [d] }
  | _ => none }
def fnExactTracksUsedRow : OpenClaim := { program := "ytjidioekeinppaa", sum := "886cf2682922a4d822a5d4479e9cc32ea170cfc2323ed3d98e93429248400bbc", func := "loop.example/g00949/laws.FnExactTracksUsed", spec := "fnExactTracksUsed", recurses := true, apart := false }
def FnExactTracksUsedSaid : Prop := fnExactTracksUsedRow.holds Try.pinned (OpenSpec.ofChange fnExactTracksUsedSpec)

/-- ITS FALSE NEIGHBOUR: 'it returns false'. Refute it at one input. -/
def fnExactTracksUsedWrong : ChangeSpec := { name := "fnExactTracksUsed", fn := fun _ => fun
  | [d] => { results := [.lit (.bool false)], args := [d] }
  | _ => none }
def FnExactTracksUsedWrongFalsely : Prop := fnExactTracksUsedRow.holds Try.pinned (OpenSpec.ofChange fnExactTracksUsedWrong)

/-- 'laws.FnExactReadBack': WHATEVER THE INPUT: true; the input reads as it did. -/
def fnExactReadBackSpec : ChangeSpec := { name := "fnExactReadBack", fn := fun _ => fun
  | [d1, d2] => { results := [.lit (.bool true)], args := [d1, d2] }
  | _ => none }
def fnExactReadBackRow : OpenClaim := { program := "ytjidioekeinppaa", sum := "886cf2682922a4d822a5d4479e9cc32ea170cfc2323ed3d98e93429248400bbc", func := "loop.example/g00949/laws.FnExactReadBack", spec := "fnExactReadBack", inPlace := ["internal/reflectlite.ValueOf", "internal/reflectlite.Swapper", "(internal/reflectlite.Value).Len"], unfollowed := true, recurses := true, apart := false }
def FnExactReadBackSaid : Prop := fnExactReadBackRow.holds Try.pinned (OpenSpec.ofChange fnExactReadBackSpec)

/-- ITS FALSE NEIGHBOUR: 'it returns false'. Refute it at one input. -/
def fnExactReadBackWrong : ChangeSpec := { name := "fnExactReadBack", fn := fun _ => fun
  | [d1, d2] => { results := [.lit (.bool false)], args := [d1, d2] }
  | _ => none }
def FnExactReadBackWrongFalsely : Prop := fnExactReadBackRow.holds Try.pinned (OpenSpec.ofChange fnExactReadBackWrong)

/-- 'laws.FnExactSpareTracks': WHATEVER THE INPUT: true; the input reads as it did. -/
def fnExactSpareTracksSpec : ChangeSpec := { name := "fnExactSpareTracks", fn := fun _ => fun
  | [d1, d2] => { results := [.lit (.bool true)], args := [d1, d2] }
  | _ => none }
def fnExactSpareTracksRow : OpenClaim := { program := "ytjidioekeinppaa", sum := "886cf2682922a4d822a5d4479e9cc32ea170cfc2323ed3d98e93429248400bbc", func := "loop.example/g00949/laws.FnExactSpareTracks", spec := "fnExactSpareTracks", recurses := true, apart := false }
def FnExactSpareTracksSaid : Prop := fnExactSpareTracksRow.holds Try.pinned (OpenSpec.ofChange fnExactSpareTracksSpec)

/-- ITS FALSE NEIGHBOUR: 'it returns false'. Refute it at one input. -/
def fnExactSpareTracksWrong : ChangeSpec := { name := "fnExactSpareTracks", fn := fun _ => fun
  | [d1, d2] => { results := [.lit (.bool false)], args := [d1, d2] }
  | _ => none }
def FnExactSpareTracksWrongFalsely : Prop := fnExactSpareTracksRow.holds Try.pinned (OpenSpec.ofChange fnExactSpareTracksWrong)

/-- 'laws.FnExactIsLayOut': WHATEVER THE INPUT: true; the input reads as it did. -/
def fnExactIsLayOutSpec : ChangeSpec := { name := "fnExactIsLayOut", fn := fun _ => fun
  | [d1, d2] => { results := [.lit (.bool true)], args := [d1, d2] }
  | _ => none }
def fnExactIsLayOutRow : OpenClaim := { program := "ytjidioekeinppaa", sum := "886cf2682922a4d822a5d4479e9cc32ea170cfc2323ed3d98e93429248400bbc", func := "loop.example/g00949/laws.FnExactIsLayOut", spec := "fnExactIsLayOut", inPlace := ["internal/reflectlite.ValueOf", "internal/reflectlite.Swapper", "(internal/reflectlite.Value).Len"], unfollowed := true, recurses := true, apart := false }
def FnExactIsLayOutSaid : Prop := fnExactIsLayOutRow.holds Try.pinned (OpenSpec.ofChange fnExactIsLayOutSpec)

/-- ITS FALSE NEIGHBOUR: 'it returns false'. Refute it at one input. -/
def fnExactIsLayOutWrong : ChangeSpec := { name := "fnExactIsLayOut", fn := fun _ => fun
  | [d1, d2] => { results := [.lit (.bool false)], args := [d1, d2] }
  | _ => none }
def FnExactIsLayOutWrongFalsely : Prop := fnExactIsLayOutRow.holds Try.pinned (OpenSpec.ofChange fnExactIsLayOutWrong)

/-- 'laws.FnExactLayOut': WHATEVER THE INPUT: true; the input reads as it did. -/
def fnExactLayOutSpec : ChangeSpec := { name := "fnExactLayOut", fn := fun _ => fun
  | [d1, d2] => { results := [.lit (.bool true)], args := [d1, d2] }
  | _ => none }
def fnExactLayOutRow : OpenClaim := { program := "ytjidioekeinppaa", sum := "886cf2682922a4d822a5d4479e9cc32ea170cfc2323ed3d98e93429248400bbc", func := "loop.example/g00949/laws.FnExactLayOut", spec := "fnExactLayOut", inPlace := ["internal/reflectlite.ValueOf", "internal/reflectlite.Swapper", "(internal/reflectlite.Value).Len"], unfollowed := true, recurses := true, apart := false }
def FnExactLayOutSaid : Prop := fnExactLayOutRow.holds Try.pinned (OpenSpec.ofChange fnExactLayOutSpec)

/-- ITS FALSE NEIGHBOUR: 'it returns false'. Refute it at one input. -/
def fnExactLayOutWrong : ChangeSpec := { name := "fnExactLayOut", fn := fun _ => fun
  | [d1, d2] => { results := [.lit (.bool false)], args := [d1, d2] }
  | _ => none }
def FnExactLayOutWrongFalsely : Prop := fnExactLayOutRow.holds Try.pinned (OpenSpec.ofChange fnExactLayOutWrong)

/-- 'laws.FnExactLayOutFrom': WHATEVER THE INPUT: true; the input reads as it did. -/
def fnExactLayOutFromSpec : ChangeSpec := { name := "fnExactLayOutFrom", fn := fun _ => fun
  | [d1, d2, d3] => { results := [.lit (.bool true)], args := [d1, d2, d3] }
  | _ => none }
def fnExactLayOutFromRow : OpenClaim := { program := "ytjidioekeinppaa", sum := "886cf2682922a4d822a5d4479e9cc32ea170cfc2323ed3d98e93429248400bbc", func := "loop.example/g00949/laws.FnExactLayOutFrom", spec := "fnExactLayOutFrom", inPlace := ["internal/reflectlite.ValueOf", "internal/reflectlite.Swapper", "(internal/reflectlite.Value).Len"], unfollowed := true, recurses := true, apart := false }
def FnExactLayOutFromSaid : Prop := fnExactLayOutFromRow.holds Try.pinned (OpenSpec.ofChange fnExactLayOutFromSpec)

/-- ITS FALSE NEIGHBOUR: 'it returns false'. Refute it at one input. -/
def fnExactLayOutFromWrong : ChangeSpec := { name := "fnExactLayOutFrom", fn := fun _ => fun
  | [d1, d2, d3] => { results := [.lit (.bool false)], args := [d1, d2, d3] }
  | _ => none }
def FnExactLayOutFromWrongFalsely : Prop := fnExactLayOutFromRow.holds Try.pinned (OpenSpec.ofChange fnExactLayOutFromWrong)

/- THE SECOND FORM. 'bulk': how many values and letters a reading holds, each counted each time it is reached (what is shared counts as often as it is met; a slice's spare places count too). A statement '..UptoSaid' is the law's where the arguments, and the package variables that the reading takes, are together of bulk at most 1048576: NARROWER than '..Said'. Prove '..Said' where nothing that the law and all that it calls make is longer than what came in: it says more and counts as full. Else prove '..UptoSaid'. A law counts once. -/
mutual
def uptoBulk {H : Type} : DataW H → Nat
  | .lit (.string bytes) => bytes.length + 1
  | .lit _ => 1
  | .nil => 1
  | .ptr d => uptoBulk d + 1
  | .slice elems spare => uptoBulkAll elems + uptoBulkAll spare + 1
  | .agg parts => uptoBulkAll parts + 1
  | .iface _ d => uptoBulk d + 1
  | .map entries => uptoBulkEntries entries + 1
  | .held _ => 1
def uptoBulkAll {H : Type} : List (DataW H) → Nat
  | [] => 0
  | d :: r => uptoBulk d + uptoBulkAll r
def uptoBulkEntries {H : Type} : List (Lit × DataW H) → Nat
  | [] => 0
  | x :: r => uptoBulkEntry x + uptoBulkEntries r
def uptoBulkEntry {H : Type} : Lit × DataW H → Nat
  | (.string bytes, d) => bytes.length + uptoBulk d + 1
  | (_, d) => uptoBulk d + 1
 end
def uptoSmall : (H : Type) → List (DataW H) → Bool := fun _ ds => decide (uptoBulkAll ds ≤ 1048576)
def OpenSpec.upto (s : _root_.Go.ChangeSpec) : _root_.Go.OpenSpec := { _root_.Go.OpenSpec.ofChange s with cond := some uptoSmall }

/-- 'laws.FnExactOpenTime', WHERE WHAT IT READS IS OF BULK AT MOST 1048576: true; the input reads as it did. -/
def fnExactOpenTimeUptoRow : OpenClaim := { program := "ytjidioekeinppaa", sum := "886cf2682922a4d822a5d4479e9cc32ea170cfc2323ed3d98e93429248400bbc", func := "loop.example/g00949/laws.FnExactOpenTime", spec := "fnExactOpenTime", apart := false, narrowed := true }
def FnExactOpenTimeUptoSaid : Prop := fnExactOpenTimeUptoRow.holds Try.pinned (OpenSpec.upto fnExactOpenTimeSpec)

/-- 'laws.FnExactCrowdedSteps', WHERE WHAT IT READS IS OF BULK AT MOST 1048576: true; the input reads as it did. -/
def fnExactCrowdedStepsUptoRow : OpenClaim := { program := "ytjidioekeinppaa", sum := "886cf2682922a4d822a5d4479e9cc32ea170cfc2323ed3d98e93429248400bbc", func := "loop.example/g00949/laws.FnExactCrowdedSteps", spec := "fnExactCrowdedSteps", apart := false, narrowed := true }
def FnExactCrowdedStepsUptoSaid : Prop := fnExactCrowdedStepsUptoRow.holds Try.pinned (OpenSpec.upto fnExactCrowdedStepsSpec)

/-- 'laws.FnExactNoteFor', WHERE WHAT IT READS IS OF BULK AT MOST 1048576: true; the input reads as it did. -/
def fnExactNoteForUptoRow : OpenClaim := { program := "ytjidioekeinppaa", sum := "886cf2682922a4d822a5d4479e9cc32ea170cfc2323ed3d98e93429248400bbc", func := "loop.example/g00949/laws.FnExactNoteFor", spec := "fnExactNoteFor", apart := false, narrowed := true }
def FnExactNoteForUptoSaid : Prop := fnExactNoteForUptoRow.holds Try.pinned (OpenSpec.upto fnExactNoteForSpec)

/-- 'laws.FnExactHoleFor', WHERE WHAT IT READS IS OF BULK AT MOST 1048576: true; the input reads as it did. -/
def fnExactHoleForUptoRow : OpenClaim := { program := "ytjidioekeinppaa", sum := "886cf2682922a4d822a5d4479e9cc32ea170cfc2323ed3d98e93429248400bbc", func := "loop.example/g00949/laws.FnExactHoleFor", spec := "fnExactHoleFor", apart := false, narrowed := true }
def FnExactHoleForUptoSaid : Prop := fnExactHoleForUptoRow.holds Try.pinned (OpenSpec.upto fnExactHoleForSpec)

/-- 'laws.FnExactTracksUsed', WHERE WHAT IT READS IS OF BULK AT MOST 1048576: true; the input reads as it did. -/
def fnExactTracksUsedUptoRow : OpenClaim := { program := "ytjidioekeinppaa", sum := "886cf2682922a4d822a5d4479e9cc32ea170cfc2323ed3d98e93429248400bbc", func := "loop.example/g00949/laws.FnExactTracksUsed", spec := "fnExactTracksUsed", recurses := true, apart := false, narrowed := true }
def FnExactTracksUsedUptoSaid : Prop := fnExactTracksUsedUptoRow.holds Try.pinned (OpenSpec.upto fnExactTracksUsedSpec)

/-- 'laws.FnExactReadBack', WHERE WHAT IT READS IS OF BULK AT MOST 1048576: true; the input reads as it did. -/
def fnExactReadBackUptoRow : OpenClaim := { program := "ytjidioekeinppaa", sum := "886cf2682922a4d822a5d4479e9cc32ea170cfc2323ed3d98e93429248400bbc", func := "loop.example/g00949/laws.FnExactReadBack", spec := "fnExactReadBack", inPlace := ["internal/reflectlite.ValueOf", "internal/reflectlite.Swapper", "(internal/reflectlite.Value).Len"], unfollowed := true, recurses := true, apart := false, narrowed := true }
def FnExactReadBackUptoSaid : Prop := fnExactReadBackUptoRow.holds Try.pinned (OpenSpec.upto fnExactReadBackSpec)

/-- 'laws.FnExactSpareTracks', WHERE WHAT IT READS IS OF BULK AT MOST 1048576: true; the input reads as it did. -/
def fnExactSpareTracksUptoRow : OpenClaim := { program := "ytjidioekeinppaa", sum := "886cf2682922a4d822a5d4479e9cc32ea170cfc2323ed3d98e93429248400bbc", func := "loop.example/g00949/laws.FnExactSpareTracks", spec := "fnExactSpareTracks", recurses := true, apart := false, narrowed := true }
def FnExactSpareTracksUptoSaid : Prop := fnExactSpareTracksUptoRow.holds Try.pinned (OpenSpec.upto fnExactSpareTracksSpec)

/-- 'laws.FnExactIsLayOut', WHERE WHAT IT READS IS OF BULK AT MOST 1048576: true; the input reads as it did. -/
def fnExactIsLayOutUptoRow : OpenClaim := { program := "ytjidioekeinppaa", sum := "886cf2682922a4d822a5d4479e9cc32ea170cfc2323ed3d98e93429248400bbc", func := "loop.example/g00949/laws.FnExactIsLayOut", spec := "fnExactIsLayOut", inPlace := ["internal/reflectlite.ValueOf", "internal/reflectlite.Swapper", "(internal/reflectlite.Value).Len"], unfollowed := true, recurses := true, apart := false, narrowed := true }
def FnExactIsLayOutUptoSaid : Prop := fnExactIsLayOutUptoRow.holds Try.pinned (OpenSpec.upto fnExactIsLayOutSpec)

/-- 'laws.FnExactLayOut', WHERE WHAT IT READS IS OF BULK AT MOST 1048576: true; the input reads as it did. -/
def fnExactLayOutUptoRow : OpenClaim := { program := "ytjidioekeinppaa", sum := "886cf2682922a4d822a5d4479e9cc32ea170cfc2323ed3d98e93429248400bbc", func := "loop.example/g00949/laws.FnExactLayOut", spec := "fnExactLayOut", inPlace := ["internal/reflectlite.ValueOf", "internal/reflectlite.Swapper", "(internal/reflectlite.Value).Len"], unfollowed := true, recurses := true, apart := false, narrowed := true }
def FnExactLayOutUptoSaid : Prop := fnExactLayOutUptoRow.holds Try.pinned (OpenSpec.upto fnExactLayOutSpec)

/-- 'laws.FnExactLayOutFrom', WHERE WHAT IT READS IS OF BULK AT MOST 1048576: true; the input reads as it did. -/
def fnExactLayOutFromUptoRow : OpenClaim := { program := "ytjidioekeinppaa", sum := "886cf2682922a4d822a5d4479e9cc32ea170cfc2323ed3d98e93429248400bbc", func := "loop.example/g00949/laws.FnExactLayOutFrom", spec := "fnExactLayOutFrom", inPlace := ["internal/reflectlite.ValueOf", "internal/reflectlite.Swapper", "(internal/reflectlite.Value).Len"], unfollowed := true, recurses := true, apart := false, narrowed := true }
def FnExactLayOutFromUptoSaid : Prop := fnExactLayOutFromUptoRow.holds Try.pinned (OpenSpec.upto fnExactLayOutFromSpec)

end Rows
end Go.Proofs.Ytjidioekeinppaa
