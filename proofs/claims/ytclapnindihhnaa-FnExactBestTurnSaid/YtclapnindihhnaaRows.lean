/-
  No cell of these rows narrows 'for every input' (looked for: loops, veiled, ifaces, maps, wideKeys, modest, calm, conditions, laid).
  DERIVED. THE GIVEN ROWS OF THIS SEAT. 11 by the template 'for every input the law returns true; each argument reads behind the call as it read before'; 0 by the template 'total and deterministic' (their statements: YtclapnindihhnaaTotals.lean).
  GIVEN WITH THE SEED: the statements are not yours to turn. If you find one false, say at which input.
  Laid BY PROGRAM, IN A SANDBOX (cutbox-rows.mjs): the forced cells as the released guide's own fill.sh prints them over the translation fefb034680c08efe… (all of the seat's roots in one cut). By AI agents, Wed Nov 11 2026. No macro, syntax, notation, axiom, sorry.
-/
import Derived.Test.YtclapnindihhnaaChecked
import GoSem.Claim
import GoSem.ClaimJoined
import GoSem.ClaimMapViews
import Derived.JoinedTies
import Derived.KernelRfl
namespace Go.Proofs.Ytclapnindihhnaa
/- THE CELL 'sum', in the pinned program and in every row, IS THE sha256 OF THE DUMP (.gsa) THAT YtclapnindihhnaaProg.lean LOADS. Nothing in Lean hashes anything: it is a label: what it is worth is what the hold of that sum in a sandbox is worth. -/
noncomputable def Try.pinned : Pinned := { name := "ytclapnindihhnaa", sum := "fefb034680c08efee5e2b8eb596506c8e943b58d99a098236eec31ec13639252", checked := Try.checked }
namespace Rows
def none {H : Type} : Left H := { results := [], args := [] }

/-- 'laws.FnExactArePins': WHATEVER THE INPUT: true; the input reads as it did. -/
def fnExactArePinsSpec : ChangeSpec := { name := "fnExactArePins", fn := fun _ => fun
  | [d] => { results := [.lit (.bool true)], args := [d] }
  | _ => none }
def fnExactArePinsRow : OpenClaim := { program := "ytclapnindihhnaa", sum := "fefb034680c08efee5e2b8eb596506c8e943b58d99a098236eec31ec13639252", func := "loop.example/g00949/laws.FnExactArePins", spec := "fnExactArePins", apart := false }
def FnExactArePinsSaid : Prop := fnExactArePinsRow.holds Try.pinned (OpenSpec.ofChange fnExactArePinsSpec)

/-- ITS FALSE NEIGHBOUR: 'it returns false'. Refute it at one input. -/
def fnExactArePinsWrong : ChangeSpec := { name := "fnExactArePins", fn := fun _ => fun
  | [d] => { results := [.lit (.bool false)], args := [d] }
  | _ => none }
def FnExactArePinsWrongFalsely : Prop := fnExactArePinsRow.holds Try.pinned (OpenSpec.ofChange fnExactArePinsWrong)

/-- 'laws.FnExactNextPlayed': WHATEVER THE INPUT: true; the input reads as it did. -/
def fnExactNextPlayedSpec : ChangeSpec := { name := "fnExactNextPlayed", fn := fun _ => fun
  | [d1, d2, d3] => { results := [.lit (.bool true)], args := [d1, d2, d3] }
  | _ => none }
def fnExactNextPlayedRow : OpenClaim := { program := "ytclapnindihhnaa", sum := "fefb034680c08efee5e2b8eb596506c8e943b58d99a098236eec31ec13639252", func := "loop.example/g00949/laws.FnExactNextPlayed", spec := "fnExactNextPlayed", apart := false }
def FnExactNextPlayedSaid : Prop := fnExactNextPlayedRow.holds Try.pinned (OpenSpec.ofChange fnExactNextPlayedSpec)

/-- ITS FALSE NEIGHBOUR: 'it returns false'. Refute it at one input. -/
def fnExactNextPlayedWrong : ChangeSpec := { name := "fnExactNextPlayed", fn := fun _ => fun
  | [d1, d2, d3] => { results := [.lit (.bool false)], args := [d1, d2, d3] }
  | _ => none }
def FnExactNextPlayedWrongFalsely : Prop := fnExactNextPlayedRow.holds Try.pinned (OpenSpec.ofChange fnExactNextPlayedWrong)

/-- 'laws.FnExactTuneOf': WHATEVER THE INPUT: true; the input reads as it did. -/
def fnExactTuneOfSpec : ChangeSpec := { name := "fnExactTuneOf", fn := fun _ => fun
  | [d1, d2] => { results := [.lit (.bool true)], args := [d1, d2] }
  | _ => none }
def fnExactTuneOfRow : OpenClaim := { program := "ytclapnindihhnaa", sum := "fefb034680c08efee5e2b8eb596506c8e943b58d99a098236eec31ec13639252", func := "loop.example/g00949/laws.FnExactTuneOf", spec := "fnExactTuneOf", apart := false }
def FnExactTuneOfSaid : Prop := fnExactTuneOfRow.holds Try.pinned (OpenSpec.ofChange fnExactTuneOfSpec)

/-- ITS FALSE NEIGHBOUR: 'it returns false'. Refute it at one input. -/
def fnExactTuneOfWrong : ChangeSpec := { name := "fnExactTuneOf", fn := fun _ => fun
  | [d1, d2] => { results := [.lit (.bool false)], args := [d1, d2] }
  | _ => none }
def FnExactTuneOfWrongFalsely : Prop := fnExactTuneOfRow.holds Try.pinned (OpenSpec.ofChange fnExactTuneOfWrong)

/-- 'laws.FnExactWithoutTune': WHATEVER THE INPUT: true; the input reads as it did. -/
def fnExactWithoutTuneSpec : ChangeSpec := { name := "fnExactWithoutTune", fn := fun _ => fun
  | [d1, d2] => { results := [.lit (.bool true)], args := [d1, d2] }
  | _ => none }
def fnExactWithoutTuneRow : OpenClaim := { program := "ytclapnindihhnaa", sum := "fefb034680c08efee5e2b8eb596506c8e943b58d99a098236eec31ec13639252", func := "loop.example/g00949/laws.FnExactWithoutTune", spec := "fnExactWithoutTune", apart := false }
def FnExactWithoutTuneSaid : Prop := fnExactWithoutTuneRow.holds Try.pinned (OpenSpec.ofChange fnExactWithoutTuneSpec)

/-- ITS FALSE NEIGHBOUR: 'it returns false'. Refute it at one input. -/
def fnExactWithoutTuneWrong : ChangeSpec := { name := "fnExactWithoutTune", fn := fun _ => fun
  | [d1, d2] => { results := [.lit (.bool false)], args := [d1, d2] }
  | _ => none }
def FnExactWithoutTuneWrongFalsely : Prop := fnExactWithoutTuneRow.holds Try.pinned (OpenSpec.ofChange fnExactWithoutTuneWrong)

/-- 'laws.FnExactGreatestGap': WHATEVER THE INPUT: true; the input reads as it did. -/
def fnExactGreatestGapSpec : ChangeSpec := { name := "fnExactGreatestGap", fn := fun _ => fun
  | [d] => { results := [.lit (.bool true)], args := [d] }
  | _ => none }
def fnExactGreatestGapRow : OpenClaim := { program := "ytclapnindihhnaa", sum := "fefb034680c08efee5e2b8eb596506c8e943b58d99a098236eec31ec13639252", func := "loop.example/g00949/laws.FnExactGreatestGap", spec := "fnExactGreatestGap", apart := false }
def FnExactGreatestGapSaid : Prop := fnExactGreatestGapRow.holds Try.pinned (OpenSpec.ofChange fnExactGreatestGapSpec)

/-- ITS FALSE NEIGHBOUR: 'it returns false'. Refute it at one input. -/
def fnExactGreatestGapWrong : ChangeSpec := { name := "fnExactGreatestGap", fn := fun _ => fun
  | [d] => { results := [.lit (.bool false)], args := [d] }
  | _ => none }
def FnExactGreatestGapWrongFalsely : Prop := fnExactGreatestGapRow.holds Try.pinned (OpenSpec.ofChange fnExactGreatestGapWrong)

/-- 'laws.FnExactPlayedAt': WHATEVER THE INPUT: true; the input reads as it did. -/
def fnExactPlayedAtSpec : ChangeSpec := { name := "fnExactPlayedAt", fn := fun _ => fun
  | [d1, d2, d3] => { results := [.lit (.bool true)], args := [d1, d2, d3] }
  | _ => none }
def fnExactPlayedAtRow : OpenClaim := { program := "ytclapnindihhnaa", sum := "fefb034680c08efee5e2b8eb596506c8e943b58d99a098236eec31ec13639252", func := "loop.example/g00949/laws.FnExactPlayedAt", spec := "fnExactPlayedAt", apart := false }
def FnExactPlayedAtSaid : Prop := fnExactPlayedAtRow.holds Try.pinned (OpenSpec.ofChange fnExactPlayedAtSpec)

/-- ITS FALSE NEIGHBOUR: 'it returns false'. Refute it at one input. -/
def fnExactPlayedAtWrong : ChangeSpec := { name := "fnExactPlayedAt", fn := fun _ => fun
  | [d1, d2, d3] => { results := [.lit (.bool false)], args := [d1, d2, d3] }
  | _ => none }
def FnExactPlayedAtWrongFalsely : Prop := fnExactPlayedAtRow.holds Try.pinned (OpenSpec.ofChange fnExactPlayedAtWrong)

/-- 'laws.FnExactNearPins': WHATEVER THE INPUT: true; the input reads as it did. -/
def fnExactNearPinsSpec : ChangeSpec := { name := "fnExactNearPins", fn := fun _ => fun
  | [d1, d2] => { results := [.lit (.bool true)], args := [d1, d2] }
  | _ => none }
def fnExactNearPinsRow : OpenClaim := { program := "ytclapnindihhnaa", sum := "fefb034680c08efee5e2b8eb596506c8e943b58d99a098236eec31ec13639252", func := "loop.example/g00949/laws.FnExactNearPins", spec := "fnExactNearPins", apart := false }
def FnExactNearPinsSaid : Prop := fnExactNearPinsRow.holds Try.pinned (OpenSpec.ofChange fnExactNearPinsSpec)

/-- ITS FALSE NEIGHBOUR: 'it returns false'. Refute it at one input. -/
def fnExactNearPinsWrong : ChangeSpec := { name := "fnExactNearPins", fn := fun _ => fun
  | [d1, d2] => { results := [.lit (.bool false)], args := [d1, d2] }
  | _ => none }
def FnExactNearPinsWrongFalsely : Prop := fnExactNearPinsRow.holds Try.pinned (OpenSpec.ofChange fnExactNearPinsWrong)

/-- 'laws.FnExactAddPin': WHATEVER THE INPUT: true; the input reads as it did. -/
def fnExactAddPinSpec : ChangeSpec := { name := "fnExactAddPin", fn := fun _ => fun
  | [d1, d2] => { results := [.lit (.bool true)], args := [d1, d2] }
  | _ => none }
def fnExactAddPinRow : OpenClaim := { program := "ytclapnindihhnaa", sum := "fefb034680c08efee5e2b8eb596506c8e943b58d99a098236eec31ec13639252", func := "loop.example/g00949/laws.FnExactAddPin", spec := "fnExactAddPin", inPlace := ["internal/reflectlite.ValueOf", "internal/reflectlite.Swapper", "(internal/reflectlite.Value).Len"], unfollowed := true, recurses := true, apart := false }
def FnExactAddPinSaid : Prop := fnExactAddPinRow.holds Try.pinned (OpenSpec.ofChange fnExactAddPinSpec)

/-- ITS FALSE NEIGHBOUR: 'it returns false'. Refute it at one input. -/
def fnExactAddPinWrong : ChangeSpec := { name := "fnExactAddPin", fn := fun _ => fun
  | [d1, d2] => { results := [.lit (.bool false)], args := [d1, d2] }
  | _ => none }
def FnExactAddPinWrongFalsely : Prop := fnExactAddPinRow.holds Try.pinned (OpenSpec.ofChange fnExactAddPinWrong)

/-- 'laws.FnExactSwapTunes': WHATEVER THE INPUT: true; the input reads as it did. -/
def fnExactSwapTunesSpec : ChangeSpec := { name := "fnExactSwapTunes", fn := fun _ => fun
  | [d1, d2, d3] => { results := [.lit (.bool true)], args := [d1, d2, d3] }
  | _ => none }
def fnExactSwapTunesRow : OpenClaim := { program := "ytclapnindihhnaa", sum := "fefb034680c08efee5e2b8eb596506c8e943b58d99a098236eec31ec13639252", func := "loop.example/g00949/laws.FnExactSwapTunes", spec := "fnExactSwapTunes", inPlace := ["internal/reflectlite.ValueOf", "internal/reflectlite.Swapper", "(internal/reflectlite.Value).Len"], unfollowed := true, recurses := true, apart := false }
def FnExactSwapTunesSaid : Prop := fnExactSwapTunesRow.holds Try.pinned (OpenSpec.ofChange fnExactSwapTunesSpec)

/-- ITS FALSE NEIGHBOUR: 'it returns false'. Refute it at one input. -/
def fnExactSwapTunesWrong : ChangeSpec := { name := "fnExactSwapTunes", fn := fun _ => fun
  | [d1, d2, d3] => { results := [.lit (.bool false)], args := [d1, d2, d3] }
  | _ => none }
def FnExactSwapTunesWrongFalsely : Prop := fnExactSwapTunesRow.holds Try.pinned (OpenSpec.ofChange fnExactSwapTunesWrong)

/-- 'laws.FnExactTurnTune': WHATEVER THE INPUT: true; the input reads as it did. -/
def fnExactTurnTuneSpec : ChangeSpec := { name := "fnExactTurnTune", fn := fun _ => fun
  | [d1, d2, d3] => { results := [.lit (.bool true)], args := [d1, d2, d3] }
  | _ => none }
def fnExactTurnTuneRow : OpenClaim := { program := "ytclapnindihhnaa", sum := "fefb034680c08efee5e2b8eb596506c8e943b58d99a098236eec31ec13639252", func := "loop.example/g00949/laws.FnExactTurnTune", spec := "fnExactTurnTune", inPlace := ["internal/reflectlite.ValueOf", "internal/reflectlite.Swapper", "(internal/reflectlite.Value).Len"], unfollowed := true, recurses := true, apart := false }
def FnExactTurnTuneSaid : Prop := fnExactTurnTuneRow.holds Try.pinned (OpenSpec.ofChange fnExactTurnTuneSpec)

/-- ITS FALSE NEIGHBOUR: 'it returns false'. Refute it at one input. -/
def fnExactTurnTuneWrong : ChangeSpec := { name := "fnExactTurnTune", fn := fun _ => fun
  | [d1, d2, d3] => { results := [.lit (.bool false)], args := [d1, d2, d3] }
  | _ => none }
def FnExactTurnTuneWrongFalsely : Prop := fnExactTurnTuneRow.holds Try.pinned (OpenSpec.ofChange fnExactTurnTuneWrong)

/-- 'laws.FnExactBestTurn': WHATEVER THE INPUT: true; the input reads as it did. -/
def fnExactBestTurnSpec : ChangeSpec := { name := "fnExactBestTurn", fn := fun _ => fun
  | [d1, d2, d3] => { results := [.lit (.bool true)], args := [d1, d2, d3] }
  | _ => none }
def fnExactBestTurnRow : OpenClaim := { program := "ytclapnindihhnaa", sum := "fefb034680c08efee5e2b8eb596506c8e943b58d99a098236eec31ec13639252", func := "loop.example/g00949/laws.FnExactBestTurn", spec := "fnExactBestTurn", inPlace := ["internal/reflectlite.ValueOf", "internal/reflectlite.Swapper", "(internal/reflectlite.Value).Len"], unfollowed := true, recurses := true, apart := false }
def FnExactBestTurnSaid : Prop := fnExactBestTurnRow.holds Try.pinned (OpenSpec.ofChange fnExactBestTurnSpec)

/-- ITS FALSE NEIGHBOUR: 'it returns false'. Refute it at one input. -/
def fnExactBestTurnWrong : ChangeSpec := { name := "fnExactBestTurn", fn := fun _ => fun
  | [d1, d2, d3] => { results := [.lit (.bool false)], args := [d1, d2, d3] }
  | _ => none }
def FnExactBestTurnWrongFalsely : Prop := fnExactBestTurnRow.holds Try.pinned (OpenSpec.ofChange fnExactBestTurnWrong)

/- THE SECOND FORM. 'bulk': how many values and letters a reading holds, each counted each time it is reached (what is shared counts as often as it is met; a slice's spare places count too). A statement '..UptoSaid' is the law's where the arguments, and the package variables that the reading takes, are together of bulk at most 1048576: NARROWER than '..Said'. Prove '..Said' where nothing that the law and all that it calls make is longer than what came in: it says more and counts as full. Else prove '..UptoSaid'. A law counts once. -/
mutual
def uptoBulk {H : Type} : DataW H → Nat
  | .lit (.string bytes) => bytes.length + 1
  | .lit _ => 1
  | .nil => 1
  | .ptr d => uptoBulk d + 1
  | .slice elems spare => uptoBulkAll elems + uptoBulkAll spare + 1
  | .agg parts => uptoBulkAll parts + 1
  | .iface _ d => uptoBulk d + 1
  | .map entries => uptoBulkEntries entries + 1
  | .held _ => 1
def uptoBulkAll {H : Type} : List (DataW H) → Nat
  | [] => 0
  | d :: r => uptoBulk d + uptoBulkAll r
def uptoBulkEntries {H : Type} : List (Lit × DataW H) → Nat
  | [] => 0
  | x :: r => uptoBulkEntry x + uptoBulkEntries r
def uptoBulkEntry {H : Type} : Lit × DataW H → Nat
  | (.string bytes, d) => bytes.length + uptoBulk d + 1
  | (_, d) => uptoBulk d + 1
 end
def uptoSmall : (H : Type) → List (DataW H) → Bool := fun _ ds => decide (uptoBulkAll ds ≤ 1048576)
def OpenSpec.upto (s : _root_.Go.ChangeSpec) : _root_.Go.OpenSpec := { _root_.Go.OpenSpec.ofChange s with cond := some uptoSmall }

/-- 'laws.FnExactArePins', WHERE WHAT IT READS IS OF BULK AT MOST 1048576: true; the input reads as it did. -/
def fnExactArePinsUptoRow : OpenClaim := { program := "ytclapnindihhnaa", sum := "fefb034680c08efee5e2b8eb596506c8e943b58d99a098236eec31ec13639252", func := "loop.example/g00949/laws.FnExactArePins", spec := "fnExactArePins", apart := false, narrowed := true }
def FnExactArePinsUptoSaid : Prop := fnExactArePinsUptoRow.holds Try.pinned (OpenSpec.upto fnExactArePinsSpec)

/-- 'laws.FnExactNextPlayed', WHERE WHAT IT READS IS OF BULK AT MOST 1048576: true; the input reads as it did. -/
def fnExactNextPlayedUptoRow : OpenClaim := { program := "ytclapnindihhnaa", sum := "fefb034680c08efee5e2b8eb596506c8e943b58d99a098236eec31ec13639252", func := "loop.example/g00949/laws.FnExactNextPlayed", spec := "fnExactNextPlayed", apart := false, narrowed := true }
def FnExactNextPlayedUptoSaid : Prop := fnExactNextPlayedUptoRow.holds Try.pinned (OpenSpec.upto fnExactNextPlayedSpec)

/-- 'laws.FnExactTuneOf', WHERE WHAT IT READS IS OF BULK AT MOST 1048576: true; the input reads as it did. -/
def fnExactTuneOfUptoRow : OpenClaim := { program := "ytclapnindihhnaa", sum := "fefb034680c08efee5e2b8eb596506c8e943b58d99a098236eec31ec13639252", func := "loop.example/g00949/laws.FnExactTuneOf", spec := "fnExactTuneOf", apart := false, narrowed := true }
def FnExactTuneOfUptoSaid : Prop := fnExactTuneOfUptoRow.holds Try.pinned (OpenSpec.upto fnExactTuneOfSpec)

/-- 'laws.FnExactWithoutTune', WHERE WHAT IT READS IS OF BULK AT MOST 1048576: true; the input reads as it did. -/
def fnExactWithoutTuneUptoRow : OpenClaim := { program := "ytclapnindihhnaa", sum := "fefb034680c08efee5e2b8eb596506c8e943b58d99a098236eec31ec13639252", func := "loop.example/g00949/laws.FnExactWithoutTune", spec := "fnExactWithoutTune", apart := false, narrowed := true }
def FnExactWithoutTuneUptoSaid : Prop := fnExactWithoutTuneUptoRow.holds Try.pinned (OpenSpec.upto fnExactWithoutTuneSpec)

/-- 'laws.FnExactGreatestGap', WHERE WHAT IT READS IS OF BULK AT MOST 1048576: true; the input reads as it did. -/
def fnExactGreatestGapUptoRow : OpenClaim := { program := "ytclapnindihhnaa", sum := "fefb034680c08efee5e2b8eb596506c8e943b58d99a098236eec31ec13639252", func := "loop.example/g00949/laws.FnExactGreatestGap", spec := "fnExactGreatestGap", apart := false, narrowed := true }
def FnExactGreatestGapUptoSaid : Prop := fnExactGreatestGapUptoRow.holds Try.pinned (OpenSpec.upto fnExactGreatestGapSpec)

/-- 'laws.FnExactPlayedAt', WHERE WHAT IT READS IS OF BULK AT MOST 1048576: true; the input reads as it did. -/
def fnExactPlayedAtUptoRow : OpenClaim := { program := "ytclapnindihhnaa", sum := "fefb034680c08efee5e2b8eb596506c8e943b58d99a098236eec31ec13639252", func := "loop.example/g00949/laws.FnExactPlayedAt", spec := "fnExactPlayedAt", apart := false, narrowed := true }
def FnExactPlayedAtUptoSaid : Prop := fnExactPlayedAtUptoRow.holds Try.pinned (OpenSpec.upto fnExactPlayedAtSpec)

/-- 'laws.FnExactNearPins', WHERE WHAT IT READS IS OF BULK AT MOST 1048576: true; the input reads as it did. -/
def fnExactNearPinsUptoRow : OpenClaim := { program := "ytclapnindihhnaa", sum := "fefb034680c08efee5e2b8eb596506c8e943b58d99a098236eec31ec13639252", func := "loop.example/g00949/laws.FnExactNearPins", spec := "fnExactNearPins", apart := false, narrowed := true }
def FnExactNearPinsUptoSaid : Prop := fnExactNearPinsUptoRow.holds Try.pinned (OpenSpec.upto fnExactNearPinsSpec)

/-- 'laws.FnExactAddPin', WHERE WHAT IT READS IS OF BULK AT MOST 1048576: true; the input reads as it did. -/
def fnExactAddPinUptoRow : OpenClaim := { program := "ytclapnindihhnaa", sum := "fefb034680c08efee5e2b8eb596506c8e943b58d99a098236eec31ec13639252", func := "loop.example/g00949/laws.FnExactAddPin", spec := "fnExactAddPin", inPlace := ["internal/reflectlite.ValueOf", "internal/reflectlite.Swapper", "(internal/reflectlite.Value).Len"], unfollowed := true, recurses := true, apart := false, narrowed := true }
def FnExactAddPinUptoSaid : Prop := fnExactAddPinUptoRow.holds Try.pinned (OpenSpec.upto fnExactAddPinSpec)

/-- 'laws.FnExactSwapTunes', WHERE WHAT IT READS IS OF BULK AT MOST 1048576: true; the input reads as it did. -/
def fnExactSwapTunesUptoRow : OpenClaim := { program := "ytclapnindihhnaa", sum := "fefb034680c08efee5e2b8eb596506c8e943b58d99a098236eec31ec13639252", func := "loop.example/g00949/laws.FnExactSwapTunes", spec := "fnExactSwapTunes", inPlace := ["internal/reflectlite.ValueOf", "internal/reflectlite.Swapper", "(internal/reflectlite.Value).Len"], unfollowed := true, recurses := true, apart := false, narrowed := true }
def FnExactSwapTunesUptoSaid : Prop := fnExactSwapTunesUptoRow.holds Try.pinned (OpenSpec.upto fnExactSwapTunesSpec)

/-- 'laws.FnExactTurnTune', WHERE WHAT IT READS IS OF BULK AT MOST 1048576: true; the input reads as it did. -/
def fnExactTurnTuneUptoRow : OpenClaim := { program := "ytclapnindihhnaa", sum := "fefb034680c08efee5e2b8eb596506c8e943b58d99a098236eec31ec13639252", func := "loop.example/g00949/laws.FnExactTurnTune", spec := "fnExactTurnTune", inPlace := ["internal/reflectlite.ValueOf", "internal/reflectlite.Swapper", "(internal/reflectlite.Value).Len"], unfollowed := true, recurses := true, apart := false, narrowed := true }
def FnExactTurnTuneUptoSaid : Prop := fnExactTurnTuneUptoRow.holds Try.pinned (OpenSpec.upto fnExactTurnTuneSpec)

/-- 'laws.FnExactBestTurn', WHERE WHAT IT READS IS OF BULK AT MOST 1048576: true; the input reads as it did. -/
def fnExactBestTurnUptoRow : OpenClaim := { program := "ytclapnindihhnaa", sum := "fefb034680c08efee5e2b8eb596506c8e943b58d99a098236eec31ec13639252", func := "loop.example/g00949/laws.FnExactBestTurn", spec := "fnExactBestTurn", inPlace := ["internal/reflectlite.ValueOf", "internal/reflectlite.Swapper", "(internal/reflectlite.Value).Len"], unfollowed := true, recurses := true, apart := false, narrowed := true }
def FnExactBestTurnUptoSaid : Prop := fnExactBestTurnUptoRow.holds Try.pinned (OpenSpec.upto fnExactBestTurnSpec)

end Rows
end Go.Proofs.Ytclapnindihhnaa
