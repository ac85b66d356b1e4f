/-
  No cell of these rows narrows 'for every input' (looked for: loops, veiled, ifaces, maps, wideKeys, modest, calm, conditions, laid).
  DERIVED. THE GIVEN ROWS OF THIS SEAT. 6 by the template 'for every input the law returns true; each argument reads behind the call as it read before'; 0 by the template 'total and deterministic' (their statements: YtllhnffkipnofaaTotals.lean).
  GIVEN WITH THE SEED: the statements are not yours to turn. If you find one false, say at which input.
  Laid BY PROGRAM, IN A SANDBOX (cutbox-rows.mjs): the forced cells as the released guide's own fill.sh prints them over the translation f879da3d6528e13b… (all of the seat's roots in one cut). By AI agents, Wed Nov 11 2026. No macro, syntax, notation, axiom, sorry.
-/
import Derived.Test.YtllhnffkipnofaaChecked
import GoSem.Claim
import GoSem.ClaimJoined
import GoSem.ClaimMapViews
import Derived.JoinedTies
import Derived.KernelRfl
namespace Go.Proofs.Ytllhnffkipnofaa
/- THE CELL 'sum', in the pinned program and in every row, IS THE sha256 OF THE DUMP (.gsa) THAT YtllhnffkipnofaaProg.lean LOADS. Nothing in Lean hashes anything: it is a label: what it is worth is what the hold of that sum in a sandbox is worth. -/
noncomputable def Try.pinned : Pinned := { name := "ytllhnffkipnofaa", sum := "f879da3d6528e13b092a24d8f96604ba80d032df83a8920093a08317da666e87", checked := Try.checked }
namespace Rows
def none {H : Type} : Left H := { results := [], args := [] }

/-- 'laws.FnExactMoveSheet': WHATEVER THE INPUT: true; the input reads as it did. -/
def fnExactMoveSheetSpec : ChangeSpec := { name := "fnExactMoveSheet", fn := fun _ => fun
  | [d1, d2] => { results := [.lit (.bool true)], args := [d1, d2] }
  | _ => none }
def fnExactMoveSheetRow : OpenClaim := { program := "ytllhnffkipnofaa", sum := "f879da3d6528e13b092a24d8f96604ba80d032df83a8920093a08317da666e87", func := "loop.example/g00949/laws.FnExactMoveSheet", spec := "fnExactMoveSheet", inPlace := ["internal/reflectlite.ValueOf", "internal/reflectlite.Swapper", "(internal/reflectlite.Value).Len"], unfollowed := true, recurses := true, apart := false }
def FnExactMoveSheetSaid : Prop := fnExactMoveSheetRow.holds Try.pinned (OpenSpec.ofChange fnExactMoveSheetSpec)

/-- ITS FALSE NEIGHBOUR: 'it returns false'. Refute it at one input. -/
def fnExactMoveSheetWrong : ChangeSpec := { name := "fnExactMoveSheet", fn := fun _ => fun
  | [d1, d2] => { results := [.lit (.bool false)], args := [d1, d2] }
  | _ => none }
def FnExactMoveSheetWrongFalsely : Prop := fnExactMoveSheetRow.holds Try.pinned (OpenSpec.ofChange fnExactMoveSheetWrong)

/-- 'laws.FnExactAddHole': WHATEVER THE INPUT: true; the input reads as it did. -/
def fnExactAddHoleSpec : ChangeSpec := { name := "fnExactAddHole", fn := fun _ => fun
  | [d1, d2] => { results := [.lit (.bool true)], args := [d1, d2] }
  | _ => none }
def fnExactAddHoleRow : OpenClaim := { program := "ytllhnffkipnofaa", sum := "f879da3d6528e13b092a24d8f96604ba80d032df83a8920093a08317da666e87", func := "loop.example/g00949/laws.FnExactAddHole", spec := "fnExactAddHole", inPlace := ["internal/reflectlite.ValueOf", "internal/reflectlite.Swapper", "(internal/reflectlite.Value).Len"], unfollowed := true, recurses := true, apart := false }
def FnExactAddHoleSaid : Prop := fnExactAddHoleRow.holds Try.pinned (OpenSpec.ofChange fnExactAddHoleSpec)

/-- ITS FALSE NEIGHBOUR: 'it returns false'. Refute it at one input. -/
def fnExactAddHoleWrong : ChangeSpec := { name := "fnExactAddHole", fn := fun _ => fun
  | [d1, d2] => { results := [.lit (.bool false)], args := [d1, d2] }
  | _ => none }
def FnExactAddHoleWrongFalsely : Prop := fnExactAddHoleRow.holds Try.pinned (OpenSpec.ofChange fnExactAddHoleWrong)

/-- 'laws.FnExactMirrorTracks': WHATEVER THE INPUT: true; the input reads as it did. -/
def fnExactMirrorTracksSpec : ChangeSpec := { name := "fnExactMirrorTracks", fn := fun _ => fun
  | [d] => { results := [.lit (.bool true)], args := [d] }
  | _ => none }
def fnExactMirrorTracksRow : OpenClaim := { program := "ytllhnffkipnofaa", sum := "f879da3d6528e13b092a24d8f96604ba80d032df83a8920093a08317da666e87", func := "loop.example/g00949/laws.FnExactMirrorTracks", spec := "fnExactMirrorTracks", inPlace := ["internal/reflectlite.ValueOf", "internal/reflectlite.Swapper", "(internal/reflectlite.Value).Len"], unfollowed := true, recurses := true, apart := false }
def FnExactMirrorTracksSaid : Prop := fnExactMirrorTracksRow.holds Try.pinned (OpenSpec.ofChange fnExactMirrorTracksSpec)

/-- ITS FALSE NEIGHBOUR: 'it returns false'. Refute it at one input. -/
def fnExactMirrorTracksWrong : ChangeSpec := { name := "fnExactMirrorTracks", fn := fun _ => fun
  | [d] => { results := [.lit (.bool false)], args := [d] }
  | _ => none }
def FnExactMirrorTracksWrongFalsely : Prop := fnExactMirrorTracksRow.holds Try.pinned (OpenSpec.ofChange fnExactMirrorTracksWrong)

/-- 'laws.FnExactReverseSheet': WHATEVER THE INPUT: true; the input reads as it did. -/
def fnExactReverseSheetSpec : ChangeSpec := { name := "fnExactReverseSheet", fn := fun _ => fun
  | [d1, d2] => { results := [.lit (.bool true)], args := [d1, d2] }
  | _ => none }
def fnExactReverseSheetRow : OpenClaim := { program := "ytllhnffkipnofaa", sum := "f879da3d6528e13b092a24d8f96604ba80d032df83a8920093a08317da666e87", func := "loop.example/g00949/laws.FnExactReverseSheet", spec := "fnExactReverseSheet", inPlace := ["internal/reflectlite.ValueOf", "internal/reflectlite.Swapper", "(internal/reflectlite.Value).Len"], unfollowed := true, recurses := true, apart := false }
def FnExactReverseSheetSaid : Prop := fnExactReverseSheetRow.holds Try.pinned (OpenSpec.ofChange fnExactReverseSheetSpec)

/-- ITS FALSE NEIGHBOUR: 'it returns false'. Refute it at one input. -/
def fnExactReverseSheetWrong : ChangeSpec := { name := "fnExactReverseSheet", fn := fun _ => fun
  | [d1, d2] => { results := [.lit (.bool false)], args := [d1, d2] }
  | _ => none }
def FnExactReverseSheetWrongFalsely : Prop := fnExactReverseSheetRow.holds Try.pinned (OpenSpec.ofChange fnExactReverseSheetWrong)

/-- 'laws.FnExactCutSheet': WHATEVER THE INPUT: true; the input reads as it did. -/
def fnExactCutSheetSpec : ChangeSpec := { name := "fnExactCutSheet", fn := fun _ => fun
  | [d1, d2, d3] => { results := [.lit (.bool true)], args := [d1, d2, d3] }
  | _ => none }
def fnExactCutSheetRow : OpenClaim := { program := "ytllhnffkipnofaa", sum := "f879da3d6528e13b092a24d8f96604ba80d032df83a8920093a08317da666e87", func := "loop.example/g00949/laws.FnExactCutSheet", spec := "fnExactCutSheet", inPlace := ["internal/reflectlite.ValueOf", "internal/reflectlite.Swapper", "(internal/reflectlite.Value).Len"], unfollowed := true, recurses := true, apart := false }
def FnExactCutSheetSaid : Prop := fnExactCutSheetRow.holds Try.pinned (OpenSpec.ofChange fnExactCutSheetSpec)

/-- ITS FALSE NEIGHBOUR: 'it returns false'. Refute it at one input. -/
def fnExactCutSheetWrong : ChangeSpec := { name := "fnExactCutSheet", fn := fun _ => fun
  | [d1, d2, d3] => { results := [.lit (.bool false)], args := [d1, d2, d3] }
  | _ => none }
def FnExactCutSheetWrongFalsely : Prop := fnExactCutSheetRow.holds Try.pinned (OpenSpec.ofChange fnExactCutSheetWrong)

/-- 'laws.FnExactOpenTracks': WHATEVER THE INPUT: true; the input reads as it did. -/
def fnExactOpenTracksSpec : ChangeSpec := { name := "fnExactOpenTracks", fn := fun _ => fun
  | [d1, d2] => { results := [.lit (.bool true)], args := [d1, d2] }
  | _ => none }
def fnExactOpenTracksRow : OpenClaim := { program := "ytllhnffkipnofaa", sum := "f879da3d6528e13b092a24d8f96604ba80d032df83a8920093a08317da666e87", func := "loop.example/g00949/laws.FnExactOpenTracks", spec := "fnExactOpenTracks", recurses := true, apart := false }
def FnExactOpenTracksSaid : Prop := fnExactOpenTracksRow.holds Try.pinned (OpenSpec.ofChange fnExactOpenTracksSpec)

/-- ITS FALSE NEIGHBOUR: 'it returns false'. Refute it at one input. -/
def fnExactOpenTracksWrong : ChangeSpec := { name := "fnExactOpenTracks", fn := fun _ => fun
  | [d1, d2] => { results := [.lit (.bool false)], args := [d1, d2] }
  | _ => none }
def FnExactOpenTracksWrongFalsely : Prop := fnExactOpenTracksRow.holds Try.pinned (OpenSpec.ofChange fnExactOpenTracksWrong)

/- THE SECOND FORM. 'bulk': how many values and letters a reading holds, each counted each time it is reached (what is shared counts as often as it is met; a slice's spare places count too). A statement '..UptoSaid' is the law's where the arguments, and the package variables that the reading takes, are together of bulk at most 1048576: NARROWER than '..Said'. Prove '..Said' where nothing that the law and all that it calls make is longer than what came in: it says more and counts as full. Else prove '..UptoSaid'. A law counts once. -/
mutual
def uptoBulk {H : Type} : DataW H → Nat
  | .lit (.string bytes) => bytes.length + 1
  | .lit _ => 1
  | .nil => 1
  | .ptr d => uptoBulk d + 1
  | .slice elems spare => uptoBulkAll elems + uptoBulkAll spare + 1
  | .agg parts => uptoBulkAll parts + 1
  | .iface _ d => uptoBulk d + 1
  | .map entries => uptoBulkEntries entries + 1
  | .held _ => 1
def uptoBulkAll {H : Type} : List (DataW H) → Nat
  | [] => 0
  | d :: r => uptoBulk d + uptoBulkAll r
def uptoBulkEntries {H : Type} : List (Lit × DataW H) → Nat
  | [] => 0
  | x :: r => uptoBulkEntry x + uptoBulkEntries r
def uptoBulkEntry {H : Type} : Lit × DataW H → Nat
  | (.string bytes, d) => bytes.length + uptoBulk d + 1
  | (_, d) => uptoBulk d + 1
 end
def uptoSmall : (H : Type) → List (DataW H) → Bool := fun _ ds => decide (uptoBulkAll ds ≤ 1048576)
def OpenSpec.upto (s : _root_.Go.ChangeSpec) : _root_.Go.OpenSpec := { _root_.Go.OpenSpec.ofChange s with cond := some uptoSmall }

/-- 'laws.FnExactMoveSheet', WHERE WHAT IT READS IS OF BULK AT MOST 1048576: true; the input reads as it did. -/
def fnExactMoveSheetUptoRow : OpenClaim := { program := "ytllhnffkipnofaa", sum := "f879da3d6528e13b092a24d8f96604ba80d032df83a8920093a08317da666e87", func := "loop.example/g00949/laws.FnExactMoveSheet", spec := "fnExactMoveSheet", inPlace := ["internal/reflectlite.ValueOf", "internal/reflectlite.Swapper", "(internal/reflectlite.Value).Len"], unfollowed := true, recurses := true, apart := false, narrowed := true }
def FnExactMoveSheetUptoSaid : Prop := fnExactMoveSheetUptoRow.holds Try.pinned (OpenSpec.upto fnExactMoveSheetSpec)

/-- 'laws.FnExactAddHole', WHERE WHAT IT READS IS OF BULK AT MOST 1048576: true; the input reads as it did. -/
def fnExactAddHoleUptoRow : OpenClaim := { program := "ytllhnffkipnofaa", sum := "f879da3d6528e13b092a24d8f96604ba80d032df83a8920093a08317da666e87", func := "loop.example/g00949/laws.FnExactAddHole", spec := "fnExactAddHole", inPlace := ["internal/reflectlite.ValueOf", "internal/reflectlite.Swapper", "(internal/reflectlite.Value).Len"], unfollowed := true, recurses := true, apart := false, narrowed := true }
def FnExactAddHoleUptoSaid : Prop := fnExactAddHoleUptoRow.holds Try.pinned (OpenSpec.upto fnExactAddHoleSpec)

/-- 'laws.FnExactMirrorTracks', WHERE WHAT IT READS IS OF BULK AT MOST 1048576: true; the input reads as it did. -/
def fnExactMirrorTracksUptoRow : OpenClaim := { program := "ytllhnffkipnofaa", sum := "f879da3d6528e13b092a24d8f96604ba80d032df83a8920093a08317da666e87", func := "loop.example/g00949/laws.FnExactMirrorTracks", spec := "fnExactMirrorTracks", inPlace := ["internal/reflectlite.ValueOf", "internal/reflectlite.Swapper", "(internal/reflectlite.Value).Len"], unfollowed := true, recurses := true, apart := false, narrowed := true }
def FnExactMirrorTracksUptoSaid : Prop := fnExactMirrorTracksUptoRow.holds Try.pinned (OpenSpec.upto fnExactMirrorTracksSpec)

/-- 'laws.FnExactReverseSheet', WHERE WHAT IT READS IS OF BULK AT MOST 1048576: true; the input reads as it did. -/
def fnExactReverseSheetUptoRow : OpenClaim := { program := "ytllhnffkipnofaa", sum := "f879da3d6528e13b092a24d8f96604ba80d032df83a8920093a08317da666e87", func := "loop.example/g00949/laws.FnExactReverseSheet", spec := "fnExactReverseSheet", inPlace := ["internal/reflectlite.ValueOf", "internal/reflectlite.Swapper", "(internal/reflectlite.Value).Len"], unfollowed := true, recurses := true, apart := false, narrowed := true }
def FnExactReverseSheetUptoSaid : Prop := fnExactReverseSheetUptoRow.holds Try.pinned (OpenSpec.upto fnExactReverseSheetSpec)

/-- 'laws.FnExactCutSheet', WHERE WHAT IT READS IS OF BULK AT MOST 1048576: true; the input reads as it did. -/
def fnExactCutSheetUptoRow : OpenClaim := { program := "ytllhnffkipnofaa", sum := "f879da3d6528e13b092a24d8f96604ba80d032df83a8920093a08317da666e87", func := "loop.example/g00949/laws.FnExactCutSheet", spec := "fnExactCutSheet", inPlace := ["internal/reflectlite.ValueOf", "internal/reflectlite.Swapper", "(internal/reflectlite.Value).Len"], unfollowed := true, recurses := true, apart := false, narrowed := true }
def FnExactCutSheetUptoSaid : Prop := fnExactCutSheetUptoRow.holds Try.pinned (OpenSpec.upto fnExactCutSheetSpec)

/-- 'laws.FnExactOpenTracks', WHERE WHAT IT READS IS OF BULK AT MOST 1048576: true; the input reads as it did. -/
def fnExactOpenTracksUptoRow : OpenClaim := { program := "ytllhnffkipnofaa", sum := "f879da3d6528e13b092a24d8f96604ba80d032df83a8920093a08317da666e87", func := "loop.example/g00949/laws.FnExactOpenTracks", spec := "fnExactOpenTracks", recurses := true, apart := false, narrowed := true }
def FnExactOpenTracksUptoSaid : Prop := fnExactOpenTracksUptoRow.holds Try.pinned (OpenSpec.upto fnExactOpenTracksSpec)

end Rows
end Go.Proofs.Ytllhnffkipnofaa
