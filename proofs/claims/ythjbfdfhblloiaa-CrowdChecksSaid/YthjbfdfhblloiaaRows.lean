/-
  No cell of these rows narrows 'for every input' (looked for: loops, veiled, ifaces, maps, wideKeys, modest, calm, conditions, laid).
  DERIVED. THE GIVEN ROWS OF THIS SEAT. 11 by the template 'for every input the law returns true; each argument reads behind the call as it read before'; 0 by the template 'total and deterministic' (their statements: YthjbfdfhblloiaaTotals.lean).
  GIVEN WITH THE SEED: the statements are not yours to turn. If you find one false, say at which input.
  Laid BY PROGRAM, IN A SANDBOX (cutbox-rows.mjs): the forced cells as the released guide's own fill.sh prints them over the translation 6e701f8123fa3267… (all of the seat's roots in one cut). By AI agents, Wed Nov 11 2026. No macro, syntax, notation, axiom, sorry.
-/
import Derived.Test.YthjbfdfhblloiaaChecked
import GoSem.Claim
import GoSem.ClaimJoined
import GoSem.ClaimMapViews
import Derived.JoinedTies
import Derived.KernelRfl
namespace Go.Proofs.Ythjbfdfhblloiaa
/- THE CELL 'sum', in the pinned program and in every row, IS THE sha256 OF THE DUMP (.gsa) THAT YthjbfdfhblloiaaProg.lean LOADS. Nothing in Lean hashes anything: it is a label: what it is worth is what the hold of that sum in a sandbox is worth. -/
noncomputable def Try.pinned : Pinned := { name := "ythjbfdfhblloiaa", sum := "6e701f8123fa3267c16d7582e260ae7a657090d3052b50e76403209be9c978fb", checked := Try.checked }
namespace Rows
def none {H : Type} : Left H := { results := [], args := [] }

/-- 'baterialaw06.CrowdChecks': WHATEVER THE INPUT: true; the input reads as it did. -/
def crowdChecksSpec : ChangeSpec := { name := "crowdChecks", fn := fun _ => fun
  | [d1, d2, d3, d4, d5, d6] => { results := [.lit (.bool true)], args := [d1, d2, d3, d4, d5, d6] }
  | _ => none }
def crowdChecksRow : OpenClaim := { program := "ythjbfdfhblloiaa", sum := "6e701f8123fa3267c16d7582e260ae7a657090d3052b50e76403209be9c978fb", func := "bateria/baterialaw06.CrowdChecks", spec := "crowdChecks", unfollowed := true, recurses := true, apart := false }
def CrowdChecksSaid : Prop := crowdChecksRow.holds Try.pinned (OpenSpec.ofChange crowdChecksSpec)

/-- ITS FALSE NEIGHBOUR: 'it returns false'. Refute it at one input. -/
def crowdChecksWrong : ChangeSpec := { name := "crowdChecks", fn := fun _ => fun
  | [d1, d2, d3, d4, d5, d6] => { results := [.lit (.bool false)], args := [d1, d2, d3, d4, d5, d6] }
  | _ => none }
def CrowdChecksWrongFalsely : Prop := crowdChecksRow.holds Try.pinned (OpenSpec.ofChange crowdChecksWrong)

/-- 'baterialaw06.CrowdWays': WHATEVER THE INPUT: true; the input reads as it did. -/
def crowdWaysSpec : ChangeSpec := { name := "crowdWays", fn := fun _ => fun
  | [d1, d2, d3, d4, d5] => { results := [.lit (.bool true)], args := [d1, d2, d3, d4, d5] }
  | _ => none }
def crowdWaysRow : OpenClaim := { program := "ythjbfdfhblloiaa", sum := "6e701f8123fa3267c16d7582e260ae7a657090d3052b50e76403209be9c978fb", func := "bateria/baterialaw06.CrowdWays", spec := "crowdWays", unfollowed := true, recurses := true, apart := false }
def CrowdWaysSaid : Prop := crowdWaysRow.holds Try.pinned (OpenSpec.ofChange crowdWaysSpec)

/-- ITS FALSE NEIGHBOUR: 'it returns false'. Refute it at one input. -/
def crowdWaysWrong : ChangeSpec := { name := "crowdWays", fn := fun _ => fun
  | [d1, d2, d3, d4, d5] => { results := [.lit (.bool false)], args := [d1, d2, d3, d4, d5] }
  | _ => none }
def CrowdWaysWrongFalsely : Prop := crowdWaysRow.holds Try.pinned (OpenSpec.ofChange crowdWaysWrong)

/-- 'baterialaw06.CrowdEnds': WHATEVER THE INPUT: true; the input reads as it did. -/
def crowdEndsSpec : ChangeSpec := { name := "crowdEnds", fn := fun _ => fun
  | [d] => { results := [.lit (.bool true)], args := [d] }
  | _ => none }
def crowdEndsRow : OpenClaim := { program := "ythjbfdfhblloiaa", sum := "6e701f8123fa3267c16d7582e260ae7a657090d3052b50e76403209be9c978fb", func := "bateria/baterialaw06.CrowdEnds", spec := "crowdEnds", unfollowed := true, recurses := true, apart := false }
def CrowdEndsSaid : Prop := crowdEndsRow.holds Try.pinned (OpenSpec.ofChange crowdEndsSpec)

/-- ITS FALSE NEIGHBOUR: 'it returns false'. Refute it at one input. -/
def crowdEndsWrong : ChangeSpec := { name := "crowdEnds", fn := fun _ => fun
  | [d] => { results := [.lit (.bool false)], args := [d] }
  | _ => none }
def CrowdEndsWrongFalsely : Prop := crowdEndsRow.holds Try.pinned (OpenSpec.ofChange crowdEndsWrong)

/-- 'baterialaw06.CrowdFewest': WHATEVER THE INPUT: true; the input reads as it did. -/
def crowdFewestSpec : ChangeSpec := { name := "crowdFewest", fn := fun _ => fun
  | [d] => { results := [.lit (.bool true)], args := [d] }
  | _ => none }
def crowdFewestRow : OpenClaim := { program := "ythjbfdfhblloiaa", sum := "6e701f8123fa3267c16d7582e260ae7a657090d3052b50e76403209be9c978fb", func := "bateria/baterialaw06.CrowdFewest", spec := "crowdFewest", unfollowed := true, recurses := true, apart := false }
def CrowdFewestSaid : Prop := crowdFewestRow.holds Try.pinned (OpenSpec.ofChange crowdFewestSpec)

/-- ITS FALSE NEIGHBOUR: 'it returns false'. Refute it at one input. -/
def crowdFewestWrong : ChangeSpec := { name := "crowdFewest", fn := fun _ => fun
  | [d] => { results := [.lit (.bool false)], args := [d] }
  | _ => none }
def CrowdFewestWrongFalsely : Prop := crowdFewestRow.holds Try.pinned (OpenSpec.ofChange crowdFewestWrong)

/-- 'baterialaw06.CrowdRoom': WHATEVER THE INPUT: true; the input reads as it did. -/
def crowdRoomSpec : ChangeSpec := { name := "crowdRoom", fn := fun _ => fun
  | [d] => { results := [.lit (.bool true)], args := [d] }
  | _ => none }
def crowdRoomRow : OpenClaim := { program := "ythjbfdfhblloiaa", sum := "6e701f8123fa3267c16d7582e260ae7a657090d3052b50e76403209be9c978fb", func := "bateria/baterialaw06.CrowdRoom", spec := "crowdRoom", unfollowed := true, recurses := true, apart := false }
def CrowdRoomSaid : Prop := crowdRoomRow.holds Try.pinned (OpenSpec.ofChange crowdRoomSpec)

/-- ITS FALSE NEIGHBOUR: 'it returns false'. Refute it at one input. -/
def crowdRoomWrong : ChangeSpec := { name := "crowdRoom", fn := fun _ => fun
  | [d] => { results := [.lit (.bool false)], args := [d] }
  | _ => none }
def CrowdRoomWrongFalsely : Prop := crowdRoomRow.holds Try.pinned (OpenSpec.ofChange crowdRoomWrong)

/-- 'baterialaw06.CrowdShortest': WHATEVER THE INPUT: true; the input reads as it did. -/
def crowdShortestSpec : ChangeSpec := { name := "crowdShortest", fn := fun _ => fun
  | [d] => { results := [.lit (.bool true)], args := [d] }
  | _ => none }
def crowdShortestRow : OpenClaim := { program := "ythjbfdfhblloiaa", sum := "6e701f8123fa3267c16d7582e260ae7a657090d3052b50e76403209be9c978fb", func := "bateria/baterialaw06.CrowdShortest", spec := "crowdShortest", unfollowed := true, recurses := true, apart := false }
def CrowdShortestSaid : Prop := crowdShortestRow.holds Try.pinned (OpenSpec.ofChange crowdShortestSpec)

/-- ITS FALSE NEIGHBOUR: 'it returns false'. Refute it at one input. -/
def crowdShortestWrong : ChangeSpec := { name := "crowdShortest", fn := fun _ => fun
  | [d] => { results := [.lit (.bool false)], args := [d] }
  | _ => none }
def CrowdShortestWrongFalsely : Prop := crowdShortestRow.holds Try.pinned (OpenSpec.ofChange crowdShortestWrong)

/-- 'baterialaw06.CrowdNarrows': WHATEVER THE INPUT: true; the input reads as it did. -/
def crowdNarrowsSpec : ChangeSpec := { name := "crowdNarrows", fn := fun _ => fun
  | [d] => { results := [.lit (.bool true)], args := [d] }
  | _ => none }
def crowdNarrowsRow : OpenClaim := { program := "ythjbfdfhblloiaa", sum := "6e701f8123fa3267c16d7582e260ae7a657090d3052b50e76403209be9c978fb", func := "bateria/baterialaw06.CrowdNarrows", spec := "crowdNarrows", unfollowed := true, recurses := true, apart := false }
def CrowdNarrowsSaid : Prop := crowdNarrowsRow.holds Try.pinned (OpenSpec.ofChange crowdNarrowsSpec)

/-- ITS FALSE NEIGHBOUR: 'it returns false'. Refute it at one input. -/
def crowdNarrowsWrong : ChangeSpec := { name := "crowdNarrows", fn := fun _ => fun
  | [d] => { results := [.lit (.bool false)], args := [d] }
  | _ => none }
def CrowdNarrowsWrongFalsely : Prop := crowdNarrowsRow.holds Try.pinned (OpenSpec.ofChange crowdNarrowsWrong)

/-- 'baterialaw06.CrowdPlaces': WHATEVER THE INPUT: true; the input reads as it did. -/
def crowdPlacesSpec : ChangeSpec := { name := "crowdPlaces", fn := fun _ => fun
  | [d1, d2, d3, d4, d5] => { results := [.lit (.bool true)], args := [d1, d2, d3, d4, d5] }
  | _ => none }
def crowdPlacesRow : OpenClaim := { program := "ythjbfdfhblloiaa", sum := "6e701f8123fa3267c16d7582e260ae7a657090d3052b50e76403209be9c978fb", func := "bateria/baterialaw06.CrowdPlaces", spec := "crowdPlaces", unfollowed := true, recurses := true, apart := false }
def CrowdPlacesSaid : Prop := crowdPlacesRow.holds Try.pinned (OpenSpec.ofChange crowdPlacesSpec)

/-- ITS FALSE NEIGHBOUR: 'it returns false'. Refute it at one input. -/
def crowdPlacesWrong : ChangeSpec := { name := "crowdPlaces", fn := fun _ => fun
  | [d1, d2, d3, d4, d5] => { results := [.lit (.bool false)], args := [d1, d2, d3, d4, d5] }
  | _ => none }
def CrowdPlacesWrongFalsely : Prop := crowdPlacesRow.holds Try.pinned (OpenSpec.ofChange crowdPlacesWrong)

/-- 'baterialaw06.CrowdTrue': WHATEVER THE INPUT: true; the input reads as it did. -/
def crowdTrueSpec : ChangeSpec := { name := "crowdTrue", fn := fun _ => fun
  | [d] => { results := [.lit (.bool true)], args := [d] }
  | _ => none }
def crowdTrueRow : OpenClaim := { program := "ythjbfdfhblloiaa", sum := "6e701f8123fa3267c16d7582e260ae7a657090d3052b50e76403209be9c978fb", func := "bateria/baterialaw06.CrowdTrue", spec := "crowdTrue", unfollowed := true, recurses := true, apart := false }
def CrowdTrueSaid : Prop := crowdTrueRow.holds Try.pinned (OpenSpec.ofChange crowdTrueSpec)

/-- ITS FALSE NEIGHBOUR: 'it returns false'. Refute it at one input. -/
def crowdTrueWrong : ChangeSpec := { name := "crowdTrue", fn := fun _ => fun
  | [d] => { results := [.lit (.bool false)], args := [d] }
  | _ => none }
def CrowdTrueWrongFalsely : Prop := crowdTrueRow.holds Try.pinned (OpenSpec.ofChange crowdTrueWrong)

/-- 'baterialaw06.CrowdCloses': WHATEVER THE INPUT: true; the input reads as it did. -/
def crowdClosesSpec : ChangeSpec := { name := "crowdCloses", fn := fun _ => fun
  | [d1, d2, d3] => { results := [.lit (.bool true)], args := [d1, d2, d3] }
  | _ => none }
def crowdClosesRow : OpenClaim := { program := "ythjbfdfhblloiaa", sum := "6e701f8123fa3267c16d7582e260ae7a657090d3052b50e76403209be9c978fb", func := "bateria/baterialaw06.CrowdCloses", spec := "crowdCloses", unfollowed := true, recurses := true, apart := false }
def CrowdClosesSaid : Prop := crowdClosesRow.holds Try.pinned (OpenSpec.ofChange crowdClosesSpec)

/-- ITS FALSE NEIGHBOUR: 'it returns false'. Refute it at one input. -/
def crowdClosesWrong : ChangeSpec := { name := "crowdCloses", fn := fun _ => fun
  | [d1, d2, d3] => { results := [.lit (.bool false)], args := [d1, d2, d3] }
  | _ => none }
def CrowdClosesWrongFalsely : Prop := crowdClosesRow.holds Try.pinned (OpenSpec.ofChange crowdClosesWrong)

/-- 'baterialaw06.CrowdProved': WHATEVER THE INPUT: true; the input reads as it did. -/
def crowdProvedSpec : ChangeSpec := { name := "crowdProved", fn := fun _ => fun
  | [d1, d2, d3] => { results := [.lit (.bool true)], args := [d1, d2, d3] }
  | _ => none }
def crowdProvedRow : OpenClaim := { program := "ythjbfdfhblloiaa", sum := "6e701f8123fa3267c16d7582e260ae7a657090d3052b50e76403209be9c978fb", func := "bateria/baterialaw06.CrowdProved", spec := "crowdProved", unfollowed := true, recurses := true, apart := false }
def CrowdProvedSaid : Prop := crowdProvedRow.holds Try.pinned (OpenSpec.ofChange crowdProvedSpec)

/-- ITS FALSE NEIGHBOUR: 'it returns false'. Refute it at one input. -/
def crowdProvedWrong : ChangeSpec := { name := "crowdProved", fn := fun _ => fun
  | [d1, d2, d3] => { results := [.lit (.bool false)], args := [d1, d2, d3] }
  | _ => none }
def CrowdProvedWrongFalsely : Prop := crowdProvedRow.holds Try.pinned (OpenSpec.ofChange crowdProvedWrong)

/- THE SECOND FORM. 'bulk': how many values and letters a reading holds, each counted each time it is reached (what is shared counts as often as it is met; a slice's spare places count too). A statement '..UptoSaid' is the law's where the arguments, and the package variables that the reading takes, are together of bulk at most 1048576: NARROWER than '..Said'. Prove '..Said' where nothing that the law and all that it calls make is longer than what came in: it says more and counts as full. Else prove '..UptoSaid'. A law counts once. -/
mutual
def uptoBulk {H : Type} : DataW H → Nat
  | .lit (.string bytes) => bytes.length + 1
  | .lit _ => 1
  | .nil => 1
  | .ptr d => uptoBulk d + 1
  | .slice elems spare => uptoBulkAll elems + uptoBulkAll spare + 1
  | .agg parts => uptoBulkAll parts + 1
  | .iface _ d => uptoBulk d + 1
  | .map entries => uptoBulkEntries entries + 1
  | .held _ => 1
def uptoBulkAll {H : Type} : List (DataW H) → Nat
  | [] => 0
  | d :: r => uptoBulk d + uptoBulkAll r
def uptoBulkEntries {H : Type} : List (Lit × DataW H) → Nat
  | [] => 0
  | x :: r => uptoBulkEntry x + uptoBulkEntries r
def uptoBulkEntry {H : Type} : Lit × DataW H → Nat
  | (.string bytes, d) => bytes.length + uptoBulk d + 1
  | (_, d) => uptoBulk d + 1
 end
def uptoSmall : (H : Type) → List (DataW H) → Bool := fun _ ds => decide (uptoBulkAll ds ≤ 1048576)
def OpenSpec.upto (s : _root_.Go.ChangeSpec) : _root_.Go.OpenSpec := { _root_.Go.OpenSpec.ofChange s with cond := some uptoSmall }

/-- 'baterialaw06.CrowdChecks', WHERE WHAT IT READS IS OF BULK AT MOST 1048576: true; the input reads as it did. -/
def crowdChecksUptoRow : OpenClaim := { program := "ythjbfdfhblloiaa", sum := "6e701f8123fa3267c16d7582e260ae7a657090d3052b50e76403209be9c978fb", func := "bateria/baterialaw06.CrowdChecks", spec := "crowdChecks", unfollowed := true, recurses := true, apart := false, narrowed := true }
def CrowdChecksUptoSaid : Prop := crowdChecksUptoRow.holds Try.pinned (OpenSpec.upto crowdChecksSpec)

/-- 'baterialaw06.CrowdWays', WHERE WHAT IT READS IS OF BULK AT MOST 1048576: true; the input reads as it did. -/
def crowdWaysUptoRow : OpenClaim := { program := "ythjbfdfhblloiaa", sum := "6e701f8123fa3267c16d7582e260ae7a657090d3052b50e76403209be9c978fb", func := "bateria/baterialaw06.CrowdWays", spec := "crowdWays", unfollowed := true, recurses := true, apart := false, narrowed := true }
def CrowdWaysUptoSaid : Prop := crowdWaysUptoRow.holds Try.pinned (OpenSpec.upto crowdWaysSpec)

/-- 'baterialaw06.CrowdEnds', WHERE WHAT IT READS IS OF BULK AT MOST 1048576: true; the input reads as it did. -/
def crowdEndsUptoRow : OpenClaim := { program := "ythjbfdfhblloiaa", sum := "6e701f8123fa3267c16d7582e260ae7a657090d3052b50e76403209be9c978fb", func := "bateria/baterialaw06.CrowdEnds", spec := "crowdEnds", unfollowed := true, recurses := true, apart := false, narrowed := true }
def CrowdEndsUptoSaid : Prop := crowdEndsUptoRow.holds Try.pinned (OpenSpec.upto crowdEndsSpec)

/-- 'baterialaw06.CrowdFewest', WHERE WHAT IT READS IS OF BULK AT MOST 1048576: true; the input reads as it did. -/
def crowdFewestUptoRow : OpenClaim := { program := "ythjbfdfhblloiaa", sum := "6e701f8123fa3267c16d7582e260ae7a657090d3052b50e76403209be9c978fb", func := "bateria/baterialaw06.CrowdFewest", spec := "crowdFewest", unfollowed := true, recurses := true, apart := false, narrowed := true }
def CrowdFewestUptoSaid : Prop := crowdFewestUptoRow.holds Try.pinned (OpenSpec.upto crowdFewestSpec)

/-- 'baterialaw06.CrowdRoom', WHERE WHAT IT READS IS OF BULK AT MOST 1048576: true; the input reads as it did. -/
def crowdRoomUptoRow : OpenClaim := { program := "ythjbfdfhblloiaa", sum := "6e701f8123fa3267c16d7582e260ae7a657090d3052b50e76403209be9c978fb", func := "bateria/baterialaw06.CrowdRoom", spec := "crowdRoom", unfollowed := true, recurses := true, apart := false, narrowed := true }
def CrowdRoomUptoSaid : Prop := crowdRoomUptoRow.holds Try.pinned (OpenSpec.upto crowdRoomSpec)

/-- 'baterialaw06.CrowdShortest', WHERE WHAT IT READS IS OF BULK AT MOST 1048576: true; the input reads as it did. -/
def crowdShortestUptoRow : OpenClaim := { program := "ythjbfdfhblloiaa", sum := "6e701f8123fa3267c16d7582e260ae7a657090d3052b50e76403209be9c978fb", func := "bateria/baterialaw06.CrowdShortest", spec := "crowdShortest", unfollowed := true, recurses := true, apart := false, narrowed := true }
def CrowdShortestUptoSaid : Prop := crowdShortestUptoRow.holds Try.pinned (OpenSpec.upto crowdShortestSpec)

/-- 'baterialaw06.CrowdNarrows', WHERE WHAT IT READS IS OF BULK AT MOST 1048576: true; the input reads as it did. -/
def crowdNarrowsUptoRow : OpenClaim := { program := "ythjbfdfhblloiaa", sum := "6e701f8123fa3267c16d7582e260ae7a657090d3052b50e76403209be9c978fb", func := "bateria/baterialaw06.CrowdNarrows", spec := "crowdNarrows", unfollowed := true, recurses := true, apart := false, narrowed := true }
def CrowdNarrowsUptoSaid : Prop := crowdNarrowsUptoRow.holds Try.pinned (OpenSpec.upto crowdNarrowsSpec)

/-- 'baterialaw06.CrowdPlaces', WHERE WHAT IT READS IS OF BULK AT MOST 1048576: true; the input reads as it did. -/
def crowdPlacesUptoRow : OpenClaim := { program := "ythjbfdfhblloiaa", sum := "6e701f8123fa3267c16d7582e260ae7a657090d3052b50e76403209be9c978fb", func := "bateria/baterialaw06.CrowdPlaces", spec := "crowdPlaces", unfollowed := true, recurses := true, apart := false, narrowed := true }
def CrowdPlacesUptoSaid : Prop := crowdPlacesUptoRow.holds Try.pinned (OpenSpec.upto crowdPlacesSpec)

/-- 'baterialaw06.CrowdTrue', WHERE WHAT IT READS IS OF BULK AT MOST 1048576: true; the input reads as it did. -/
def crowdTrueUptoRow : OpenClaim := { program := "ythjbfdfhblloiaa", sum := "6e701f8123fa3267c16d7582e260ae7a657090d3052b50e76403209be9c978fb", func := "bateria/baterialaw06.CrowdTrue", spec := "crowdTrue", unfollowed := true, recurses := true, apart := false, narrowed := true }
def CrowdTrueUptoSaid : Prop := crowdTrueUptoRow.holds Try.pinned (OpenSpec.upto crowdTrueSpec)

/-- 'baterialaw06.CrowdCloses', WHERE WHAT IT READS IS OF BULK AT MOST 1048576: true; the input reads as it did. -/
def crowdClosesUptoRow : OpenClaim := { program := "ythjbfdfhblloiaa", sum := "6e701f8123fa3267c16d7582e260ae7a657090d3052b50e76403209be9c978fb", func := "bateria/baterialaw06.CrowdCloses", spec := "crowdCloses", unfollowed := true, recurses := true, apart := false, narrowed := true }
def CrowdClosesUptoSaid : Prop := crowdClosesUptoRow.holds Try.pinned (OpenSpec.upto crowdClosesSpec)

/-- 'baterialaw06.CrowdProved', WHERE WHAT IT READS IS OF BULK AT MOST 1048576: true; the input reads as it did. -/
def crowdProvedUptoRow : OpenClaim := { program := "ythjbfdfhblloiaa", sum := "6e701f8123fa3267c16d7582e260ae7a657090d3052b50e76403209be9c978fb", func := "bateria/baterialaw06.CrowdProved", spec := "crowdProved", unfollowed := true, recurses := true, apart := false, narrowed := true }
def CrowdProvedUptoSaid : Prop := crowdProvedUptoRow.holds Try.pinned (OpenSpec.upto crowdProvedSpec)

end Rows
end Go.Proofs.Ythjbfdfhblloiaa
