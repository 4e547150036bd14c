/-
  No cell of these rows narrows 'for every input' (looked for: loops, veiled, ifaces, maps, wideKeys, modest, calm, conditions, laid).
  DERIVED. THE GIVEN ROWS OF THIS SEAT. 11 by the template 'for every input the law returns true; each argument reads behind the call as it read before'; 0 by the template 'total and deterministic' (their statements: YtbbkeakbomngoaaTotals.lean).
  GIVEN WITH THE SEED: the statements are not yours to turn. If you find one false, say at which input.
  Laid BY PROGRAM, IN A SANDBOX (cutbox-rows.mjs): the forced cells as the released guide's own fill.sh prints them over the translation 50842bd3e3e9d02d… (all of the seat's roots in one cut). By AI agents, Wed Nov 11 2026. No macro, syntax, notation, axiom, sorry.
-/
import Derived.Test.YtbbkeakbomngoaaChecked
import GoSem.Claim
import GoSem.ClaimJoined
import GoSem.ClaimMapViews
import Derived.JoinedTies
import Derived.KernelRfl
namespace Go.Proofs.Ytbbkeakbomngoaa
/- THE CELL 'sum', in the pinned program and in every row, IS THE sha256 OF THE DUMP (.gsa) THAT YtbbkeakbomngoaaProg.lean LOADS. Nothing in Lean hashes anything: it is a label: what it is worth is what the hold of that sum in a sandbox is worth. -/
noncomputable def Try.pinned : Pinned := { name := "ytbbkeakbomngoaa", sum := "50842bd3e3e9d02d8a75f87cce2aade2b12fcc23effb0ede5082674f83e0d160", checked := Try.checked }
namespace Rows
def none {H : Type} : Left H := { results := [], args := [] }

/-- 'baterialaw09.CoinTraces': WHATEVER THE INPUT: true; the input reads as it did. -/
def coinTracesSpec : ChangeSpec := { name := "coinTraces", fn := fun _ => fun
  | [d1, d2, d3, d4] => { results := [.lit (.bool true)], args := [d1, d2, d3, d4] }
  | _ => none }
def coinTracesRow : OpenClaim := { program := "ytbbkeakbomngoaa", sum := "50842bd3e3e9d02d8a75f87cce2aade2b12fcc23effb0ede5082674f83e0d160", func := "bateria/baterialaw09.CoinTraces", spec := "coinTraces", unfollowed := true, recurses := true, apart := false }
def CoinTracesSaid : Prop := coinTracesRow.holds Try.pinned (OpenSpec.ofChange coinTracesSpec)

/-- ITS FALSE NEIGHBOUR: 'it returns false'. Refute it at one input. -/
def coinTracesWrong : ChangeSpec := { name := "coinTraces", fn := fun _ => fun
  | [d1, d2, d3, d4] => { results := [.lit (.bool false)], args := [d1, d2, d3, d4] }
  | _ => none }
def CoinTracesWrongFalsely : Prop := coinTracesRow.holds Try.pinned (OpenSpec.ofChange coinTracesWrong)

/-- 'baterialaw09.CoinDraws': WHATEVER THE INPUT: true; the input reads as it did. -/
def coinDrawsSpec : ChangeSpec := { name := "coinDraws", fn := fun _ => fun
  | [d1, d2, d3] => { results := [.lit (.bool true)], args := [d1, d2, d3] }
  | _ => none }
def coinDrawsRow : OpenClaim := { program := "ytbbkeakbomngoaa", sum := "50842bd3e3e9d02d8a75f87cce2aade2b12fcc23effb0ede5082674f83e0d160", func := "bateria/baterialaw09.CoinDraws", spec := "coinDraws", unfollowed := true, recurses := true, apart := false }
def CoinDrawsSaid : Prop := coinDrawsRow.holds Try.pinned (OpenSpec.ofChange coinDrawsSpec)

/-- ITS FALSE NEIGHBOUR: 'it returns false'. Refute it at one input. -/
def coinDrawsWrong : ChangeSpec := { name := "coinDraws", fn := fun _ => fun
  | [d1, d2, d3] => { results := [.lit (.bool false)], args := [d1, d2, d3] }
  | _ => none }
def CoinDrawsWrongFalsely : Prop := coinDrawsRow.holds Try.pinned (OpenSpec.ofChange coinDrawsWrong)

/-- 'baterialaw09.CoinPaid': WHATEVER THE INPUT: true; the input reads as it did. -/
def coinPaidSpec : ChangeSpec := { name := "coinPaid", fn := fun _ => fun
  | [d] => { results := [.lit (.bool true)], args := [d] }
  | _ => none }
def coinPaidRow : OpenClaim := { program := "ytbbkeakbomngoaa", sum := "50842bd3e3e9d02d8a75f87cce2aade2b12fcc23effb0ede5082674f83e0d160", func := "bateria/baterialaw09.CoinPaid", spec := "coinPaid", unfollowed := true, recurses := true, apart := false }
def CoinPaidSaid : Prop := coinPaidRow.holds Try.pinned (OpenSpec.ofChange coinPaidSpec)

/-- ITS FALSE NEIGHBOUR: 'it returns false'. Refute it at one input. -/
def coinPaidWrong : ChangeSpec := { name := "coinPaid", fn := fun _ => fun
  | [d] => { results := [.lit (.bool false)], args := [d] }
  | _ => none }
def CoinPaidWrongFalsely : Prop := coinPaidRow.holds Try.pinned (OpenSpec.ofChange coinPaidWrong)

/-- 'baterialaw09.CoinShort': WHATEVER THE INPUT: true; the input reads as it did. -/
def coinShortSpec : ChangeSpec := { name := "coinShort", fn := fun _ => fun
  | [d] => { results := [.lit (.bool true)], args := [d] }
  | _ => none }
def coinShortRow : OpenClaim := { program := "ytbbkeakbomngoaa", sum := "50842bd3e3e9d02d8a75f87cce2aade2b12fcc23effb0ede5082674f83e0d160", func := "bateria/baterialaw09.CoinShort", spec := "coinShort", unfollowed := true, recurses := true, apart := false }
def CoinShortSaid : Prop := coinShortRow.holds Try.pinned (OpenSpec.ofChange coinShortSpec)

/-- ITS FALSE NEIGHBOUR: 'it returns false'. Refute it at one input. -/
def coinShortWrong : ChangeSpec := { name := "coinShort", fn := fun _ => fun
  | [d] => { results := [.lit (.bool false)], args := [d] }
  | _ => none }
def CoinShortWrongFalsely : Prop := coinShortRow.holds Try.pinned (OpenSpec.ofChange coinShortWrong)

/-- 'baterialaw09.CoinSpent': WHATEVER THE INPUT: true; the input reads as it did. -/
def coinSpentSpec : ChangeSpec := { name := "coinSpent", fn := fun _ => fun
  | [d] => { results := [.lit (.bool true)], args := [d] }
  | _ => none }
def coinSpentRow : OpenClaim := { program := "ytbbkeakbomngoaa", sum := "50842bd3e3e9d02d8a75f87cce2aade2b12fcc23effb0ede5082674f83e0d160", func := "bateria/baterialaw09.CoinSpent", spec := "coinSpent", unfollowed := true, recurses := true, apart := false }
def CoinSpentSaid : Prop := coinSpentRow.holds Try.pinned (OpenSpec.ofChange coinSpentSpec)

/-- ITS FALSE NEIGHBOUR: 'it returns false'. Refute it at one input. -/
def coinSpentWrong : ChangeSpec := { name := "coinSpent", fn := fun _ => fun
  | [d] => { results := [.lit (.bool false)], args := [d] }
  | _ => none }
def CoinSpentWrongFalsely : Prop := coinSpentRow.holds Try.pinned (OpenSpec.ofChange coinSpentWrong)

/-- 'baterialaw09.CoinMore': WHATEVER THE INPUT: true; the input reads as it did. -/
def coinMoreSpec : ChangeSpec := { name := "coinMore", fn := fun _ => fun
  | [d] => { results := [.lit (.bool true)], args := [d] }
  | _ => none }
def coinMoreRow : OpenClaim := { program := "ytbbkeakbomngoaa", sum := "50842bd3e3e9d02d8a75f87cce2aade2b12fcc23effb0ede5082674f83e0d160", func := "bateria/baterialaw09.CoinMore", spec := "coinMore", unfollowed := true, recurses := true, apart := false }
def CoinMoreSaid : Prop := coinMoreRow.holds Try.pinned (OpenSpec.ofChange coinMoreSpec)

/-- ITS FALSE NEIGHBOUR: 'it returns false'. Refute it at one input. -/
def coinMoreWrong : ChangeSpec := { name := "coinMore", fn := fun _ => fun
  | [d] => { results := [.lit (.bool false)], args := [d] }
  | _ => none }
def CoinMoreWrongFalsely : Prop := coinMoreRow.holds Try.pinned (OpenSpec.ofChange coinMoreWrong)

/-- 'baterialaw09.CoinFair': WHATEVER THE INPUT: true; the input reads as it did. -/
def coinFairSpec : ChangeSpec := { name := "coinFair", fn := fun _ => fun
  | [d] => { results := [.lit (.bool true)], args := [d] }
  | _ => none }
def coinFairRow : OpenClaim := { program := "ytbbkeakbomngoaa", sum := "50842bd3e3e9d02d8a75f87cce2aade2b12fcc23effb0ede5082674f83e0d160", func := "bateria/baterialaw09.CoinFair", spec := "coinFair", unfollowed := true, recurses := true, apart := false }
def CoinFairSaid : Prop := coinFairRow.holds Try.pinned (OpenSpec.ofChange coinFairSpec)

/-- ITS FALSE NEIGHBOUR: 'it returns false'. Refute it at one input. -/
def coinFairWrong : ChangeSpec := { name := "coinFair", fn := fun _ => fun
  | [d] => { results := [.lit (.bool false)], args := [d] }
  | _ => none }
def CoinFairWrongFalsely : Prop := coinFairRow.holds Try.pinned (OpenSpec.ofChange coinFairWrong)

/-- 'baterialaw09.CoinBalance': WHATEVER THE INPUT: true; the input reads as it did. -/
def coinBalanceSpec : ChangeSpec := { name := "coinBalance", fn := fun _ => fun
  | [d] => { results := [.lit (.bool true)], args := [d] }
  | _ => none }
def coinBalanceRow : OpenClaim := { program := "ytbbkeakbomngoaa", sum := "50842bd3e3e9d02d8a75f87cce2aade2b12fcc23effb0ede5082674f83e0d160", func := "bateria/baterialaw09.CoinBalance", spec := "coinBalance", unfollowed := true, recurses := true, apart := false }
def CoinBalanceSaid : Prop := coinBalanceRow.holds Try.pinned (OpenSpec.ofChange coinBalanceSpec)

/-- ITS FALSE NEIGHBOUR: 'it returns false'. Refute it at one input. -/
def coinBalanceWrong : ChangeSpec := { name := "coinBalance", fn := fun _ => fun
  | [d] => { results := [.lit (.bool false)], args := [d] }
  | _ => none }
def CoinBalanceWrongFalsely : Prop := coinBalanceRow.holds Try.pinned (OpenSpec.ofChange coinBalanceWrong)

/-- 'baterialaw09.CoinTraced': WHATEVER THE INPUT: true; the input reads as it did. -/
def coinTracedSpec : ChangeSpec := { name := "coinTraced", fn := fun _ => fun
  | [d] => { results := [.lit (.bool true)], args := [d] }
  | _ => none }
def coinTracedRow : OpenClaim := { program := "ytbbkeakbomngoaa", sum := "50842bd3e3e9d02d8a75f87cce2aade2b12fcc23effb0ede5082674f83e0d160", func := "bateria/baterialaw09.CoinTraced", spec := "coinTraced", unfollowed := true, recurses := true, apart := false }
def CoinTracedSaid : Prop := coinTracedRow.holds Try.pinned (OpenSpec.ofChange coinTracedSpec)

/-- ITS FALSE NEIGHBOUR: 'it returns false'. Refute it at one input. -/
def coinTracedWrong : ChangeSpec := { name := "coinTraced", fn := fun _ => fun
  | [d] => { results := [.lit (.bool false)], args := [d] }
  | _ => none }
def CoinTracedWrongFalsely : Prop := coinTracedRow.holds Try.pinned (OpenSpec.ofChange coinTracedWrong)

/-- 'baterialaw09.CoinAudited': WHATEVER THE INPUT: true; the input reads as it did. -/
def coinAuditedSpec : ChangeSpec := { name := "coinAudited", fn := fun _ => fun
  | [d] => { results := [.lit (.bool true)], args := [d] }
  | _ => none }
def coinAuditedRow : OpenClaim := { program := "ytbbkeakbomngoaa", sum := "50842bd3e3e9d02d8a75f87cce2aade2b12fcc23effb0ede5082674f83e0d160", func := "bateria/baterialaw09.CoinAudited", spec := "coinAudited", unfollowed := true, recurses := true, apart := false }
def CoinAuditedSaid : Prop := coinAuditedRow.holds Try.pinned (OpenSpec.ofChange coinAuditedSpec)

/-- ITS FALSE NEIGHBOUR: 'it returns false'. Refute it at one input. -/
def coinAuditedWrong : ChangeSpec := { name := "coinAudited", fn := fun _ => fun
  | [d] => { results := [.lit (.bool false)], args := [d] }
  | _ => none }
def CoinAuditedWrongFalsely : Prop := coinAuditedRow.holds Try.pinned (OpenSpec.ofChange coinAuditedWrong)

/-- 'baterialaw09.CoinAudits': WHATEVER THE INPUT: true; the input reads as it did. -/
def coinAuditsSpec : ChangeSpec := { name := "coinAudits", fn := fun _ => fun
  | [d1, d2, d3, d4, d5, d6] => { results := [.lit (.bool true)], args := [d1, d2, d3, d4, d5, d6] }
  | _ => none }
def coinAuditsRow : OpenClaim := { program := "ytbbkeakbomngoaa", sum := "50842bd3e3e9d02d8a75f87cce2aade2b12fcc23effb0ede5082674f83e0d160", func := "bateria/baterialaw09.CoinAudits", spec := "coinAudits", unfollowed := true, recurses := true, apart := false }
def CoinAuditsSaid : Prop := coinAuditsRow.holds Try.pinned (OpenSpec.ofChange coinAuditsSpec)

/-- ITS FALSE NEIGHBOUR: 'it returns false'. Refute it at one input. -/
def coinAuditsWrong : ChangeSpec := { name := "coinAudits", fn := fun _ => fun
  | [d1, d2, d3, d4, d5, d6] => { results := [.lit (.bool false)], args := [d1, d2, d3, d4, d5, d6] }
  | _ => none }
def CoinAuditsWrongFalsely : Prop := coinAuditsRow.holds Try.pinned (OpenSpec.ofChange coinAuditsWrong)

/- THE SECOND FORM. 'bulk': how many values and letters a reading holds, each counted each time it is reached (what is shared counts as often as it is met; a slice's spare places count too). A statement '..UptoSaid' is the law's where the arguments, and the package variables that the reading takes, are together of bulk at most 1048576: NARROWER than '..Said'. Prove '..Said' where nothing that the law and all that it calls make is longer than what came in: it says more and counts as full. Else prove '..UptoSaid'. A law counts once. -/
mutual
def uptoBulk {H : Type} : DataW H → Nat
  | .lit (.string bytes) => bytes.length + 1
  | .lit _ => 1
  | .nil => 1
  | .ptr d => uptoBulk d + 1
  | .slice elems spare => uptoBulkAll elems + uptoBulkAll spare + 1
  | .agg parts => uptoBulkAll parts + 1
  | .iface _ d => uptoBulk d + 1
  | .map entries => uptoBulkEntries entries + 1
  | .held _ => 1
def uptoBulkAll {H : Type} : List (DataW H) → Nat
  | [] => 0
  | d :: r => uptoBulk d + uptoBulkAll r
def uptoBulkEntries {H : Type} : List (Lit × DataW H) → Nat
  | [] => 0
  | x :: r => uptoBulkEntry x + uptoBulkEntries r
def uptoBulkEntry {H : Type} : Lit × DataW H → Nat
  | (.string bytes, d) => bytes.length + uptoBulk d + 1
  | (_, d) => uptoBulk d + 1
 end
def uptoSmall : (H : Type) → List (DataW H) → Bool := fun _ ds => decide (uptoBulkAll ds ≤ 1048576)
def OpenSpec.upto (s : _root_.Go.ChangeSpec) : _root_.Go.OpenSpec := { _root_.Go.OpenSpec.ofChange s with cond := some uptoSmall }

/-- 'baterialaw09.CoinTraces', WHERE WHAT IT READS IS OF BULK AT MOST 1048576: true; the input reads as it did. -/
def coinTracesUptoRow : OpenClaim := { program := "ytbbkeakbomngoaa", sum := "50842bd3e3e9d02d8a75f87cce2aade2b12fcc23effb0ede5082674f83e0d160", func := "bateria/baterialaw09.CoinTraces", spec := "coinTraces", unfollowed := true, recurses := true, apart := false, narrowed := true }
def CoinTracesUptoSaid : Prop := coinTracesUptoRow.holds Try.pinned (OpenSpec.upto coinTracesSpec)

/-- 'baterialaw09.CoinDraws', WHERE WHAT IT READS IS OF BULK AT MOST 1048576: true; the input reads as it did. -/
def coinDrawsUptoRow : OpenClaim := { program := "ytbbkeakbomngoaa", sum := "50842bd3e3e9d02d8a75f87cce2aade2b12fcc23effb0ede5082674f83e0d160", func := "bateria/baterialaw09.CoinDraws", spec := "coinDraws", unfollowed := true, recurses := true, apart := false, narrowed := true }
def CoinDrawsUptoSaid : Prop := coinDrawsUptoRow.holds Try.pinned (OpenSpec.upto coinDrawsSpec)

/-- 'baterialaw09.CoinPaid', WHERE WHAT IT READS IS OF BULK AT MOST 1048576: true; the input reads as it did. -/
def coinPaidUptoRow : OpenClaim := { program := "ytbbkeakbomngoaa", sum := "50842bd3e3e9d02d8a75f87cce2aade2b12fcc23effb0ede5082674f83e0d160", func := "bateria/baterialaw09.CoinPaid", spec := "coinPaid", unfollowed := true, recurses := true, apart := false, narrowed := true }
def CoinPaidUptoSaid : Prop := coinPaidUptoRow.holds Try.pinned (OpenSpec.upto coinPaidSpec)

/-- 'baterialaw09.CoinShort', WHERE WHAT IT READS IS OF BULK AT MOST 1048576: true; the input reads as it did. -/
def coinShortUptoRow : OpenClaim := { program := "ytbbkeakbomngoaa", sum := "50842bd3e3e9d02d8a75f87cce2aade2b12fcc23effb0ede5082674f83e0d160", func := "bateria/baterialaw09.CoinShort", spec := "coinShort", unfollowed := true, recurses := true, apart := false, narrowed := true }
def CoinShortUptoSaid : Prop := coinShortUptoRow.holds Try.pinned (OpenSpec.upto coinShortSpec)

/-- 'baterialaw09.CoinSpent', WHERE WHAT IT READS IS OF BULK AT MOST 1048576: true; the input reads as it did. -/
def coinSpentUptoRow : OpenClaim := { program := "ytbbkeakbomngoaa", sum := "50842bd3e3e9d02d8a75f87cce2aade2b12fcc23effb0ede5082674f83e0d160", func := "bateria/baterialaw09.CoinSpent", spec := "coinSpent", unfollowed := true, recurses := true, apart := false, narrowed := true }
def CoinSpentUptoSaid : Prop := coinSpentUptoRow.holds Try.pinned (OpenSpec.upto coinSpentSpec)

/-- 'baterialaw09.CoinMore', WHERE WHAT IT READS IS OF BULK AT MOST 1048576: true; the input reads as it did. -/
def coinMoreUptoRow : OpenClaim := { program := "ytbbkeakbomngoaa", sum := "50842bd3e3e9d02d8a75f87cce2aade2b12fcc23effb0ede5082674f83e0d160", func := "bateria/baterialaw09.CoinMore", spec := "coinMore", unfollowed := true, recurses := true, apart := false, narrowed := true }
def CoinMoreUptoSaid : Prop := coinMoreUptoRow.holds Try.pinned (OpenSpec.upto coinMoreSpec)

/-- 'baterialaw09.CoinFair', WHERE WHAT IT READS IS OF BULK AT MOST 1048576: true; the input reads as it did. -/
def coinFairUptoRow : OpenClaim := { program := "ytbbkeakbomngoaa", sum := "50842bd3e3e9d02d8a75f87cce2aade2b12fcc23effb0ede5082674f83e0d160", func := "bateria/baterialaw09.CoinFair", spec := "coinFair", unfollowed := true, recurses := true, apart := false, narrowed := true }
def CoinFairUptoSaid : Prop := coinFairUptoRow.holds Try.pinned (OpenSpec.upto coinFairSpec)

/-- 'baterialaw09.CoinBalance', WHERE WHAT IT READS IS OF BULK AT MOST 1048576: true; the input reads as it did. -/
def coinBalanceUptoRow : OpenClaim := { program := "ytbbkeakbomngoaa", sum := "50842bd3e3e9d02d8a75f87cce2aade2b12fcc23effb0ede5082674f83e0d160", func := "bateria/baterialaw09.CoinBalance", spec := "coinBalance", unfollowed := true, recurses := true, apart := false, narrowed := true }
def CoinBalanceUptoSaid : Prop := coinBalanceUptoRow.holds Try.pinned (OpenSpec.upto coinBalanceSpec)

/-- 'baterialaw09.CoinTraced', WHERE WHAT IT READS IS OF BULK AT MOST 1048576: true; the input reads as it did. -/
def coinTracedUptoRow : OpenClaim := { program := "ytbbkeakbomngoaa", sum := "50842bd3e3e9d02d8a75f87cce2aade2b12fcc23effb0ede5082674f83e0d160", func := "bateria/baterialaw09.CoinTraced", spec := "coinTraced", unfollowed := true, recurses := true, apart := false, narrowed := true }
def CoinTracedUptoSaid : Prop := coinTracedUptoRow.holds Try.pinned (OpenSpec.upto coinTracedSpec)

/-- 'baterialaw09.CoinAudited', WHERE WHAT IT READS IS OF BULK AT MOST 1048576: true; the input reads as it did. -/
def coinAuditedUptoRow : OpenClaim := { program := "ytbbkeakbomngoaa", sum := "50842bd3e3e9d02d8a75f87cce2aade2b12fcc23effb0ede5082674f83e0d160", func := "bateria/baterialaw09.CoinAudited", spec := "coinAudited", unfollowed := true, recurses := true, apart := false, narrowed := true }
def CoinAuditedUptoSaid : Prop := coinAuditedUptoRow.holds Try.pinned (OpenSpec.upto coinAuditedSpec)

/-- 'baterialaw09.CoinAudits', WHERE WHAT IT READS IS OF BULK AT MOST 1048576: true; the input reads as it did. -/
def coinAuditsUptoRow : OpenClaim := { program := "ytbbkeakbomngoaa", sum := "50842bd3e3e9d02d8a75f87cce2aade2b12fcc23effb0ede5082674f83e0d160", func := "bateria/baterialaw09.CoinAudits", spec := "coinAudits", unfollowed := true, recurses := true, apart := false, narrowed := true }
def CoinAuditsUptoSaid : Prop := coinAuditsUptoRow.holds Try.pinned (OpenSpec.upto coinAuditsSpec)

end Rows
end Go.Proofs.Ytbbkeakbomngoaa
