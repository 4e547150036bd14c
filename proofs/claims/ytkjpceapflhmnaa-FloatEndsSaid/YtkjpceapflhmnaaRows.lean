/-
  No cell of these rows narrows 'for every input' (looked for: loops, veiled, ifaces, maps, wideKeys, modest, calm, conditions, laid).
  DERIVED. THE GIVEN ROWS OF THIS SEAT. 11 by the template 'for every input the law returns true; each argument reads behind the call as it read before'; 0 by the template 'total and deterministic' (their statements: YtkjpceapflhmnaaTotals.lean).
  GIVEN WITH THE SEED: the statements are not yours to turn. If you find one false, say at which input.
  Laid BY PROGRAM, IN A SANDBOX (cutbox-rows.mjs): the forced cells as the released guide's own fill.sh prints them over the translation 8531c63cb5b9ba6d… (all of the seat's roots in one cut). By AI agents, Wed Nov 11 2026. No macro, syntax, notation, axiom, sorry.
-/
import Derived.Test.YtkjpceapflhmnaaChecked
import GoSem.Claim
import GoSem.ClaimJoined
import GoSem.ClaimMapViews
import Derived.JoinedTies
import Derived.KernelRfl
namespace Go.Proofs.Ytkjpceapflhmnaa
/- THE CELL 'sum', in the pinned program and in every row, IS THE sha256 OF THE DUMP (.gsa) THAT YtkjpceapflhmnaaProg.lean LOADS. Nothing in Lean hashes anything: it is a label: what it is worth is what the hold of that sum in a sandbox is worth. -/
noncomputable def Try.pinned : Pinned := { name := "ytkjpceapflhmnaa", sum := "8531c63cb5b9ba6d1d4fba27c092e67ace71ed12082e33b157eee9fa63df17c2", checked := Try.checked }
namespace Rows
def none {H : Type} : Left H := { results := [], args := [] }

/-- 'baterialaw02.FloatBends': WHATEVER THE INPUT: true; the input reads as it did. -/
def floatBendsSpec : ChangeSpec := { name := "floatBends", fn := fun _ => fun
  | [d] => { results := [.lit (.bool true)], args := [d] }
  | _ => none }
def floatBendsRow : OpenClaim := { program := "ytkjpceapflhmnaa", sum := "8531c63cb5b9ba6d1d4fba27c092e67ace71ed12082e33b157eee9fa63df17c2", func := "bateria/baterialaw02.FloatBends", spec := "floatBends", unfollowed := true, recurses := true, apart := false }
def FloatBendsSaid : Prop := floatBendsRow.holds Try.pinned (OpenSpec.ofChange floatBendsSpec)

/-- ITS FALSE NEIGHBOUR: 'it returns false'. Refute it at one input. -/
def floatBendsWrong : ChangeSpec := { name := "floatBends", fn := fun _ => fun
  | [d] => { results := [.lit (.bool false)], args := [d] }
  | _ => none }
def FloatBendsWrongFalsely : Prop := floatBendsRow.holds Try.pinned (OpenSpec.ofChange floatBendsWrong)

/-- 'baterialaw02.FloatPasses': WHATEVER THE INPUT: true; the input reads as it did. -/
def floatPassesSpec : ChangeSpec := { name := "floatPasses", fn := fun _ => fun
  | [d1, d2, d3, d4, d5] => { results := [.lit (.bool true)], args := [d1, d2, d3, d4, d5] }
  | _ => none }
def floatPassesRow : OpenClaim := { program := "ytkjpceapflhmnaa", sum := "8531c63cb5b9ba6d1d4fba27c092e67ace71ed12082e33b157eee9fa63df17c2", func := "bateria/baterialaw02.FloatPasses", spec := "floatPasses", unfollowed := true, recurses := true, apart := false }
def FloatPassesSaid : Prop := floatPassesRow.holds Try.pinned (OpenSpec.ofChange floatPassesSpec)

/-- ITS FALSE NEIGHBOUR: 'it returns false'. Refute it at one input. -/
def floatPassesWrong : ChangeSpec := { name := "floatPasses", fn := fun _ => fun
  | [d1, d2, d3, d4, d5] => { results := [.lit (.bool false)], args := [d1, d2, d3, d4, d5] }
  | _ => none }
def FloatPassesWrongFalsely : Prop := floatPassesRow.holds Try.pinned (OpenSpec.ofChange floatPassesWrong)

/-- 'baterialaw02.FloatRoutes': WHATEVER THE INPUT: true; the input reads as it did. -/
def floatRoutesSpec : ChangeSpec := { name := "floatRoutes", fn := fun _ => fun
  | [d] => { results := [.lit (.bool true)], args := [d] }
  | _ => none }
def floatRoutesRow : OpenClaim := { program := "ytkjpceapflhmnaa", sum := "8531c63cb5b9ba6d1d4fba27c092e67ace71ed12082e33b157eee9fa63df17c2", func := "bateria/baterialaw02.FloatRoutes", spec := "floatRoutes", unfollowed := true, recurses := true, apart := false }
def FloatRoutesSaid : Prop := floatRoutesRow.holds Try.pinned (OpenSpec.ofChange floatRoutesSpec)

/-- ITS FALSE NEIGHBOUR: 'it returns false'. Refute it at one input. -/
def floatRoutesWrong : ChangeSpec := { name := "floatRoutes", fn := fun _ => fun
  | [d] => { results := [.lit (.bool false)], args := [d] }
  | _ => none }
def FloatRoutesWrongFalsely : Prop := floatRoutesRow.holds Try.pinned (OpenSpec.ofChange floatRoutesWrong)

/-- 'baterialaw02.FloatNarrows': WHATEVER THE INPUT: true; the input reads as it did. -/
def floatNarrowsSpec : ChangeSpec := { name := "floatNarrows", fn := fun _ => fun
  | [d] => { results := [.lit (.bool true)], args := [d] }
  | _ => none }
def floatNarrowsRow : OpenClaim := { program := "ytkjpceapflhmnaa", sum := "8531c63cb5b9ba6d1d4fba27c092e67ace71ed12082e33b157eee9fa63df17c2", func := "bateria/baterialaw02.FloatNarrows", spec := "floatNarrows", unfollowed := true, recurses := true, apart := false }
def FloatNarrowsSaid : Prop := floatNarrowsRow.holds Try.pinned (OpenSpec.ofChange floatNarrowsSpec)

/-- ITS FALSE NEIGHBOUR: 'it returns false'. Refute it at one input. -/
def floatNarrowsWrong : ChangeSpec := { name := "floatNarrows", fn := fun _ => fun
  | [d] => { results := [.lit (.bool false)], args := [d] }
  | _ => none }
def FloatNarrowsWrongFalsely : Prop := floatNarrowsRow.holds Try.pinned (OpenSpec.ofChange floatNarrowsWrong)

/-- 'baterialaw02.FloatBalance': WHATEVER THE INPUT: true; the input reads as it did. -/
def floatBalanceSpec : ChangeSpec := { name := "floatBalance", fn := fun _ => fun
  | [d] => { results := [.lit (.bool true)], args := [d] }
  | _ => none }
def floatBalanceRow : OpenClaim := { program := "ytkjpceapflhmnaa", sum := "8531c63cb5b9ba6d1d4fba27c092e67ace71ed12082e33b157eee9fa63df17c2", func := "bateria/baterialaw02.FloatBalance", spec := "floatBalance", unfollowed := true, recurses := true, apart := false }
def FloatBalanceSaid : Prop := floatBalanceRow.holds Try.pinned (OpenSpec.ofChange floatBalanceSpec)

/-- ITS FALSE NEIGHBOUR: 'it returns false'. Refute it at one input. -/
def floatBalanceWrong : ChangeSpec := { name := "floatBalance", fn := fun _ => fun
  | [d] => { results := [.lit (.bool false)], args := [d] }
  | _ => none }
def FloatBalanceWrongFalsely : Prop := floatBalanceRow.holds Try.pinned (OpenSpec.ofChange floatBalanceWrong)

/-- 'baterialaw02.FloatBallast': WHATEVER THE INPUT: true; the input reads as it did. -/
def floatBallastSpec : ChangeSpec := { name := "floatBallast", fn := fun _ => fun
  | [d] => { results := [.lit (.bool true)], args := [d] }
  | _ => none }
def floatBallastRow : OpenClaim := { program := "ytkjpceapflhmnaa", sum := "8531c63cb5b9ba6d1d4fba27c092e67ace71ed12082e33b157eee9fa63df17c2", func := "bateria/baterialaw02.FloatBallast", spec := "floatBallast", unfollowed := true, recurses := true, apart := false }
def FloatBallastSaid : Prop := floatBallastRow.holds Try.pinned (OpenSpec.ofChange floatBallastSpec)

/-- ITS FALSE NEIGHBOUR: 'it returns false'. Refute it at one input. -/
def floatBallastWrong : ChangeSpec := { name := "floatBallast", fn := fun _ => fun
  | [d] => { results := [.lit (.bool false)], args := [d] }
  | _ => none }
def FloatBallastWrongFalsely : Prop := floatBallastRow.holds Try.pinned (OpenSpec.ofChange floatBallastWrong)

/-- 'baterialaw02.FloatCarries': WHATEVER THE INPUT: true; the input reads as it did. -/
def floatCarriesSpec : ChangeSpec := { name := "floatCarries", fn := fun _ => fun
  | [d1, d2, d3, d4] => { results := [.lit (.bool true)], args := [d1, d2, d3, d4] }
  | _ => none }
def floatCarriesRow : OpenClaim := { program := "ytkjpceapflhmnaa", sum := "8531c63cb5b9ba6d1d4fba27c092e67ace71ed12082e33b157eee9fa63df17c2", func := "bateria/baterialaw02.FloatCarries", spec := "floatCarries", unfollowed := true, recurses := true, apart := false }
def FloatCarriesSaid : Prop := floatCarriesRow.holds Try.pinned (OpenSpec.ofChange floatCarriesSpec)

/-- ITS FALSE NEIGHBOUR: 'it returns false'. Refute it at one input. -/
def floatCarriesWrong : ChangeSpec := { name := "floatCarries", fn := fun _ => fun
  | [d1, d2, d3, d4] => { results := [.lit (.bool false)], args := [d1, d2, d3, d4] }
  | _ => none }
def FloatCarriesWrongFalsely : Prop := floatCarriesRow.holds Try.pinned (OpenSpec.ofChange floatCarriesWrong)

/-- 'baterialaw02.FloatTrue': WHATEVER THE INPUT: true; the input reads as it did. -/
def floatTrueSpec : ChangeSpec := { name := "floatTrue", fn := fun _ => fun
  | [d] => { results := [.lit (.bool true)], args := [d] }
  | _ => none }
def floatTrueRow : OpenClaim := { program := "ytkjpceapflhmnaa", sum := "8531c63cb5b9ba6d1d4fba27c092e67ace71ed12082e33b157eee9fa63df17c2", func := "bateria/baterialaw02.FloatTrue", spec := "floatTrue", unfollowed := true, recurses := true, apart := false }
def FloatTrueSaid : Prop := floatTrueRow.holds Try.pinned (OpenSpec.ofChange floatTrueSpec)

/-- ITS FALSE NEIGHBOUR: 'it returns false'. Refute it at one input. -/
def floatTrueWrong : ChangeSpec := { name := "floatTrue", fn := fun _ => fun
  | [d] => { results := [.lit (.bool false)], args := [d] }
  | _ => none }
def FloatTrueWrongFalsely : Prop := floatTrueRow.holds Try.pinned (OpenSpec.ofChange floatTrueWrong)

/-- 'baterialaw02.FloatEnds': WHATEVER THE INPUT: true; the input reads as it did. -/
def floatEndsSpec : ChangeSpec := { name := "floatEnds", fn := fun _ => fun
  | [d] => { results := [.lit (.bool true)], args := [d] }
  | _ => none }
def floatEndsRow : OpenClaim := { program := "ytkjpceapflhmnaa", sum := "8531c63cb5b9ba6d1d4fba27c092e67ace71ed12082e33b157eee9fa63df17c2", func := "bateria/baterialaw02.FloatEnds", spec := "floatEnds", unfollowed := true, recurses := true, apart := false }
def FloatEndsSaid : Prop := floatEndsRow.holds Try.pinned (OpenSpec.ofChange floatEndsSpec)

/-- ITS FALSE NEIGHBOUR: 'it returns false'. Refute it at one input. -/
def floatEndsWrong : ChangeSpec := { name := "floatEnds", fn := fun _ => fun
  | [d] => { results := [.lit (.bool false)], args := [d] }
  | _ => none }
def FloatEndsWrongFalsely : Prop := floatEndsRow.holds Try.pinned (OpenSpec.ofChange floatEndsWrong)

/-- 'baterialaw02.FloatFires': WHATEVER THE INPUT: true; the input reads as it did. -/
def floatFiresSpec : ChangeSpec := { name := "floatFires", fn := fun _ => fun
  | [d1, d2, d3] => { results := [.lit (.bool true)], args := [d1, d2, d3] }
  | _ => none }
def floatFiresRow : OpenClaim := { program := "ytkjpceapflhmnaa", sum := "8531c63cb5b9ba6d1d4fba27c092e67ace71ed12082e33b157eee9fa63df17c2", func := "bateria/baterialaw02.FloatFires", spec := "floatFires", unfollowed := true, recurses := true, apart := false }
def FloatFiresSaid : Prop := floatFiresRow.holds Try.pinned (OpenSpec.ofChange floatFiresSpec)

/-- ITS FALSE NEIGHBOUR: 'it returns false'. Refute it at one input. -/
def floatFiresWrong : ChangeSpec := { name := "floatFires", fn := fun _ => fun
  | [d1, d2, d3] => { results := [.lit (.bool false)], args := [d1, d2, d3] }
  | _ => none }
def FloatFiresWrongFalsely : Prop := floatFiresRow.holds Try.pinned (OpenSpec.ofChange floatFiresWrong)

/-- 'baterialaw02.FloatApart': WHATEVER THE INPUT: true; the input reads as it did. -/
def floatApartSpec : ChangeSpec := { name := "floatApart", fn := fun _ => fun
  | [d] => { results := [.lit (.bool true)], args := [d] }
  | _ => none }
def floatApartRow : OpenClaim := { program := "ytkjpceapflhmnaa", sum := "8531c63cb5b9ba6d1d4fba27c092e67ace71ed12082e33b157eee9fa63df17c2", func := "bateria/baterialaw02.FloatApart", spec := "floatApart", unfollowed := true, recurses := true, apart := false }
def FloatApartSaid : Prop := floatApartRow.holds Try.pinned (OpenSpec.ofChange floatApartSpec)

/-- ITS FALSE NEIGHBOUR: 'it returns false'. Refute it at one input. -/
def floatApartWrong : ChangeSpec := { name := "floatApart", fn := fun _ => fun
  | [d] => { results := [.lit (.bool false)], args := [d] }
  | _ => none }
def FloatApartWrongFalsely : Prop := floatApartRow.holds Try.pinned (OpenSpec.ofChange floatApartWrong)

/- THE SECOND FORM. 'bulk': how many values and letters a reading holds, each counted each time it is reached (what is shared counts as often as it is met; a slice's spare places count too). A statement '..UptoSaid' is the law's where the arguments, and the package variables that the reading takes, are together of bulk at most 1048576: NARROWER than '..Said'. Prove '..Said' where nothing that the law and all that it calls make is longer than what came in: it says more and counts as full. Else prove '..UptoSaid'. A law counts once. -/
mutual
def uptoBulk {H : Type} : DataW H → Nat
  | .lit (.string bytes) => bytes.length + 1
  | .lit _ => 1
  | .nil => 1
  | .ptr d => uptoBulk d + 1
  | .slice elems spare => uptoBulkAll elems + uptoBulkAll spare + 1
  | .agg parts => uptoBulkAll parts + 1
  | .iface _ d => uptoBulk d + 1
  | .map entries => uptoBulkEntries entries + 1
  | .held _ => 1
def uptoBulkAll {H : Type} : List (DataW H) → Nat
  | [] => 0
  | d :: r => uptoBulk d + uptoBulkAll r
def uptoBulkEntries {H : Type} : List (Lit × DataW H) → Nat
  | [] => 0
  | x :: r => uptoBulkEntry x + uptoBulkEntries r
def uptoBulkEntry {H : Type} : Lit × DataW H → Nat
  | (.string bytes, d) => bytes.length + uptoBulk d + 1
  | (_, d) => uptoBulk d + 1
 end
def uptoSmall : (H : Type) → List (DataW H) → Bool := fun _ ds => decide (uptoBulkAll ds ≤ 1048576)
def OpenSpec.upto (s : _root_.Go.ChangeSpec) : _root_.Go.OpenSpec := { _root_.Go.OpenSpec.ofChange s with cond := some uptoSmall }

/-- 'baterialaw02.FloatBends', WHERE WHAT IT READS IS OF BULK AT MOST 1048576: true; the input reads as it did. -/
def floatBendsUptoRow : OpenClaim := { program := "ytkjpceapflhmnaa", sum := "8531c63cb5b9ba6d1d4fba27c092e67ace71ed12082e33b157eee9fa63df17c2", func := "bateria/baterialaw02.FloatBends", spec := "floatBends", unfollowed := true, recurses := true, apart := false, narrowed := true }
def FloatBendsUptoSaid : Prop := floatBendsUptoRow.holds Try.pinned (OpenSpec.upto floatBendsSpec)

/-- 'baterialaw02.FloatPasses', WHERE WHAT IT READS IS OF BULK AT MOST 1048576: true; the input reads as it did. -/
def floatPassesUptoRow : OpenClaim := { program := "ytkjpceapflhmnaa", sum := "8531c63cb5b9ba6d1d4fba27c092e67ace71ed12082e33b157eee9fa63df17c2", func := "bateria/baterialaw02.FloatPasses", spec := "floatPasses", unfollowed := true, recurses := true, apart := false, narrowed := true }
def FloatPassesUptoSaid : Prop := floatPassesUptoRow.holds Try.pinned (OpenSpec.upto floatPassesSpec)

/-- 'baterialaw02.FloatRoutes', WHERE WHAT IT READS IS OF BULK AT MOST 1048576: true; the input reads as it did. -/
def floatRoutesUptoRow : OpenClaim := { program := "ytkjpceapflhmnaa", sum := "8531c63cb5b9ba6d1d4fba27c092e67ace71ed12082e33b157eee9fa63df17c2", func := "bateria/baterialaw02.FloatRoutes", spec := "floatRoutes", unfollowed := true, recurses := true, apart := false, narrowed := true }
def FloatRoutesUptoSaid : Prop := floatRoutesUptoRow.holds Try.pinned (OpenSpec.upto floatRoutesSpec)

/-- 'baterialaw02.FloatNarrows', WHERE WHAT IT READS IS OF BULK AT MOST 1048576: true; the input reads as it did. -/
def floatNarrowsUptoRow : OpenClaim := { program := "ytkjpceapflhmnaa", sum := "8531c63cb5b9ba6d1d4fba27c092e67ace71ed12082e33b157eee9fa63df17c2", func := "bateria/baterialaw02.FloatNarrows", spec := "floatNarrows", unfollowed := true, recurses := true, apart := false, narrowed := true }
def FloatNarrowsUptoSaid : Prop := floatNarrowsUptoRow.holds Try.pinned (OpenSpec.upto floatNarrowsSpec)

/-- 'baterialaw02.FloatBalance', WHERE WHAT IT READS IS OF BULK AT MOST 1048576: true; the input reads as it did. -/
def floatBalanceUptoRow : OpenClaim := { program := "ytkjpceapflhmnaa", sum := "8531c63cb5b9ba6d1d4fba27c092e67ace71ed12082e33b157eee9fa63df17c2", func := "bateria/baterialaw02.FloatBalance", spec := "floatBalance", unfollowed := true, recurses := true, apart := false, narrowed := true }
def FloatBalanceUptoSaid : Prop := floatBalanceUptoRow.holds Try.pinned (OpenSpec.upto floatBalanceSpec)

/-- 'baterialaw02.FloatBallast', WHERE WHAT IT READS IS OF BULK AT MOST 1048576: true; the input reads as it did. -/
def floatBallastUptoRow : OpenClaim := { program := "ytkjpceapflhmnaa", sum := "8531c63cb5b9ba6d1d4fba27c092e67ace71ed12082e33b157eee9fa63df17c2", func := "bateria/baterialaw02.FloatBallast", spec := "floatBallast", unfollowed := true, recurses := true, apart := false, narrowed := true }
def FloatBallastUptoSaid : Prop := floatBallastUptoRow.holds Try.pinned (OpenSpec.upto floatBallastSpec)

/-- 'baterialaw02.FloatCarries', WHERE WHAT IT READS IS OF BULK AT MOST 1048576: true; the input reads as it did. -/
def floatCarriesUptoRow : OpenClaim := { program := "ytkjpceapflhmnaa", sum := "8531c63cb5b9ba6d1d4fba27c092e67ace71ed12082e33b157eee9fa63df17c2", func := "bateria/baterialaw02.FloatCarries", spec := "floatCarries", unfollowed := true, recurses := true, apart := false, narrowed := true }
def FloatCarriesUptoSaid : Prop := floatCarriesUptoRow.holds Try.pinned (OpenSpec.upto floatCarriesSpec)

/-- 'baterialaw02.FloatTrue', WHERE WHAT IT READS IS OF BULK AT MOST 1048576: true; the input reads as it did. -/
def floatTrueUptoRow : OpenClaim := { program := "ytkjpceapflhmnaa", sum := "8531c63cb5b9ba6d1d4fba27c092e67ace71ed12082e33b157eee9fa63df17c2", func := "bateria/baterialaw02.FloatTrue", spec := "floatTrue", unfollowed := true, recurses := true, apart := false, narrowed := true }
def FloatTrueUptoSaid : Prop := floatTrueUptoRow.holds Try.pinned (OpenSpec.upto floatTrueSpec)

/-- 'baterialaw02.FloatEnds', WHERE WHAT IT READS IS OF BULK AT MOST 1048576: true; the input reads as it did. -/
def floatEndsUptoRow : OpenClaim := { program := "ytkjpceapflhmnaa", sum := "8531c63cb5b9ba6d1d4fba27c092e67ace71ed12082e33b157eee9fa63df17c2", func := "bateria/baterialaw02.FloatEnds", spec := "floatEnds", unfollowed := true, recurses := true, apart := false, narrowed := true }
def FloatEndsUptoSaid : Prop := floatEndsUptoRow.holds Try.pinned (OpenSpec.upto floatEndsSpec)

/-- 'baterialaw02.FloatFires', WHERE WHAT IT READS IS OF BULK AT MOST 1048576: true; the input reads as it did. -/
def floatFiresUptoRow : OpenClaim := { program := "ytkjpceapflhmnaa", sum := "8531c63cb5b9ba6d1d4fba27c092e67ace71ed12082e33b157eee9fa63df17c2", func := "bateria/baterialaw02.FloatFires", spec := "floatFires", unfollowed := true, recurses := true, apart := false, narrowed := true }
def FloatFiresUptoSaid : Prop := floatFiresUptoRow.holds Try.pinned (OpenSpec.upto floatFiresSpec)

/-- 'baterialaw02.FloatApart', WHERE WHAT IT READS IS OF BULK AT MOST 1048576: true; the input reads as it did. -/
def floatApartUptoRow : OpenClaim := { program := "ytkjpceapflhmnaa", sum := "8531c63cb5b9ba6d1d4fba27c092e67ace71ed12082e33b157eee9fa63df17c2", func := "bateria/baterialaw02.FloatApart", spec := "floatApart", unfollowed := true, recurses := true, apart := false, narrowed := true }
def FloatApartUptoSaid : Prop := floatApartUptoRow.holds Try.pinned (OpenSpec.upto floatApartSpec)

end Rows
end Go.Proofs.Ytkjpceapflhmnaa
