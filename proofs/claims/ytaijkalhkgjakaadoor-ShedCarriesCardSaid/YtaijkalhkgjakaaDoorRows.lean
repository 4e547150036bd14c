/-
  NARROWER THAN 'FOR EVERY INPUT', by the rows' own cells (each row's printed sentence says how): ShedBest: laid · ShedCarries: laid · ShedMatch: laid · ShedHands: laid · ShedJobs: laid · ShedPlans: laid · ShedFewest: laid · ShedBound: laid · ShedEarly: laid.
  DERIVED. THE GIVEN ROWS OF THIS SEAT. 9 by the template 'for every input the law returns true; each argument reads behind the call as it read before'; 0 by the template 'total and deterministic' (their statements: YtaijkalhkgjakaaDoorTotals.lean).
  GIVEN WITH THE SEED: the statements are not yours to turn. If you find one false, say at which input.
  Laid BY PROGRAM, IN A SANDBOX (cutbox-rows.mjs): the forced cells as the released guide's own fill.sh prints them over the translation 9c3d64a5da2814a1… (all of the seat's roots in one cut). By AI agents, Wed Nov 11 2026. No macro, syntax, notation, axiom, sorry.
-/
import Derived.Test.YtaijkalhkgjakaaDoorChecked
import GoSem.Claim
import GoSem.ClaimJoined
import GoSem.ClaimMapViews
import Derived.JoinedTies
import Derived.KernelRfl
namespace Go.Proofs.YtaijkalhkgjakaaDoor
/- THE CELL 'sum', in the pinned program and in every row, IS THE sha256 OF THE DUMP (.gsa) THAT YtaijkalhkgjakaaDoorProg.lean LOADS. Nothing in Lean hashes anything: it is a label: what it is worth is what the hold of that sum in a sandbox is worth. -/
noncomputable def Tryd.pinned : Pinned := { name := "ytaijkalhkgjakaadoor", sum := "9c3d64a5da2814a1cbf452255fd16da066ec9ff1067f3415b522ae8d16785ffe", checked := Tryd.checked }
namespace Rows
def none {H : Type} : Left H := { results := [], args := [] }

/- WHAT THE LISTED PACKAGE-LEVEL VARIABLES READ AS WHEN THE CALL BEGINS. Each datum BY PROGRAM (the guide's laid-datum.mjs) off the statement by which the dump's own 'gosem.cut.vars' lays the variable. In a bare row this is a premise. The card (YtaijkalhkgjakaaDoorCards.lean) ties it to the program's text. -/
def laid_bateria_shed_bitOf {H : Type} : DataW H := .agg [.lit (.int .i64 0), .lit (.int .i64 1), .lit (.int .i64 2), .lit (.int .i64 4)]

/-- 'baterialaw08.ShedBest': WHATEVER THE INPUT: true; the input reads as it did. -/
def shedBestSpec : ChangeSpec := { name := "shedBest", fn := fun _ => fun
  | [d1, d2] => { results := [.lit (.bool true)], args := [d1, d2] }
  | _ => none }
def shedBestRow : OpenClaim := { program := "ytaijkalhkgjakaadoor", sum := "9c3d64a5da2814a1cbf452255fd16da066ec9ff1067f3415b522ae8d16785ffe", func := "bateria/baterialaw08.ShedBest", spec := "shedBest", unfollowed := true, recurses := true, named := ["bateria/shed.bitOf"], apart := false, laid := [("bateria/shed.bitOf", laid_bateria_shed_bitOf)] }
def ShedBestSaid : Prop := shedBestRow.holds Tryd.pinned (OpenSpec.ofChange shedBestSpec)

/-- ITS FALSE NEIGHBOUR: 'it returns false'. Refute it at one input. -/
def shedBestWrong : ChangeSpec := { name := "shedBest", fn := fun _ => fun
  | [d1, d2] => { results := [.lit (.bool false)], args := [d1, d2] }
  | _ => none }
def ShedBestWrongFalsely : Prop := shedBestRow.holds Tryd.pinned (OpenSpec.ofChange shedBestWrong)

/-- 'baterialaw08.ShedCarries': WHATEVER THE INPUT: true; the input reads as it did. -/
def shedCarriesSpec : ChangeSpec := { name := "shedCarries", fn := fun _ => fun
  | [d] => { results := [.lit (.bool true)], args := [d] }
  | _ => none }
def shedCarriesRow : OpenClaim := { program := "ytaijkalhkgjakaadoor", sum := "9c3d64a5da2814a1cbf452255fd16da066ec9ff1067f3415b522ae8d16785ffe", func := "bateria/baterialaw08.ShedCarries", spec := "shedCarries", unfollowed := true, recurses := true, named := ["bateria/shed.bitOf"], apart := false, laid := [("bateria/shed.bitOf", laid_bateria_shed_bitOf)] }
def ShedCarriesSaid : Prop := shedCarriesRow.holds Tryd.pinned (OpenSpec.ofChange shedCarriesSpec)

/-- ITS FALSE NEIGHBOUR: 'it returns false'. Refute it at one input. -/
def shedCarriesWrong : ChangeSpec := { name := "shedCarries", fn := fun _ => fun
  | [d] => { results := [.lit (.bool false)], args := [d] }
  | _ => none }
def ShedCarriesWrongFalsely : Prop := shedCarriesRow.holds Tryd.pinned (OpenSpec.ofChange shedCarriesWrong)

/-- 'baterialaw08.ShedMatch': WHATEVER THE INPUT: true; the input reads as it did. -/
def shedMatchSpec : ChangeSpec := { name := "shedMatch", fn := fun _ => fun
  | [d] => { results := [.lit (.bool true)], args := [d] }
  | _ => none }
def shedMatchRow : OpenClaim := { program := "ytaijkalhkgjakaadoor", sum := "9c3d64a5da2814a1cbf452255fd16da066ec9ff1067f3415b522ae8d16785ffe", func := "bateria/baterialaw08.ShedMatch", spec := "shedMatch", unfollowed := true, recurses := true, named := ["bateria/shed.bitOf"], apart := false, laid := [("bateria/shed.bitOf", laid_bateria_shed_bitOf)] }
def ShedMatchSaid : Prop := shedMatchRow.holds Tryd.pinned (OpenSpec.ofChange shedMatchSpec)

/-- ITS FALSE NEIGHBOUR: 'it returns false'. Refute it at one input. -/
def shedMatchWrong : ChangeSpec := { name := "shedMatch", fn := fun _ => fun
  | [d] => { results := [.lit (.bool false)], args := [d] }
  | _ => none }
def ShedMatchWrongFalsely : Prop := shedMatchRow.holds Tryd.pinned (OpenSpec.ofChange shedMatchWrong)

/-- 'baterialaw08.ShedHands': WHATEVER THE INPUT: true; the input reads as it did. -/
def shedHandsSpec : ChangeSpec := { name := "shedHands", fn := fun _ => fun
  | [d] => { results := [.lit (.bool true)], args := [d] }
  | _ => none }
def shedHandsRow : OpenClaim := { program := "ytaijkalhkgjakaadoor", sum := "9c3d64a5da2814a1cbf452255fd16da066ec9ff1067f3415b522ae8d16785ffe", func := "bateria/baterialaw08.ShedHands", spec := "shedHands", unfollowed := true, recurses := true, named := ["bateria/shed.bitOf"], apart := false, laid := [("bateria/shed.bitOf", laid_bateria_shed_bitOf)] }
def ShedHandsSaid : Prop := shedHandsRow.holds Tryd.pinned (OpenSpec.ofChange shedHandsSpec)

/-- ITS FALSE NEIGHBOUR: 'it returns false'. Refute it at one input. -/
def shedHandsWrong : ChangeSpec := { name := "shedHands", fn := fun _ => fun
  | [d] => { results := [.lit (.bool false)], args := [d] }
  | _ => none }
def ShedHandsWrongFalsely : Prop := shedHandsRow.holds Tryd.pinned (OpenSpec.ofChange shedHandsWrong)

/-- 'baterialaw08.ShedJobs': WHATEVER THE INPUT: true; the input reads as it did. -/
def shedJobsSpec : ChangeSpec := { name := "shedJobs", fn := fun _ => fun
  | [d1, d2, d3, d4] => { results := [.lit (.bool true)], args := [d1, d2, d3, d4] }
  | _ => none }
def shedJobsRow : OpenClaim := { program := "ytaijkalhkgjakaadoor", sum := "9c3d64a5da2814a1cbf452255fd16da066ec9ff1067f3415b522ae8d16785ffe", func := "bateria/baterialaw08.ShedJobs", spec := "shedJobs", unfollowed := true, recurses := true, named := ["bateria/shed.bitOf"], apart := false, laid := [("bateria/shed.bitOf", laid_bateria_shed_bitOf)] }
def ShedJobsSaid : Prop := shedJobsRow.holds Tryd.pinned (OpenSpec.ofChange shedJobsSpec)

/-- ITS FALSE NEIGHBOUR: 'it returns false'. Refute it at one input. -/
def shedJobsWrong : ChangeSpec := { name := "shedJobs", fn := fun _ => fun
  | [d1, d2, d3, d4] => { results := [.lit (.bool false)], args := [d1, d2, d3, d4] }
  | _ => none }
def ShedJobsWrongFalsely : Prop := shedJobsRow.holds Tryd.pinned (OpenSpec.ofChange shedJobsWrong)

/-- 'baterialaw08.ShedPlans': WHATEVER THE INPUT: true; the input reads as it did. -/
def shedPlansSpec : ChangeSpec := { name := "shedPlans", fn := fun _ => fun
  | [d1, d2, d3, d4] => { results := [.lit (.bool true)], args := [d1, d2, d3, d4] }
  | _ => none }
def shedPlansRow : OpenClaim := { program := "ytaijkalhkgjakaadoor", sum := "9c3d64a5da2814a1cbf452255fd16da066ec9ff1067f3415b522ae8d16785ffe", func := "bateria/baterialaw08.ShedPlans", spec := "shedPlans", unfollowed := true, recurses := true, named := ["bateria/shed.bitOf"], apart := false, laid := [("bateria/shed.bitOf", laid_bateria_shed_bitOf)] }
def ShedPlansSaid : Prop := shedPlansRow.holds Tryd.pinned (OpenSpec.ofChange shedPlansSpec)

/-- ITS FALSE NEIGHBOUR: 'it returns false'. Refute it at one input. -/
def shedPlansWrong : ChangeSpec := { name := "shedPlans", fn := fun _ => fun
  | [d1, d2, d3, d4] => { results := [.lit (.bool false)], args := [d1, d2, d3, d4] }
  | _ => none }
def ShedPlansWrongFalsely : Prop := shedPlansRow.holds Tryd.pinned (OpenSpec.ofChange shedPlansWrong)

/-- 'baterialaw08.ShedFewest': WHATEVER THE INPUT: true; the input reads as it did. -/
def shedFewestSpec : ChangeSpec := { name := "shedFewest", fn := fun _ => fun
  | [d] => { results := [.lit (.bool true)], args := [d] }
  | _ => none }
def shedFewestRow : OpenClaim := { program := "ytaijkalhkgjakaadoor", sum := "9c3d64a5da2814a1cbf452255fd16da066ec9ff1067f3415b522ae8d16785ffe", func := "bateria/baterialaw08.ShedFewest", spec := "shedFewest", unfollowed := true, recurses := true, named := ["bateria/shed.bitOf"], apart := false, laid := [("bateria/shed.bitOf", laid_bateria_shed_bitOf)] }
def ShedFewestSaid : Prop := shedFewestRow.holds Tryd.pinned (OpenSpec.ofChange shedFewestSpec)

/-- ITS FALSE NEIGHBOUR: 'it returns false'. Refute it at one input. -/
def shedFewestWrong : ChangeSpec := { name := "shedFewest", fn := fun _ => fun
  | [d] => { results := [.lit (.bool false)], args := [d] }
  | _ => none }
def ShedFewestWrongFalsely : Prop := shedFewestRow.holds Tryd.pinned (OpenSpec.ofChange shedFewestWrong)

/-- 'baterialaw08.ShedBound': WHATEVER THE INPUT: true; the input reads as it did. -/
def shedBoundSpec : ChangeSpec := { name := "shedBound", fn := fun _ => fun
  | [d] => { results := [.lit (.bool true)], args := [d] }
  | _ => none }
def shedBoundRow : OpenClaim := { program := "ytaijkalhkgjakaadoor", sum := "9c3d64a5da2814a1cbf452255fd16da066ec9ff1067f3415b522ae8d16785ffe", func := "bateria/baterialaw08.ShedBound", spec := "shedBound", unfollowed := true, recurses := true, named := ["bateria/shed.bitOf"], apart := false, laid := [("bateria/shed.bitOf", laid_bateria_shed_bitOf)] }
def ShedBoundSaid : Prop := shedBoundRow.holds Tryd.pinned (OpenSpec.ofChange shedBoundSpec)

/-- ITS FALSE NEIGHBOUR: 'it returns false'. Refute it at one input. -/
def shedBoundWrong : ChangeSpec := { name := "shedBound", fn := fun _ => fun
  | [d] => { results := [.lit (.bool false)], args := [d] }
  | _ => none }
def ShedBoundWrongFalsely : Prop := shedBoundRow.holds Tryd.pinned (OpenSpec.ofChange shedBoundWrong)

/-- 'baterialaw08.ShedEarly': WHATEVER THE INPUT: true; the input reads as it did. -/
def shedEarlySpec : ChangeSpec := { name := "shedEarly", fn := fun _ => fun
  | [d] => { results := [.lit (.bool true)], args := [d] }
  | _ => none }
def shedEarlyRow : OpenClaim := { program := "ytaijkalhkgjakaadoor", sum := "9c3d64a5da2814a1cbf452255fd16da066ec9ff1067f3415b522ae8d16785ffe", func := "bateria/baterialaw08.ShedEarly", spec := "shedEarly", unfollowed := true, recurses := true, named := ["bateria/shed.bitOf"], apart := false, laid := [("bateria/shed.bitOf", laid_bateria_shed_bitOf)] }
def ShedEarlySaid : Prop := shedEarlyRow.holds Tryd.pinned (OpenSpec.ofChange shedEarlySpec)

/-- ITS FALSE NEIGHBOUR: 'it returns false'. Refute it at one input. -/
def shedEarlyWrong : ChangeSpec := { name := "shedEarly", fn := fun _ => fun
  | [d] => { results := [.lit (.bool false)], args := [d] }
  | _ => none }
def ShedEarlyWrongFalsely : Prop := shedEarlyRow.holds Tryd.pinned (OpenSpec.ofChange shedEarlyWrong)

/- THE SECOND FORM. 'bulk': how many values and letters a reading holds, each counted each time it is reached (what is shared counts as often as it is met; a slice's spare places count too). A statement '..UptoSaid' is the law's where the arguments, and the package variables that the reading takes, are together of bulk at most 1048576: NARROWER than '..Said'. Prove '..Said' where nothing that the law and all that it calls make is longer than what came in: it says more and counts as full. Else prove '..UptoSaid'. A law counts once. -/
mutual
def uptoBulk {H : Type} : DataW H → Nat
  | .lit (.string bytes) => bytes.length + 1
  | .lit _ => 1
  | .nil => 1
  | .ptr d => uptoBulk d + 1
  | .slice elems spare => uptoBulkAll elems + uptoBulkAll spare + 1
  | .agg parts => uptoBulkAll parts + 1
  | .iface _ d => uptoBulk d + 1
  | .map entries => uptoBulkEntries entries + 1
  | .held _ => 1
def uptoBulkAll {H : Type} : List (DataW H) → Nat
  | [] => 0
  | d :: r => uptoBulk d + uptoBulkAll r
def uptoBulkEntries {H : Type} : List (Lit × DataW H) → Nat
  | [] => 0
  | x :: r => uptoBulkEntry x + uptoBulkEntries r
def uptoBulkEntry {H : Type} : Lit × DataW H → Nat
  | (.string bytes, d) => bytes.length + uptoBulk d + 1
  | (_, d) => uptoBulk d + 1
 end
def uptoSmall : (H : Type) → List (DataW H) → Bool := fun _ ds => decide (uptoBulkAll ds ≤ 1048576)
def OpenSpec.upto (s : _root_.Go.ChangeSpec) : _root_.Go.OpenSpec := { _root_.Go.OpenSpec.ofChange s with cond := some uptoSmall }

/-- 'baterialaw08.ShedBest', WHERE WHAT IT READS IS OF BULK AT MOST 1048576: true; the input reads as it did. -/
def shedBestUptoRow : OpenClaim := { program := "ytaijkalhkgjakaadoor", sum := "9c3d64a5da2814a1cbf452255fd16da066ec9ff1067f3415b522ae8d16785ffe", func := "bateria/baterialaw08.ShedBest", spec := "shedBest", unfollowed := true, recurses := true, named := ["bateria/shed.bitOf"], apart := false, laid := [("bateria/shed.bitOf", laid_bateria_shed_bitOf)], narrowed := true }
def ShedBestUptoSaid : Prop := shedBestUptoRow.holds Tryd.pinned (OpenSpec.upto shedBestSpec)

/-- 'baterialaw08.ShedCarries', WHERE WHAT IT READS IS OF BULK AT MOST 1048576: true; the input reads as it did. -/
def shedCarriesUptoRow : OpenClaim := { program := "ytaijkalhkgjakaadoor", sum := "9c3d64a5da2814a1cbf452255fd16da066ec9ff1067f3415b522ae8d16785ffe", func := "bateria/baterialaw08.ShedCarries", spec := "shedCarries", unfollowed := true, recurses := true, named := ["bateria/shed.bitOf"], apart := false, laid := [("bateria/shed.bitOf", laid_bateria_shed_bitOf)], narrowed := true }
def ShedCarriesUptoSaid : Prop := shedCarriesUptoRow.holds Tryd.pinned (OpenSpec.upto shedCarriesSpec)

/-- 'baterialaw08.ShedMatch', WHERE WHAT IT READS IS OF BULK AT MOST 1048576: true; the input reads as it did. -/
def shedMatchUptoRow : OpenClaim := { program := "ytaijkalhkgjakaadoor", sum := "9c3d64a5da2814a1cbf452255fd16da066ec9ff1067f3415b522ae8d16785ffe", func := "bateria/baterialaw08.ShedMatch", spec := "shedMatch", unfollowed := true, recurses := true, named := ["bateria/shed.bitOf"], apart := false, laid := [("bateria/shed.bitOf", laid_bateria_shed_bitOf)], narrowed := true }
def ShedMatchUptoSaid : Prop := shedMatchUptoRow.holds Tryd.pinned (OpenSpec.upto shedMatchSpec)

/-- 'baterialaw08.ShedHands', WHERE WHAT IT READS IS OF BULK AT MOST 1048576: true; the input reads as it did. -/
def shedHandsUptoRow : OpenClaim := { program := "ytaijkalhkgjakaadoor", sum := "9c3d64a5da2814a1cbf452255fd16da066ec9ff1067f3415b522ae8d16785ffe", func := "bateria/baterialaw08.ShedHands", spec := "shedHands", unfollowed := true, recurses := true, named := ["bateria/shed.bitOf"], apart := false, laid := [("bateria/shed.bitOf", laid_bateria_shed_bitOf)], narrowed := true }
def ShedHandsUptoSaid : Prop := shedHandsUptoRow.holds Tryd.pinned (OpenSpec.upto shedHandsSpec)

/-- 'baterialaw08.ShedJobs', WHERE WHAT IT READS IS OF BULK AT MOST 1048576: true; the input reads as it did. -/
def shedJobsUptoRow : OpenClaim := { program := "ytaijkalhkgjakaadoor", sum := "9c3d64a5da2814a1cbf452255fd16da066ec9ff1067f3415b522ae8d16785ffe", func := "bateria/baterialaw08.ShedJobs", spec := "shedJobs", unfollowed := true, recurses := true, named := ["bateria/shed.bitOf"], apart := false, laid := [("bateria/shed.bitOf", laid_bateria_shed_bitOf)], narrowed := true }
def ShedJobsUptoSaid : Prop := shedJobsUptoRow.holds Tryd.pinned (OpenSpec.upto shedJobsSpec)

/-- 'baterialaw08.ShedPlans', WHERE WHAT IT READS IS OF BULK AT MOST 1048576: true; the input reads as it did. -/
def shedPlansUptoRow : OpenClaim := { program := "ytaijkalhkgjakaadoor", sum := "9c3d64a5da2814a1cbf452255fd16da066ec9ff1067f3415b522ae8d16785ffe", func := "bateria/baterialaw08.ShedPlans", spec := "shedPlans", unfollowed := true, recurses := true, named := ["bateria/shed.bitOf"], apart := false, laid := [("bateria/shed.bitOf", laid_bateria_shed_bitOf)], narrowed := true }
def ShedPlansUptoSaid : Prop := shedPlansUptoRow.holds Tryd.pinned (OpenSpec.upto shedPlansSpec)

/-- 'baterialaw08.ShedFewest', WHERE WHAT IT READS IS OF BULK AT MOST 1048576: true; the input reads as it did. -/
def shedFewestUptoRow : OpenClaim := { program := "ytaijkalhkgjakaadoor", sum := "9c3d64a5da2814a1cbf452255fd16da066ec9ff1067f3415b522ae8d16785ffe", func := "bateria/baterialaw08.ShedFewest", spec := "shedFewest", unfollowed := true, recurses := true, named := ["bateria/shed.bitOf"], apart := false, laid := [("bateria/shed.bitOf", laid_bateria_shed_bitOf)], narrowed := true }
def ShedFewestUptoSaid : Prop := shedFewestUptoRow.holds Tryd.pinned (OpenSpec.upto shedFewestSpec)

/-- 'baterialaw08.ShedBound', WHERE WHAT IT READS IS OF BULK AT MOST 1048576: true; the input reads as it did. -/
def shedBoundUptoRow : OpenClaim := { program := "ytaijkalhkgjakaadoor", sum := "9c3d64a5da2814a1cbf452255fd16da066ec9ff1067f3415b522ae8d16785ffe", func := "bateria/baterialaw08.ShedBound", spec := "shedBound", unfollowed := true, recurses := true, named := ["bateria/shed.bitOf"], apart := false, laid := [("bateria/shed.bitOf", laid_bateria_shed_bitOf)], narrowed := true }
def ShedBoundUptoSaid : Prop := shedBoundUptoRow.holds Tryd.pinned (OpenSpec.upto shedBoundSpec)

/-- 'baterialaw08.ShedEarly', WHERE WHAT IT READS IS OF BULK AT MOST 1048576: true; the input reads as it did. -/
def shedEarlyUptoRow : OpenClaim := { program := "ytaijkalhkgjakaadoor", sum := "9c3d64a5da2814a1cbf452255fd16da066ec9ff1067f3415b522ae8d16785ffe", func := "bateria/baterialaw08.ShedEarly", spec := "shedEarly", unfollowed := true, recurses := true, named := ["bateria/shed.bitOf"], apart := false, laid := [("bateria/shed.bitOf", laid_bateria_shed_bitOf)], narrowed := true }
def ShedEarlyUptoSaid : Prop := shedEarlyUptoRow.holds Tryd.pinned (OpenSpec.upto shedEarlySpec)

end Rows
end Go.Proofs.YtaijkalhkgjakaaDoor
