/- Contracts of functions that the claim reaches: what each call gives, told in our own logic. Conditions: those of each theorem. -/
import Derived.Test.YtbbkeakbomngoaaG45
import Derived.Test.YtbbkeakbomngoaaG43
set_option linter.all false
set_option linter.unusedSimpArgs false
set_option linter.unusedVariables false
namespace Go.Proofs.Ytbbkeakbomngoaa
open Go.Av
attribute [local irreducible] thenA blockA awp awpOps awpD awp1
set_option maxHeartbeats 8000000
set_option maxRecDepth 20000
/-! ### The trace is the last one of all traces, and has no flaw -/
theorem c46v (l : Lg) (t : List (List Int)) (ht : (t.length : Int) < 1000000) (hr : ∀ x ∈ t, x.length < 1000000) : Pure Try.prog 46 [l.av, .lst 1 (t.map rowA)] (fun v => v = .tup [.lst 3 ((audL l t).map Fl.row), .int .i64 (audE l t)]) := c46 l t ht hr
end Go.Proofs.Ytbbkeakbomngoaa
