/- Contracts of functions that the claim reaches: what each call gives, told in our own logic. Conditions: those of each theorem. -/
import Derived.Test.YtbbkeakbomngoaaGR
import Derived.Test.YtbbkeakbomngoaaG17
import Derived.Test.YtbbkeakbomngoaaP4
import Derived.Test.YtbbkeakbomngoaaBaseD
set_option linter.all false
set_option linter.unusedSimpArgs false
set_option linter.unusedVariables false
namespace Go.Proofs.Ytbbkeakbomngoaa
open Go.Av
attribute [local irreducible] thenA blockA awp awpOps awpD awp1
set_option maxHeartbeats 8000000
set_option maxRecDepth 20000
/-! ### The reference: sets as lists of their numbers -/
theorem frz_rowA {b : Nat × Nat} {k : Blk} (D : List (List Int)) : frzss b k (D.map rowA) = D.map rowA := by
  rw [frzss_map, List.map_map]
  congr 1
  funext r
  simp only [Function.comp, rowA, List.map_cons, List.map_nil, frz, frzss_map, List.map_map]
  congr 2
end Go.Proofs.Ytbbkeakbomngoaa
