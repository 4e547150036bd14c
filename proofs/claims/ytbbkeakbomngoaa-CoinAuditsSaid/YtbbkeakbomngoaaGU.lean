/- Contracts of functions that the claim reaches: what each call gives, told in our own logic. Conditions: those of each theorem. -/
import Derived.Test.YtbbkeakbomngoaaGT
import Derived.Test.YtbbkeakbomngoaaG18
set_option linter.all false
set_option linter.unusedSimpArgs false
set_option linter.unusedVariables false
namespace Go.Proofs.Ytbbkeakbomngoaa
open Go.Av
attribute [local irreducible] thenA blockA awp awpOps awpD awp1
set_option maxHeartbeats 8000000
set_option maxRecDepth 20000
/-! ### Bills that prove that there is no trace -/
/-- A heap of which nothing is known. -/
def eH : AH := ⟨fun _ => none, 0, fun _ => none⟩
theorem eH_hold (H' : AH) : HOld eH H' := ⟨fun b k hz => (by cases hz), (fun x r hr => by cases hr), Nat.zero_le _⟩
end Go.Proofs.Ytbbkeakbomngoaa
