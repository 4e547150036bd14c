/- Contracts of functions that the claim reaches: what each call gives, told in our own logic. Conditions: those of each theorem. -/
import Derived.Test.YtbbkeakbomngoaaP10
set_option linter.all false
set_option linter.unusedSimpArgs false
set_option linter.unusedVariables false
namespace Go.Proofs.Ytbbkeakbomngoaa
open Go.Av
set_option maxRecDepth 20000
/-! ### The trace is the last one of all traces -/
section
variable {l : Lg} (hl : LgOk l) (hp : prf l = none)
include hl hp
end
end Go.Proofs.Ytbbkeakbomngoaa
