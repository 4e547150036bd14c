/- Contracts of functions that the claim reaches: what each call gives, told in our own logic. Conditions: those of each theorem. -/
import Derived.Test.YtbbkeakbomngoaaP3
import Derived.Test.YtbbkeakbomngoaaGR
import Derived.Test.YtbbkeakbomngoaaG17
set_option linter.all false
set_option linter.unusedSimpArgs false
set_option linter.unusedVariables false
namespace Go.Proofs.Ytbbkeakbomngoaa
open Go.Av
set_option maxRecDepth 20000
/-! ### What is left of the funds, as funds -/
/-! ### The least of what later bills can do without, over multiples alone -/
end Go.Proofs.Ytbbkeakbomngoaa
