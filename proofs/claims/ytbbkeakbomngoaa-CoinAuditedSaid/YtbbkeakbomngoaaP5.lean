/- Contracts of functions that the claim reaches: what each call gives, told in our own logic. Conditions: those of each theorem. -/
import Derived.Test.YtbbkeakbomngoaaGR
import Derived.Test.YtbbkeakbomngoaaG17
set_option linter.all false
set_option linter.unusedSimpArgs false
set_option linter.unusedVariables false
namespace Go.Proofs.Ytbbkeakbomngoaa
open Go.Av
set_option maxRecDepth 20000
/-! ### More money, fewer bills: plain -/
structure More (x y : Fd) : Prop where
  day : 0 ≤ y.day ∧ y.day ≤ x.day
  till : x.till ≤ y.till ∧ y.till ≤ 3650
  amt : x.amt ≤ y.amt ∧ y.amt ≤ x.amt + 9
  uses : y.uses = x.uses ∨ y.uses = [0, 1, 2, 7]
end Go.Proofs.Ytbbkeakbomngoaa
