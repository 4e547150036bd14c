/- Contracts of functions that the claim reaches: what each call gives, told in our own logic. Conditions: those of each theorem. -/
import Derived.Test.YtbbkeakbomngoaaGT
import Derived.Test.YtbbkeakbomngoaaP5
set_option linter.all false
set_option linter.unusedSimpArgs false
set_option linter.unusedVariables false
namespace Go.Proofs.Ytbbkeakbomngoaa
open Go.Av
attribute [local irreducible] thenA blockA awp awpOps awpD awp1
set_option maxHeartbeats 8000000
set_option maxRecDepth 20000
/-! ### The reference: whether a ledger is covered, the first short set, what is spent -/
theorem cov_none {l : Lg} (hb : l.bs.length ≤ 8) (h : ∀ j, j < 2 ^ l.bs.length → 0 ≤ slackB l (amts l.fs) ((j : Nat) : Int)) : prf l = none := by
  refine prf_none_of fun s => ?_
  have e : slackB l (amts l.fs) s = slackB l (amts l.fs) ((enc (bitS s) l.bs.length : Nat) : Int) := by
    rw [slack_pr, slack_pr]
    exact Pr.slack_congr fun j hj => (enc_set (bitS s) hb j hj).symm
  rw [e]
  exact h _ (enc_lt _ _)
end Go.Proofs.Ytbbkeakbomngoaa
