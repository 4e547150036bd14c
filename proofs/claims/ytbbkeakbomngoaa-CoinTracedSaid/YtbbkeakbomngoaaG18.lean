/- Contracts of functions that the claim reaches: what each call gives, told in our own logic. Conditions: those of each theorem. -/
import Derived.Test.YtbbkeakbomngoaaG11
import Derived.Test.YtbbkeakbomngoaaG17
set_option linter.all false
set_option linter.unusedSimpArgs false
set_option linter.unusedVariables false
namespace Go.Proofs.Ytbbkeakbomngoaa
open Go.Av
attribute [local irreducible] thenA blockA awp awpOps awpD awp1
set_option maxHeartbeats 8000000
set_option maxRecDepth 20000
/-! ### Balances -/
/-! ### No balance is below 0 -/
theorem c21ok {l : Lg} (h0 : chkE l = 0) (hp : prf l = none) : Pure Try.prog 21 [l.av] (fun v => v = .tup [.lst 1 ((traceL l).map rowA), .int .i64 0]) := by
  have e : trcR l = fun v => v = .tup [.lst 1 ((traceL l).map rowA), .int .i64 0] := by
    funext v; unfold trcR; rw [if_neg (by omega), if_neg (by rw [hp]; simp)]
  have h := c21 l
  rw [e] at h; exact h
theorem c21no {l : Lg} (h0 : chkE l = 0) (hp : prf l ≠ none) : Pure Try.prog 21 [l.av] (fun v => v = .tup [.nils, .int .i64 4]) := by
  have e : trcR l = fun v => v = .tup [.nils, .int .i64 4] := by
    funext v; unfold trcR; rw [if_neg (by omega), if_pos hp]
  have h := c21 l
  rw [e] at h; exact h
end Go.Proofs.Ytbbkeakbomngoaa
