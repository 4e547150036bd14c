/- Contracts of functions that the claim reaches: what each call gives, told in our own logic. Conditions: those of each theorem. -/
import Derived.Test.YtbbkeakbomngoaaGR
import Derived.Test.YtbbkeakbomngoaaG17
set_option linter.all false
set_option linter.unusedSimpArgs false
set_option linter.unusedVariables false
namespace Go.Proofs.Ytbbkeakbomngoaa
open Go.Av
set_option maxRecDepth 20000
/-! ### More money, fewer bills: plain -/
theorem prf_none_of {l : Lg} (h : ∀ s, 0 ≤ slackB l (amts l.fs) s) : prf l = none := by
  unfold prf
  refine List.find?_eq_none.2 fun s _ => ?_
  have := h s
  simp only [shortB, decide_eq_true_eq]
  omega
structure More (x y : Fd) : Prop where
  day : 0 ≤ y.day ∧ y.day ≤ x.day
  till : x.till ≤ y.till ∧ y.till ≤ 3650
  amt : x.amt ≤ y.amt ∧ y.amt ≤ x.amt + 9
  uses : y.uses = x.uses ∨ y.uses = [0, 1, 2, 7]
theorem all_nn {l : Lg} (hl : LgOk l) (hp : prf l = none) (s : Int) : 0 ≤ slackB l (amts l.fs) s := by
  rw [slack_pr]; exact slack_nn hl hp _
end Go.Proofs.Ytbbkeakbomngoaa
