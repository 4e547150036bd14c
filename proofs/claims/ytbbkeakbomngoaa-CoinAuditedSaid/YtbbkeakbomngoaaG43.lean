/- Contracts of functions that the claim reaches: what each call gives, told in our own logic. Conditions: those of each theorem. -/
import Derived.Test.YtbbkeakbomngoaaP10
import Derived.Test.YtbbkeakbomngoaaG34
set_option linter.all false
set_option linter.unusedSimpArgs false
set_option linter.unusedVariables false
namespace Go.Proofs.Ytbbkeakbomngoaa
open Go.Av
attribute [local irreducible] thenA blockA awp awpOps awpD awp1
set_option maxHeartbeats 8000000
set_option maxRecDepth 20000
/-! ### What is spent: all traces are looked at -/
def lelT (l : List (List (List Int))) (i : Nat) : List (List Int) := l.getD i []
theorem rowT_getD {l : List (List (List Int))} {i : Nat} (h : i < l.length) : (l.map rowT).getD i [] = [.lst 1 ((lelT l i).map rowA)] := by
  rw [List.getD_eq_getElem?_getD, List.getElem?_map]
  simp [lelT, rowT, List.getD_eq_getElem?_getD, h]
theorem lelT_mem {l : List (List (List Int))} {i : Nat} (h : i < l.length) : lelT l i ∈ l := by
  unfold lelT; rw [List.getD_eq_getElem?_getD, List.getElem?_eq_getElem h]; exact List.getElem_mem _
end Go.Proofs.Ytbbkeakbomngoaa
