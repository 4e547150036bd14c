/- Contracts of functions that the claim reaches: what each call gives, told in our own logic. Conditions: those of each theorem. -/
import Derived.Test.YtbbkeakbomngoaaP10
import Derived.Test.YtbbkeakbomngoaaG34
set_option linter.all false
set_option linter.unusedSimpArgs false
set_option linter.unusedVariables false
namespace Go.Proofs.Ytbbkeakbomngoaa
open Go.Av
attribute [local irreducible] thenA blockA awp awpOps awpD awp1
set_option maxHeartbeats 8000000
set_option maxRecDepth 20000
/-! ### What is spent: all traces are looked at -/
def lelT (l : List (List (List Int))) (i : Nat) : List (List Int) := l.getD i []
theorem rowT_getD {l : List (List (List Int))} {i : Nat} (h : i < l.length) : (l.map rowT).getD i [] = [.lst 1 ((lelT l i).map rowA)] := by
  rw [List.getD_eq_getElem?_getD, List.getElem?_map]
  simp [lelT, rowT, List.getD_eq_getElem?_getD, h]
theorem allL_len {l : Lg} (hC : ∀ i, i < l.bs.length → (bl l.bs i).amt ≤ (4 : Nat)) (hf : l.fs.length ≤ 3) (hb : l.bs.length ≤ 3) : (allL l).length ≤ 200000000000 := by
  have hn : nextA l 0 ≤ (4 : Nat) := by
    unfold nextA
    split
    · exact hC _ (by assumption)
    · decide
  have h1 := trN_len (l := l) (C := 4) hC (allK l) [] [] (amtL l) (nextA l 0) hn
  have h3 : l.bs.length * (l.fs.length + 1) ≤ 3 * 4 := Nat.mul_le_mul hb (by omega)
  have hK : allK l ≤ 16 := by unfold allK; omega
  have h2 : (4 + 1) ^ allK l ≤ 5 ^ 16 := Nat.pow_le_pow_right (by omega) hK
  have h4 : 5 ^ 16 ≤ 200000000000 := by decide
  exact Nat.le_trans h1 (Nat.le_trans h2 h4)
end Go.Proofs.Ytbbkeakbomngoaa
