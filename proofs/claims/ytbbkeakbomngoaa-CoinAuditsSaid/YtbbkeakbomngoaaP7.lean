/- Contracts of functions that the claim reaches: what each call gives, told in our own logic. Conditions: those of each theorem. -/
import Derived.Test.YtbbkeakbomngoaaP3
import Derived.Test.YtbbkeakbomngoaaP5
import Derived.Test.YtbbkeakbomngoaaG11
set_option linter.all false
set_option linter.unusedSimpArgs false
set_option linter.unusedVariables false
namespace Go.Proofs.Ytbbkeakbomngoaa
open Go.Av
set_option maxRecDepth 20000
/-! ### All traces, in lexicographic order: what the recursion computes -/
def catN {α : Type} (g : Nat → List α) : Nat → List α
  | 0 => []
  | k + 1 => catN g k ++ g k
def mostI (l : Lg) (i f : Nat) (left : List Int) (need : Int) : Int := if payB (fd l.fs f) (bl l.bs i) then min need (elt left f) else 0
def nextA (l : Lg) (i : Nat) : Int := if i < l.bs.length then (bl l.bs i).amt else 0
theorem catN_len {α : Type} {g : Nat → List α} {B : Nat} : ∀ k, (∀ n, n < k → (g n).length ≤ B) → (catN g k).length ≤ k * B
  | 0, _ => Nat.zero_le _
  | k + 1, h => by
    have h1 := catN_len (g := g) (B := B) k (fun n hn => h n (by omega))
    have h2 := h k (by omega)
    show (catN g k ++ g k).length ≤ _
    rw [List.length_append, Nat.succ_mul]
    omega
end Go.Proofs.Ytbbkeakbomngoaa
