/- Contracts of functions that the claim reaches: what each call gives, told in our own logic. Conditions: those of each theorem. -/
import Derived.Test.YthjbfdfhblloiaaQ36
set_option linter.all false
set_option linter.unusedSimpArgs false
set_option linter.unusedVariables false
namespace Go.Proofs.Ythjbfdfhblloiaa
open Go.Av
attribute [local irreducible] thenA blockA awp awpOps awpD awp1
set_option maxHeartbeats 8000000
set_option maxRecDepth 20000
def bl (R : Nat) (f : Nat → Bool) : List (List AV) := (List.range R).map fun q => [.bool (f q)]
@[go_sem] theorem bl_len (R : Nat) (f : Nat → Bool) : (bl R f).length = R := by simp [bl]
@[go_sem] theorem bl_take (R : Nat) (f : Nat → Bool) : List.take R (bl R f) = bl R f := List.take_of_length_le (by rw [bl_len]; exact Nat.le_refl _)
def nx (t : Tw) (c : List Int) (frm : Int) (n a q : Nat) : Bool := lvl t c frm n (q : Nat) || (List.range a).any fun p => lvl t c frm n (p : Nat) && adjB t c (p : Nat) (q : Nat)
end Go.Proofs.Ythjbfdfhblloiaa
