/- Contracts of functions that the claim reaches: what each call gives, told in our own logic. Conditions: those of each theorem. -/
import Derived.Test.YthjbfdfhblloiaaQ32
import Derived.Test.YthjbfdfhblloiaaQ31
import Derived.Test.YthjbfdfhblloiaaQ29
set_option linter.all false
set_option linter.unusedSimpArgs false
set_option linter.unusedVariables false
namespace Go.Proofs.Ythjbfdfhblloiaa
open Go.Av
attribute [local irreducible] thenA blockA awp awpOps awpD awp1
set_option maxHeartbeats 8000000
set_option maxRecDepth 20000
/-! ### CrowdFewest -/
theorem chs_ok {t : Tw} {n : Nat} : ∀ (m a : Nat) (x : List Int), x ∈ chs n m a → x.length = m ∧ (∀ i, i < x.length → (a : Int) ≤ elt x i ∧ elt x i < n) ∧ ∀ i, 0 < i → i < x.length → elt x (i - 1) < elt x i
  | 0, a, x, hx => by
    have : x = [] := by simpa [chs] using hx
    subst this
    exact ⟨rfl, fun i hi => absurd hi (Nat.not_lt_zero _), fun i _ hi => absurd hi (Nat.not_lt_zero _)⟩
  | m + 1, a, x, hx => by
    have key : ∀ k, a + k ≤ n ∨ k = 0 → x ∈ catK (chG n m) a k → ∃ j y, a ≤ j ∧ j < n ∧ x = ((j : Nat) : Int) :: y ∧ y ∈ chs n m (j + 1) := by
      intro k
      induction k with
      | zero => intro _ h; cases h
      | succ k ih =>
        intro hk h
        rcases List.mem_append.1 (show x ∈ catK (chG n m) a k ++ chG n m (a + k) from h) with h | h
        · exact ih (by omega) h
        · unfold chG at h
          obtain ⟨y, hy, rfl⟩ := List.mem_map.1 h
          exact ⟨a + k, y, by omega, by omega, rfl, hy⟩
    obtain ⟨j, y, h1, h2, rfl, h3⟩ := key (n - a) (by omega) hx
    obtain ⟨q1, q2, q3⟩ := chs_ok (t := t) m (j + 1) y h3
    have e0 : elt (((j : Nat) : Int) :: y) 0 = j := rfl
    have es : ∀ i, elt (((j : Nat) : Int) :: y) (i + 1) = elt y i := fun i => rfl
    refine ⟨by simp [q1], fun i hi => ?_, fun i h0 hi => ?_⟩
    · cases i with
      | zero => rw [e0]; omega
      | succ i => rw [es]; have := q2 i (by simpa using hi); omega
    · obtain ⟨i, rfl⟩ : ∃ i', i = i' + 1 := ⟨i - 1, by omega⟩
      rw [Nat.add_sub_cancel, es]
      cases i with
      | zero => rw [e0]; have := q2 0 (by simpa using hi); omega
      | succ i => rw [es]; have := q3 (i + 1) (by omega) (by simpa using hi); simpa using this
end Go.Proofs.Ythjbfdfhblloiaa
