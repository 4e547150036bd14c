/- Contracts of functions that the claim reaches: what each call gives, told in our own logic. Conditions: those of each theorem. -/
import Derived.Test.YthjbfdfhblloiaaW3
set_option linter.all false
set_option linter.unusedSimpArgs false
set_option linter.unusedVariables false
namespace Go.Proofs.Ythjbfdfhblloiaa
open Go.Av
set_option maxRecDepth 20000
/-! ### Where a group may be and must be, plain -/
theorem someB_iff {t : Tw} {s : Nat → Int} {g : Gp} {q st : Int} : someB t s g q st = true ↔ ∃ c, g.alo ≤ c ∧ c ≤ g.ahi ∧ plc t s g c st = q := by
  unfold someB
  rw [List.any_eq_true]
  constructor
  · rintro ⟨i, hi, h⟩
    have := List.mem_range.1 hi
    exact ⟨g.alo + i, by omega, by omega, of_decide_eq_true h⟩
  · rintro ⟨c, h1, h2, h3⟩
    exact ⟨(c - g.alo).toNat, List.mem_range.2 (by omega), decide_eq_true (by rw [show g.alo + (((c - g.alo).toNat : Nat) : Int) = c by omega]; exact h3)⟩
theorem allB_iff {t : Tw} {s : Nat → Int} {g : Gp} {q st : Int} : allB t s g q st = true ↔ ∀ c, g.alo ≤ c → c ≤ g.ahi → plc t s g c st = q := by
  unfold allB
  rw [List.all_eq_true]
  constructor
  · intro h c h1 h2
    have := of_decide_eq_true (h (c - g.alo).toNat (List.mem_range.2 (by omega)))
    rw [show g.alo + (((c - g.alo).toNat : Nat) : Int) = c by omega] at this
    exact this
  · intro h i hi
    have := List.mem_range.1 hi
    exact decide_eq_true (h _ (by omega) (by omega))
theorem sumF_le {F G : Nat → Int} : ∀ {n : Nat}, (∀ i, i < n → F i ≤ G i) → sumF F n ≤ sumF G n
  | 0, _ => Int.le_refl _
  | n + 1, h => by
    have h1 := sumF_le (n := n) fun i hi => h i (by omega)
    have h2 := h n (by omega)
    show sumF F n + F n ≤ sumF G n + G n
    omega
end Go.Proofs.Ythjbfdfhblloiaa
