/- Contracts of functions that the claim reaches: what each call gives, told in our own logic. Conditions: those of each theorem. -/
import Derived.Test.YtbbkeakbomngoaaG9
import Derived.Test.YtbbkeakbomngoaaG11
import Derived.Test.YtbbkeakbomngoaaP2
set_option linter.all false
set_option linter.unusedSimpArgs false
set_option linter.unusedVariables false
namespace Go.Proofs.Ytbbkeakbomngoaa
open Go.Av
set_option maxRecDepth 20000
/-! ### The first set that is short, as a list -/
def bitsS (l : List Int) : Nat → Int
  | 0 => 0
  | i + 1 => bitsS l i + shl .i64 1 (elt l i)
def bitsT (l : List Int) : Int := bitsS l l.length
def catK (g : Nat → List (List Int)) (a : Nat) : Nat → List (List Int)
  | 0 => []
  | k + 1 => catK g a k ++ (g (a + k + 1)).map (((a + k : Nat) : Int) :: ·)
def setsF (n : Nat) : Nat → Nat → List (List Int)
  | 0, _ => [[]]
  | m + 1, a => catK (setsF n m) a (n - a)
def noLg : Lg := ⟨[], []⟩
theorem bitsL_any (l l' : Lg) (s : Int) : ∀ i, bitsL l s i = bitsL l' s i
  | 0 => rfl
  | i + 1 => by unfold bitsL; rw [bitsL_any l l' s i]
def setOkB (B m : Nat) (r : List Int) : Bool := decide (r.length = m) && (decide (bitsL noLg (bitsT r) B = r) && (List.range m).all fun i => decide (0 ≤ elt r i ∧ elt r i < B ∧ (0 < i → elt r (i - 1) < elt r i)))
theorem sets_walk : ∀ B, B < 9 → ∀ m, m < 9 → (setsF B m 0).map bitsT = walkL B m 0 0 := by decide +kernel
theorem sets_okB : ∀ B, B < 9 → ∀ m, m < 9 → (setsF B m 0).all (setOkB B m) = true := by decide +kernel
theorem sets_many : ∀ B, B < 9 → ∀ m, m < 9 → ∀ a, a < 10 → (setsF B m a).length ≤ 256 := by decide +kernel
structure SetOk (B m : Nat) (r : List Int) : Prop where
  len : r.length = m
  bits : ∀ l : Lg, bitsL l (bitsT r) B = r
  rng : ∀ i, i < m → 0 ≤ elt r i ∧ elt r i < B
  up : ∀ i, i < m → 0 < i → elt r (i - 1) < elt r i
theorem sets_ok {B m : Nat} (hB : B ≤ 8) (hm : m ≤ 8) {r : List Int} (hr : r ∈ setsF B m 0) : SetOk B m r := by
  have h := List.all_eq_true.1 (sets_okB B (by omega) m (by omega)) r hr
  unfold setOkB at h
  simp only [Bool.and_eq_true, decide_eq_true_eq, List.all_eq_true, List.mem_range] at h
  obtain ⟨h1, h2, h3⟩ := h
  exact ⟨h1, fun l => by rw [bitsL_any l noLg]; exact h2, fun i hi => ⟨(h3 i hi).1, (h3 i hi).2.1⟩, fun i hi => (h3 i hi).2.2⟩
theorem setsL_eq {l : Lg} (hB : l.bs.length ≤ 8) {m : Nat} (hm : m ≤ 8) : setsL l m = (setsF l.bs.length m 0).map bitsT := (sets_walk _ (by omega) m (by omega)).symm
end Go.Proofs.Ytbbkeakbomngoaa
