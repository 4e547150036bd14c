/- Contracts of functions that the claim reaches: what each call gives, told in our own logic. Conditions: those of each theorem. -/
import Derived.Test.YtbbkeakbomngoaaG33
import Derived.Test.YtbbkeakbomngoaaGW
import Derived.Test.YtbbkeakbomngoaaGU
import Derived.Test.YtbbkeakbomngoaaGS
set_option linter.all false
set_option linter.unusedSimpArgs false
set_option linter.unusedVariables false
namespace Go.Proofs.Ytbbkeakbomngoaa
open Go.Av
attribute [local irreducible] thenA blockA awp awpOps awpD awp1
set_option maxHeartbeats 8000000
set_option maxRecDepth 20000
/-! ### Answers in one form -/
theorem Pure.weak {f : FuncId} {args : List AV} {R R' : AV → Prop} (H : Pure Try.prog f args R) (hr : ∀ v, R v → ∃ v', VLe v v' ∧ R' v') : Pure Try.prog f args R' := fun h =>
  (H h).weak fun v h' ⟨h1, h2⟩ => by
    obtain ⟨v', h3, h4⟩ := hr v h2
    exact ⟨v', h3, h1, h4⟩
def spLo (l : Lg) (k : Int) : Int := if chkE l ≠ 0 then 0 else if ¬ (0 ≤ k ∧ k < l.fs.length) then 0 else if prf l ≠ none then 0 else loN l k.toNat (2 ^ l.bs.length)
def spHi (l : Lg) (k : Int) : Int := if chkE l ≠ 0 then 0 else if ¬ (0 ≤ k ∧ k < l.fs.length) then 0 else if prf l ≠ none then 0 else min (fd l.fs k.toNat).amt (sumF (spF l k.toNat) l.bs.length)
def spE (l : Lg) (k : Int) : Int := if chkE l ≠ 0 then chkE l else if ¬ (0 ≤ k ∧ k < l.fs.length) then 7 else if prf l ≠ none then 4 else 0
theorem spnR_eq {l : Lg} {k : Int} {v : AV} (h : spnR l k v) : v = .tup [.agg [.int .i64 (spLo l k), .int .i64 (spHi l k)], .int .i64 (spE l k)] := by
  unfold spnR at h
  unfold spLo spHi spE
  by_cases h0 : chkE l ≠ 0
  · simp only [if_pos h0] at h ⊢; exact h
  · simp only [if_neg h0] at h ⊢
    by_cases h1 : ¬ (0 ≤ k ∧ k < l.fs.length)
    · simp only [if_pos h1] at h ⊢; exact h
    · simp only [if_neg h1] at h ⊢
      by_cases h2 : prf l ≠ none
      · simp only [if_pos h2] at h ⊢; exact h
      · simp only [if_neg h2] at h ⊢; exact h
theorem c25v (l : Lg) (k : Int) (hkb : -9223372036854775808 ≤ k ∧ k ≤ 9223372036854775807) : Pure Try.prog 25 [l.av, .int .i64 k] (fun v => v = .tup [.agg [.int .i64 (spLo l k), .int .i64 (spHi l k)], .int .i64 (spE l k)]) := Pure.weak (c25 l k hkb) fun v h => ⟨v, .refl _, spnR_eq h⟩
/-! ### Ledgers that are not long -/
end Go.Proofs.Ytbbkeakbomngoaa
