/- Contracts of functions that the claim reaches: what each call gives, told in our own logic. Conditions: those of each theorem. -/
import Derived.Test.YthjbfdfhblloiaaBaseC
import Derived.Test.YthjbfdfhblloiaaQ33
set_option linter.all false
set_option linter.unusedSimpArgs false
set_option linter.unusedVariables false
namespace Go.Proofs.Ythjbfdfhblloiaa
open Go.Av
attribute [local irreducible] thenA blockA awp awpOps awpD awp1
set_option maxHeartbeats 8000000
set_option maxRecDepth 20000
theorem closeV_some {t : Tw} (h0 : chkE t = 0) {A : List Int} (hc : clo t t.sts.length = some A) : closeV t = .tup [.lst 1 (A.map iv), .int .i64 0] := by
  unfold closeV; rw [if_neg (fun e => e h0), hc]
theorem closeV_none {t : Tw} (h0 : chkE t = 0) (hc : clo t t.sts.length = none) : closeV t = .tup [.lst 1 [], .int .i64 7] := by
  unfold closeV; rw [if_neg (fun e => e h0), hc]
theorem close_two {t : Tw} (h0 : chkE t = 0) : ∃ (A : List Int) (e5 : Int), Pure Try.prog 36 [t.av] (fun v => v = .tup [.lst 1 (A.map iv), .int .i64 e5]) ∧ ((e5 = 0 ∧ clo t t.sts.length = some A) ∨ (e5 = 7 ∧ A = [] ∧ clo t t.sts.length = none)) := by
  have k := c36 t
  cases hc : clo t t.sts.length with
  | some A => rw [closeV_some h0 hc] at k; exact ⟨A, 0, k, .inl ⟨rfl, rfl⟩⟩
  | none => rw [closeV_none h0 hc] at k; exact ⟨[], 7, k, .inr ⟨rfl, rfl, rfl⟩⟩
end Go.Proofs.Ythjbfdfhblloiaa
