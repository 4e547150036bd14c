/- Contracts of functions that the claim reaches: what each call gives, told in our own logic. Conditions: those of each theorem. -/
import Derived.Test.YtkjpceapflhmnaaF54
set_option linter.all false
set_option linter.unusedSimpArgs false
set_option linter.unusedVariables false
namespace Go.Proofs.Ytkjpceapflhmnaa
open Go.Av
attribute [local irreducible] thenA blockA awp awpOps awpD awp1
set_option maxHeartbeats 8000000
set_option maxRecDepth 20000
theorem nr_getD {L : List (Nat × Nat)} {i : Nat} (h : i < L.length) : (L.map nr).getD i [] = [.int .i64 ((L.getD i (0, 0)).1 : Nat), .int .i64 ((L.getD i (0, 0)).2 : Nat)] := by
  simp [List.getD_eq_getElem?_getD, h, nr]
theorem fireL_len (f : Fl) (ap : Int) : (fireL f ap).length ≤ 1000 := by
  unfold fireL
  split
  · rename_i h
    have h0 : chkE f = 0 := by unfold fireE at h; split at h <;> omega
    have hl := (chkOk h0).loads.1
    have := nearUp_len (ap := ap) hl f.loads.length
    omega
  · simp
end Go.Proofs.Ytkjpceapflhmnaa
