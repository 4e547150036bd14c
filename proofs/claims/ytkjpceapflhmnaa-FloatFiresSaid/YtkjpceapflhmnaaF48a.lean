/- Contracts of functions that the claim reaches: what each call gives, told in our own logic. Conditions: those of each theorem. -/
import Derived.Test.YtkjpceapflhmnaaF27
set_option linter.all false
set_option linter.unusedSimpArgs false
set_option linter.unusedVariables false
namespace Go.Proofs.Ytkjpceapflhmnaa
open Go.Av
attribute [local irreducible] thenA blockA awp awpOps awpD awp1
set_option maxHeartbeats 8000000
set_option maxRecDepth 20000
def fl0 : Fl := ⟨0, 0, 0, 0, 0, 0, 0, 0, []⟩
def gl (fs : List Fl) (i : Nat) : Fl := fs.getD i fl0
theorem gl_getD {fs : List Fl} {i : Nat} (h : i < fs.length) : (fs.map flc).getD i [] = [.int .i64 (gl fs i).len, .int .i64 (gl fs i).wid, .int .i64 (gl fs i).front, .int .i64 (gl fs i).rear, .int .i64 (gl fs i).turn, .int .i64 (gl fs i).kilos, .int .i64 (gl fs i).mid, .int .i64 (gl fs i).high, .lst 7 ((gl fs i).loads.map Ld.row)] := by
  simp [gl, List.getD_eq_getElem?_getD, h, flc]
theorem gl_mem {fs : List Fl} {i : Nat} (h : i < fs.length) : gl fs i ∈ fs := by
  unfold gl; rw [List.getD_eq_getElem?_getD, List.getElem?_eq_getElem h]; exact List.getElem_mem h
end Go.Proofs.Ytkjpceapflhmnaa
