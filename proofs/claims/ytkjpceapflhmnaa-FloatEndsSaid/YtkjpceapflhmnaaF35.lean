/- Contracts of functions that the claim reaches: what each call gives, told in our own logic. Conditions: those of each theorem. -/
import Derived.Test.YtkjpceapflhmnaaF36
set_option linter.all false
set_option linter.unusedSimpArgs false
set_option linter.unusedVariables false
namespace Go.Proofs.Ytkjpceapflhmnaa
open Go.Av
attribute [local irreducible] thenA blockA awp awpOps awpD awp1
set_option maxHeartbeats 8000000
set_option maxRecDepth 20000
@[go_sem] theorem Fl.own_eq (f : Fl) (bb : Nat × Nat) (n : Nat) : f.own bb n = .agg [.int .i64 f.len, .int .i64 f.wid, .int .i64 f.front, .int .i64 f.rear, .int .i64 f.turn, .int .i64 f.kilos, .int .i64 f.mid, .int .i64 f.high, .slc bb 7 0 n] := rfl
theorem c38g (f : Fl) (h0 : chkE f = 0) : Pure Try.prog 38 [f.av] (fun v => v = .tup [.agg [.int .i64 (downI (wL (frontA f) f 0 0) (f.rear - f.front)), .int .i64 (upI (wH (frontA f) f 0 0) (f.rear - f.front))],
    .agg [.int .i64 (downI (wL (rearA f) f 0 0) (f.rear - f.front)), .int .i64 (upI (wH (rearA f) f 0 0) (f.rear - f.front))], .int .i64 0]) := by
  have h := c38 f
  unfold axV at h
  rw [if_neg (by omega)] at h; exact h
/-- What the loop that narrows keeps. -/
structure NS where
  i : Nat
  x : Int
  t : Nat
  ys : List Ld
def NS.hp (h : AH) (b bb : Nat × Nat) (a : NS) : AH := ((h.tick a.t).put b (dr a.x)).put bb (some ⟨7, a.ys.map Ld.row⟩)
theorem ld_setR {l : List Ld} {j : Nat} (a lo hi tlo thi k w : Int) : (l.map Ld.row).set j [.int .i64 a, .int .i64 lo, .int .i64 hi, .int .i64 tlo, .int .i64 thi, .int .i64 k, .int .i64 w] = (l.set j ⟨a, lo, hi, tlo, thi, k, w⟩).map Ld.row := by rw [List.map_set]; rfl
theorem ld_setS {l : List Ld} {j : Nat} {z : Ld} (h : j < l.length) : ((l.set j z).map Ld.row).getD j [] = z.row := by
  rw [lrow_getD (by simpa using h)]
  congr 1
  unfold ld
  simp [List.getD_eq_getElem?_getD, h]
theorem ld_set_eq {l : List Ld} {j : Nat} {z : Ld} (h : j < l.length) : ld (l.set j z) j = z := by
  unfold ld; simp [List.getD_eq_getElem?_getD, h]
theorem ld_set_ne {l : List Ld} {i j : Nat} {z : Ld} (h : ¬ j = i) : ld (l.set i z) j = ld l j := by
  unfold ld; simp only [List.getD_eq_getElem?_getD]; rw [List.getElem?_set_ne (fun e => h e.symm)]
theorem set_setL {α : Type} (l : List α) (i : Nat) (x y : α) : (l.set i x).set i y = l.set i y := List.set_set ..
theorem hold6 {h : AH} {m : Nat} {b bb : Nat × Nat} {d d' k k' : Option Blk} (hbb : ¬ bb = b) : HOld (((h.tick m).put b d').put bb k') (((((h.tick m).put b d).put bb k).put b d').put bb k') := by
  refine ⟨fun z k2 hz => ?_, fun _ _ e => e, Nat.le_refl _⟩
  simp only [AH.put, upd_apply, AH.tick] at hz ⊢
  by_cases e : z = bb
  · simpa [e] using hz
  · by_cases e2 : z = b
    · simpa [e, e2] using hz
    · simpa [e, e2] using hz
end Go.Proofs.Ytkjpceapflhmnaa
