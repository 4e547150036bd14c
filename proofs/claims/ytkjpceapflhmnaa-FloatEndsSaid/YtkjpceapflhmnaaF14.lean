/- Contracts of functions that the claim reaches: what each call gives, told in our own logic. Conditions: those of each theorem. -/
import Derived.Test.YtkjpceapflhmnaaF13
import Derived.Test.YtkjpceapflhmnaaF9c
set_option linter.all false
set_option linter.unusedSimpArgs false
set_option linter.unusedVariables false
namespace Go.Proofs.Ytkjpceapflhmnaa
open Go.Av
attribute [local irreducible] thenA blockA awp awpOps awpD awp1
set_option maxHeartbeats 8000000
set_option maxRecDepth 20000
/-! ### The plain law of bends -/
theorem out_mono {f : Fl} {r s : Int} (hw : 0 ≤ f.wid) (h0 : 0 ≤ r) (h : r ≤ s) : outR f r ≤ outR f s := by
  unfold outR
  have := Int.mul_le_mul (a := 2 * r + f.wid) (b := 2 * r + f.wid) (c := 2 * s + f.wid) (d := 2 * s + f.wid) (by omega) (by omega) (by omega) (by omega)
  omega
theorem bend_turns {f : Fl} {k a b : Int} (hf : FlOk f) (ha : 0 ≤ a) (hb : 0 ≤ b) : bendP f ⟨k, a, b⟩ ↔ ∃ r, f.turn ≤ r ∧ r ≤ b ∧ turnsP f ⟨k, a, b⟩ r := by
  have h1 := hf.wid; have h2 := hf.turn
  constructor
  · intro h
    unfold bendP at h
    dsimp only at h
    refine ⟨bR f ⟨k, a, b⟩, by unfold bR; omega, ?_, by unfold bR; omega, by unfold bR; dsimp only; omega, h⟩
    refine Int.not_lt.1 fun hlt => ?_
    obtain ⟨R, hR⟩ : ∃ R, R = bR f ⟨k, a, b⟩ := ⟨_, rfl⟩
    rw [← hR] at h hlt
    unfold outR at h
    have g1 := Int.mul_le_mul (a := 2 * b + 1) (b := 2 * b + 1) (c := 2 * R + f.wid) (d := 2 * R + f.wid) (by omega) (by omega) (by omega) (by omega)
    have g2 : (2 * b + 1) * (2 * b + 1) = 4 * b * b + 4 * b + 1 := by grind
    have g3 := (sq_bd (a := 2 * max f.rear (f.len - f.rear)) (A := 2 * max f.rear (f.len - f.rear)) (by have := hf.axles; omega)).1
    omega
  · rintro ⟨r, g1, g2, g3, g4, g5⟩
    dsimp only at g4 g5
    unfold bendP
    dsimp only
    refine Int.le_trans (out_mono (by omega) (by unfold bR; omega) ?_) g5
    unfold bR; dsimp only; omega
theorem bend_mono {f : Fl} {k a b a' b' : Int} (hf : FlOk f) (ha : 0 ≤ a') (haa : a' ≤ a) (hb : 0 ≤ b) (hbb : b ≤ b') (h : bendP f ⟨k, a, b⟩) : bendP f ⟨k, a', b'⟩ := by
  have h1 := hf.wid; have h2 := hf.turn
  unfold bendP at h ⊢
  dsimp only at h ⊢
  refine Int.le_trans (out_mono (s := bR f ⟨k, a, b⟩) (by omega) (by unfold bR; omega) (by unfold bR; dsimp only; omega)) (Int.le_trans h ?_)
  exact Int.mul_le_mul (by omega) hbb hb (by omega)
def bV (f : Fl) (a b : Int) : Int := if bendP f ⟨1, a, b⟩ then 1 else 2
theorem c19w (f : Fl) (n a b a' b' : Int) (hf : FlGood f n) (hn : n ≤ 20) (h1 : 0 ≤ a ∧ a < b ∧ b ≤ 20000) (h2 : 0 ≤ a' ∧ a' < b' ∧ b' ≤ 20000) :
    Pure Try.prog 19 [f.av, .lst 3 [[.int .i64 1, .int .i64 a, .int .i64 b], [.int .i64 1, .int .i64 a', .int .i64 b']]] (fun v => v = .tup [.lst 1 [[.int .i64 (bV f a b)], [.int .i64 (bV f a' b')]], .int .i64 0]) := by
  have h := c19 f [⟨1, a, b⟩, ⟨1, a', b'⟩]
  have hh : ∀ x y : Int, 0 ≤ x ∧ x < y ∧ y ≤ 20000 → hurdleE ⟨1, x, y⟩ = 0 := by
    intro x y hxy
    unfold hurdleE
    dsimp only
    rw [if_pos rfl, if_neg (by omega), if_neg (by omega)]
  have e : bothE f [⟨1, a, b⟩, ⟨1, a', b'⟩] = 0 := by
    unfold bothE
    rw [chkGood hf hn, if_neg (by omega)]
    unfold routeE
    rw [if_neg (by simp)]
    simp only [hurdlesE, hh a b h1, hh a' b' h2]
    rfl
  have e2 : passV f [⟨1, a, b⟩, ⟨1, a', b'⟩] = .tup [.lst 1 [[.int .i64 (bV f a b)], [.int .i64 (bV f a' b')]], .int .i64 0] := by
    unfold passV
    rw [if_neg (by omega)]
    rfl
  rw [e2] at h; exact h
theorem c20w (f : Fl) (k a b r : Int) (hf : FlOk f) (ha : 0 ≤ a ∧ a ≤ 20000) (hb : 0 ≤ b ∧ b ≤ 20000) (hr : 0 ≤ r ∧ r ≤ 50000) : Pure Try.prog 20 [f.av, .agg [.int .i64 k, .int .i64 a, .int .i64 b], .int .i64 r] (fun v => v = .bool (decide (turnsP f ⟨k, a, b⟩ r))) :=
  c20 f ⟨k, a, b⟩ r hf ha hb hr
end Go.Proofs.Ytkjpceapflhmnaa
