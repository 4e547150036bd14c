/- Contracts of functions that the claim reaches: what each call gives, told in our own logic. Conditions: those of each theorem. -/
import Derived.Test.YtkjpceapflhmnaaF13
import Derived.Test.YtkjpceapflhmnaaF9c
set_option linter.all false
set_option linter.unusedSimpArgs false
set_option linter.unusedVariables false
namespace Go.Proofs.Ytkjpceapflhmnaa
open Go.Av
attribute [local irreducible] thenA blockA awp awpOps awpD awp1
set_option maxHeartbeats 8000000
set_option maxRecDepth 20000
/-! ### The plain law of bends -/
theorem out_mono {f : Fl} {r s : Int} (hw : 0 ≤ f.wid) (h0 : 0 ≤ r) (h : r ≤ s) : outR f r ≤ outR f s := by
  unfold outR
  have := Int.mul_le_mul (a := 2 * r + f.wid) (b := 2 * r + f.wid) (c := 2 * s + f.wid) (d := 2 * s + f.wid) (by omega) (by omega) (by omega) (by omega)
  omega
theorem bend_turns {f : Fl} {k a b : Int} (hf : FlOk f) (ha : 0 ≤ a) (hb : 0 ≤ b) : bendP f ⟨k, a, b⟩ ↔ ∃ r, f.turn ≤ r ∧ r ≤ b ∧ turnsP f ⟨k, a, b⟩ r := by
  have h1 := hf.wid; have h2 := hf.turn
  constructor
  · intro h
    unfold bendP at h
    dsimp only at h
    refine ⟨bR f ⟨k, a, b⟩, by unfold bR; omega, ?_, by unfold bR; omega, by unfold bR; dsimp only; omega, h⟩
    refine Int.not_lt.1 fun hlt => ?_
    obtain ⟨R, hR⟩ : ∃ R, R = bR f ⟨k, a, b⟩ := ⟨_, rfl⟩
    rw [← hR] at h hlt
    unfold outR at h
    have g1 := Int.mul_le_mul (a := 2 * b + 1) (b := 2 * b + 1) (c := 2 * R + f.wid) (d := 2 * R + f.wid) (by omega) (by omega) (by omega) (by omega)
    have g2 : (2 * b + 1) * (2 * b + 1) = 4 * b * b + 4 * b + 1 := by grind
    have g3 := (sq_bd (a := 2 * max f.rear (f.len - f.rear)) (A := 2 * max f.rear (f.len - f.rear)) (by have := hf.axles; omega)).1
    omega
  · rintro ⟨r, g1, g2, g3, g4, g5⟩
    dsimp only at g4 g5
    unfold bendP
    dsimp only
    refine Int.le_trans (out_mono (by omega) (by unfold bR; omega) ?_) g5
    unfold bR; dsimp only; omega
theorem bend_mono {f : Fl} {k a b a' b' : Int} (hf : FlOk f) (ha : 0 ≤ a') (haa : a' ≤ a) (hb : 0 ≤ b) (hbb : b ≤ b') (h : bendP f ⟨k, a, b⟩) : bendP f ⟨k, a', b'⟩ := by
  have h1 := hf.wid; have h2 := hf.turn
  unfold bendP at h ⊢
  dsimp only at h ⊢
  refine Int.le_trans (out_mono (s := bR f ⟨k, a, b⟩) (by omega) (by unfold bR; omega) (by unfold bR; dsimp only; omega)) (Int.le_trans h ?_)
  exact Int.mul_le_mul (by omega) hbb hb (by omega)
def bV (f : Fl) (a b : Int) : Int := if bendP f ⟨1, a, b⟩ then 1 else 2
theorem c19w (f : Fl) (n a b a' b' : Int) (hf : FlGood f n) (hn : n ≤ 20) (h1 : 0 ≤ a ∧ a < b ∧ b ≤ 20000) (h2 : 0 ≤ a' ∧ a' < b' ∧ b' ≤ 20000) :
    Pure Try.prog 19 [f.av, .lst 3 [[.int .i64 1, .int .i64 a, .int .i64 b], [.int .i64 1, .int .i64 a', .int .i64 b']]] (fun v => v = .tup [.lst 1 [[.int .i64 (bV f a b)], [.int .i64 (bV f a' b')]], .int .i64 0]) := by
  have h := c19 f [⟨1, a, b⟩, ⟨1, a', b'⟩]
  have hh : ∀ x y : Int, 0 ≤ x ∧ x < y ∧ y ≤ 20000 → hurdleE ⟨1, x, y⟩ = 0 := by
    intro x y hxy
    unfold hurdleE
    dsimp only
    rw [if_pos rfl, if_neg (by omega), if_neg (by omega)]
  have e : bothE f [⟨1, a, b⟩, ⟨1, a', b'⟩] = 0 := by
    unfold bothE
    rw [chkGood hf hn, if_neg (by omega)]
    unfold routeE
    rw [if_neg (by simp)]
    simp only [hurdlesE, hh a b h1, hh a' b' h2]
    rfl
  have e2 : passV f [⟨1, a, b⟩, ⟨1, a', b'⟩] = .tup [.lst 1 [[.int .i64 (bV f a b)], [.int .i64 (bV f a' b')]], .int .i64 0] := by
    unfold passV
    rw [if_neg (by omega)]
    rfl
  rw [e2] at h; exact h
theorem c20w (f : Fl) (k a b r : Int) (hf : FlOk f) (ha : 0 ≤ a ∧ a ≤ 20000) (hb : 0 ≤ b ∧ b ≤ 20000) (hr : 0 ≤ r ∧ r ≤ 50000) : Pure Try.prog 20 [f.av, .agg [.int .i64 k, .int .i64 a, .int .i64 b], .int .i64 r] (fun v => v = .bool (decide (turnsP f ⟨k, a, b⟩ r))) :=
  c20 f ⟨k, a, b⟩ r hf ha hb hr
theorem law3 (l : List Int) (hl : (l.length : Int) ≤ 9223372036854775807) (h : AH) : ACalls Try.prog 3 [.lst 1 (l.map iv)] h (fun v _ => v = .bool true) := by
  refine ACalls.of tab mixed Try.call3 Try.func3 rfl (fi := ⟨98, [4, 5, 6], [18, 25, 43], none, [(4, [0, 1, 0, 0, 0, 24, 60, 127, 255, 511], [(0, false), (1, true), (2, false), (3, false), (4, false), (5, false), (6, false), (7, false), (8, false), (9, false)]), (5, [0, 0, 2, 7, 0, 0, 32, 127, 255, 0, 1023], [(0, false), (1, false), (2, true), (4, false), (5, false), (6, true), (9, false), (3, false), (7, false), (8, false), (10, false)])]⟩) rfl rfl (Nat.le_of_ble_eq_true rfl) (by decide) ?_
  unfold startA
  repeat' (first
      | refine st_seq_reg rfl (by first | (simp only [go_sem]; rfl) | rfl) (by first | (simp only [go_sem]; rfl) | rfl) ?_
      | refine st_reg rfl (by first | (simp only [go_sem]; rfl) | rfl) (by first | (simp only [go_sem]; rfl) | rfl) ?_
      | refine st_seq_draw rfl (by first | (simp only [go_sem]; rfl) | rfl) (by first | (simp only [go_sem]; rfl) | rfl) ?_
      | refine st_draw rfl (by first | (simp only [go_sem]; rfl) | rfl) (by first | (simp only [go_sem]; rfl) | rfl) ?_
      | refine st_op ?_
      | refine st_det rfl (by simp (disch := omega) only [go_sem, wr_i64, if_yes, if_no, ↓reduceIte, Nat.reduceAdd, Nat.reduceMul, Nat.reduceEqDiff, Nat.reduceBEq, Nat.reduceLeDiff]; rfl) ?_
      | refine st_dop rfl ?_
      | refine st_loc rfl (by simp (disch := omega) only [go_sem, wr_i64, if_yes, if_no, ↓reduceIte, Nat.reduceAdd, Nat.reduceMul, Nat.reduceEqDiff, Nat.reduceBEq, Nat.reduceLeDiff]; rfl) ?_
      | refine st_heap rfl (by simp (disch := omega) only [go_sem, wr_i64, if_yes, if_no, ↓reduceIte, Nat.reduceAdd, Nat.reduceMul, Nat.reduceEqDiff, Nat.reduceBEq, Nat.reduceLeDiff]; rfl) ?_
      | refine st_store (by simp (disch := omega) only [go_sem, wr_i64, if_yes, if_no, ↓reduceIte, Nat.reduceAdd, Nat.reduceMul, Nat.reduceEqDiff, Nat.reduceBEq, Nat.reduceLeDiff]; rfl) ?_
      | refine st_append (by simp (disch := omega) only [go_sem, wr_i64, if_yes, if_no, ↓reduceIte, Nat.reduceAdd, Nat.reduceMul, Nat.reduceEqDiff, Nat.reduceBEq, Nat.reduceLeDiff]; rfl) ?_
      | (refine st_callf rfl rfl (c14 l hl _) ?_; rintro v h' ⟨b, x, n, rfl, hb1, hb2, hu, rfl⟩)
      | (refine st_drum (by first | (simp (disch := omega) only [go_sem]; rfl) | rfl) rfl (c15 b 2 (by omega)) (by first | (simp (disch := omega) only [go_sem]; rfl) | rfl) (by assumption) (by first | (simp only [go_sem]; rfl) | rfl) (by intro x' n; simp (disch := omega) only [go_sem]; rfl) ?_; rintro v x' n hu' ⟨f, rfl, hf⟩ hn)
      | (refine st_drum (by first | (simp (disch := omega) only [go_sem]; rfl) | rfl) rfl (c16b b _ _) (by first | (simp (disch := omega) only [go_sem]; rfl) | rfl) (by assumption) (by first | (simp only [go_sem]; rfl) | rfl) (by intro x' n; simp (disch := omega) only [go_sem]; rfl) ?_; rintro v x' n hu' ⟨r, rfl, hr⟩ hn)
      | (refine st_drum (by first | (simp (disch := omega) only [go_sem]; rfl) | rfl) rfl (c17' b _ (by omega)) (by first | (simp (disch := omega) only [go_sem]; rfl) | rfl) (by assumption) (by first | (simp only [go_sem]; rfl) | rfl) (by intro x' n; simp (disch := omega) only [go_sem]; rfl) ?_; rintro v x' n hu' ⟨r, rfl, hr⟩ hn)
      | (refine st_drum (by first | (simp (disch := omega) only [go_sem]; rfl) | rfl) rfl (c18' b _ _ (by omega) (by omega)) (by first | (simp (disch := omega) only [go_sem]; rfl) | rfl) (by assumption) (by first | (simp only [go_sem]; rfl) | rfl) (by intro x' n; simp (disch := omega) only [go_sem]; rfl) ?_; rintro v x' n hu' ⟨r, rfl, hr⟩ hn)
      | (refine st_pureE (by first | (simp (disch := omega) only [go_sem]; rfl) | rfl) rfl (c19w f 2 _ _ _ _ hf (by omega) (by omega) (by omega)) (by first | (simp only [go_sem]; rfl) | rfl) (by intro n; simp (disch := omega) only [go_sem]; rfl) ?_; intro n hn)
      | refine st_gT rfl rfl rfl ?_
      | refine st_gF rfl rfl rfl ?_
      | refine st_dgT rfl rfl rfl rfl ?_
      | refine st_dgF rfl rfl rfl ?_
      | (refine st_gS rfl rfl ?_ ?_ <;> intro hg <;> (try simp only [decide_eq_true_eq, decide_eq_false_iff_not, Bool.not_eq_true', Bool.not_eq_false'] at hg))
      | (refine st_dgS rfl rfl ?_ ?_ <;> intro hg <;> (try simp only [decide_eq_true_eq, decide_eq_false_iff_not, Bool.not_eq_true', Bool.not_eq_false'] at hg))
      | refine st_condT rfl ?_
      | refine st_condF rfl ?_
      | (refine st_condS rfl ?_ ?_ <;> intro hg <;> (try simp only [decide_eq_true_eq, decide_eq_false_iff_not, Bool.not_eq_true', Bool.not_eq_false'] at hg))
      | refine st_nil ?_
      | refine st_dnil ?_
      | refine st_tN ?_
      | refine st_seq ?_
      | refine st_block ?_
      | refine st_skip ?_
      | refine st_exit ?_
      | refine st_ret ?_
      | refine st_tE ?_
      | refine st_tR ?_
      | refine st_bN ?_
      | refine st_bR ?_
      | refine st_bH ?_
      | refine st_bM rfl ?_)
  rename_i xA nA uA mA x4 n5 u4 r4 h4 m5 x3 n4 u3 A h3 m4 x2 n3 u2 r2 h2 m3 x1 n2 u1 r1 h1 m2 x0 n1 u0 A' h0 m1 n0 m0
  have hfo : FlOk f := chkOk (chkGood hf (by omega))
  have hft := hf.turn
  by_cases hbd : bendP f ⟨1, A, A + r1⟩
  · skip
    have e1 : bV f A (A + r1) = 1 := if_pos hbd
    have e2 : bV f A' r = 1 := if_pos (bend_mono hfo (by omega) (by omega) (by omega) (by omega) hbd)
    simp only [e1, e2]
    refine st_loopC (α := Int × Bool) tab mixed [] [] (by repeat (first | exact trivial | refine ⟨rfl, ?_⟩)) [4, 5] [_, _] (by repeat (first | exact trivial | refine ⟨rfl, ?_⟩)) (fun a => [(9, .bool a.2), (10, .int .i64 a.1)]) [(2, _), (4, _), (5, _), (7, _)] (fun _ => []) [_, _] (fun a => f.turn ≤ a.1 ∧ (a.1 ≤ A + r1 + 1 ∨ a.1 = f.turn) ∧ (a.2 = true → ∃ q, f.turn ≤ q ∧ q ≤ A + r1 ∧ turnsP f ⟨1, A, A + r1⟩ q) ∧ (a.2 = false → ∀ q, f.turn ≤ q → q < a.1 → ¬ turnsP f ⟨1, A, A + r1⟩ q)) (fun a => (A + r1 + 1 - a.1).toNat) (by decide) (f.turn, false) ⟨Int.le_refl _, .inr rfl, (fun h => by cases h), fun _ q g1 g2 => absurd g1 (Int.not_le.2 g2)⟩ (by (try simp only [go_sem]); repeat' (first | exact trivial | refine And.intro ?_ ?_ | rfl | (simp (disch := omega) only [go_sem, if_yes, if_no, ↓reduceIte, Nat.reduceAdd, Nat.reduceMul, Nat.reduceEqDiff, Nat.reduceBEq, Nat.reduceLeDiff]; rfl) | (simp (disch := omega) only [go_sem, if_yes, if_no, ↓reduceIte, Nat.reduceAdd, Nat.reduceMul, Nat.reduceEqDiff, Nat.reduceBEq, Nat.reduceLeDiff]))) (by (try simp only [go_sem]); repeat' (first | exact trivial | refine And.intro ?_ ?_ | rfl | (simp (disch := omega) only [go_sem, if_yes, if_no, ↓reduceIte, Nat.reduceAdd, Nat.reduceMul, Nat.reduceEqDiff, Nat.reduceBEq, Nat.reduceLeDiff]; rfl) | (simp (disch := omega) only [go_sem, if_yes, if_no, ↓reduceIte, Nat.reduceAdd, Nat.reduceMul, Nat.reduceEqDiff, Nat.reduceBEq, Nat.reduceLeDiff]))) (by first | (simp only [go_sem]; rfl) | rfl) (by intro n; simp only [go_sem]; rfl) ?_
    rintro ⟨q, t⟩ c ⟨i1, i2, i3, i4⟩ hc
    dsimp only at i1 i2 i3 i4
    simp only [go_sem]
    cases t
    · repeat' (first
          | refine st_seq_reg rfl (by first | (simp only [go_sem]; rfl) | rfl) (by first | (simp only [go_sem]; rfl) | rfl) ?_
          | refine st_reg rfl (by first | (simp only [go_sem]; rfl) | rfl) (by first | (simp only [go_sem]; rfl) | rfl) ?_
          | refine st_seq_draw rfl (by first | (simp only [go_sem]; rfl) | rfl) (by first | (simp only [go_sem]; rfl) | rfl) ?_
          | refine st_draw rfl (by first | (simp only [go_sem]; rfl) | rfl) (by first | (simp only [go_sem]; rfl) | rfl) ?_
          | refine st_op ?_
          | refine st_det rfl (by simp (disch := omega) only [go_sem, wr_i64, if_yes, if_no, ↓reduceIte, Nat.reduceAdd, Nat.reduceMul, Nat.reduceEqDiff, Nat.reduceBEq, Nat.reduceLeDiff]; rfl) ?_
          | refine st_dop rfl ?_
          | refine st_loc rfl (by simp (disch := omega) only [go_sem, wr_i64, if_yes, if_no, ↓reduceIte, Nat.reduceAdd, Nat.reduceMul, Nat.reduceEqDiff, Nat.reduceBEq, Nat.reduceLeDiff]; rfl) ?_
          | refine st_heap rfl (by simp (disch := omega) only [go_sem, wr_i64, if_yes, if_no, ↓reduceIte, Nat.reduceAdd, Nat.reduceMul, Nat.reduceEqDiff, Nat.reduceBEq, Nat.reduceLeDiff]; rfl) ?_
          | refine st_store (by simp (disch := omega) only [go_sem, wr_i64, if_yes, if_no, ↓reduceIte, Nat.reduceAdd, Nat.reduceMul, Nat.reduceEqDiff, Nat.reduceBEq, Nat.reduceLeDiff]; rfl) ?_
          | refine st_append (by simp (disch := omega) only [go_sem, wr_i64, if_yes, if_no, ↓reduceIte, Nat.reduceAdd, Nat.reduceMul, Nat.reduceEqDiff, Nat.reduceBEq, Nat.reduceLeDiff]; rfl) ?_
          | (refine st_pureE (by first | (simp (disch := omega) only [go_sem]; rfl) | rfl) rfl (c20w f 1 A (A + r1) q hfo (by omega) (by omega) (by omega)) (by first | (simp only [go_sem]; rfl) | rfl) (by intro n; simp (disch := omega) only [go_sem]; rfl) ?_; intro n hn)
          | (refine st_pureE (by first | (simp (disch := omega) only [go_sem]; rfl) | rfl) rfl (c21) (by first | (simp only [go_sem]; rfl) | rfl) (by intro n; simp (disch := omega) only [go_sem]; rfl) ?_; intro n hn)
          | refine st_gT rfl rfl rfl ?_
          | refine st_gF rfl rfl rfl ?_
          | refine st_dgT rfl rfl rfl rfl ?_
          | refine st_dgF rfl rfl rfl ?_
          | (refine st_gS rfl rfl ?_ ?_ <;> intro hg <;> (try simp only [decide_eq_true_eq, decide_eq_false_iff_not, Bool.not_eq_true', Bool.not_eq_false'] at hg))
          | (refine st_dgS rfl rfl ?_ ?_ <;> intro hg <;> (try simp only [decide_eq_true_eq, decide_eq_false_iff_not, Bool.not_eq_true', Bool.not_eq_false'] at hg))
          | refine st_condT rfl ?_
          | refine st_condF rfl ?_
          | (refine st_condS rfl ?_ ?_ <;> intro hg <;> (try simp only [decide_eq_true_eq, decide_eq_false_iff_not, Bool.not_eq_true', Bool.not_eq_false'] at hg))
          | refine st_nil ?_
          | refine st_dnil ?_
          | refine st_tN ?_
          | refine st_seq ?_
          | refine st_block ?_
          | refine st_skip ?_
          | refine st_exit ?_
          | refine st_ret ?_
          | refine st_tE ?_
          | refine st_tR ?_
          | refine st_bN ?_
          | refine st_bR ?_
          | refine st_bH ?_
          | refine st_bM rfl ?_)
      · refine ⟨(q + 1, decide (turnsP f ⟨1, A, A + r1⟩ q)), ⟨by show f.turn ≤ q + 1; omega, .inl (by show q + 1 ≤ _; omega), fun h => ⟨q, i1, by omega, of_decide_eq_true h⟩, fun h z g1 g2 => ?_⟩, by show (A + r1 + 1 - (q + 1)).toNat < (A + r1 + 1 - q).toNat; omega, (by repeat' (first | exact trivial | refine And.intro ?_ ?_ | rfl | (simp (disch := omega) only [go_sem, if_yes, if_no, ↓reduceIte, Nat.reduceAdd, Nat.reduceMul, Nat.reduceEqDiff, Nat.reduceBEq, Nat.reduceLeDiff]; rfl) | (simp (disch := omega) only [go_sem, if_yes, if_no, ↓reduceIte, Nat.reduceAdd, Nat.reduceMul, Nat.reduceEqDiff, Nat.reduceBEq, Nat.reduceLeDiff]))), (by repeat' (first | exact trivial | refine And.intro ?_ ?_ | rfl | (simp (disch := omega) only [go_sem, if_yes, if_no, ↓reduceIte, Nat.reduceAdd, Nat.reduceMul, Nat.reduceEqDiff, Nat.reduceBEq, Nat.reduceLeDiff]; rfl) | (simp (disch := omega) only [go_sem, if_yes, if_no, ↓reduceIte, Nat.reduceAdd, Nat.reduceMul, Nat.reduceEqDiff, Nat.reduceBEq, Nat.reduceLeDiff]))), rfl, HOld.put _ _ _ (by omega)⟩
        by_cases e : z = q
        · rw [e]; exact of_decide_eq_false h
        · exact i4 rfl z g1 (by have : z < q + 1 := g2; omega)
      · exfalso
        obtain ⟨z, g1, g2, g3⟩ := (bend_turns hfo (by omega) (by omega)).1 hbd
        exact i4 rfl z g1 (by omega) g3
    · repeat' (first
          | refine st_seq_reg rfl (by first | (simp only [go_sem]; rfl) | rfl) (by first | (simp only [go_sem]; rfl) | rfl) ?_
          | refine st_reg rfl (by first | (simp only [go_sem]; rfl) | rfl) (by first | (simp only [go_sem]; rfl) | rfl) ?_
          | refine st_seq_draw rfl (by first | (simp only [go_sem]; rfl) | rfl) (by first | (simp only [go_sem]; rfl) | rfl) ?_
          | refine st_draw rfl (by first | (simp only [go_sem]; rfl) | rfl) (by first | (simp only [go_sem]; rfl) | rfl) ?_
          | refine st_op ?_
          | refine st_det rfl (by simp (disch := omega) only [go_sem, wr_i64, if_yes, if_no, ↓reduceIte, Nat.reduceAdd, Nat.reduceMul, Nat.reduceEqDiff, Nat.reduceBEq, Nat.reduceLeDiff]; rfl) ?_
          | refine st_dop rfl ?_
          | refine st_loc rfl (by simp (disch := omega) only [go_sem, wr_i64, if_yes, if_no, ↓reduceIte, Nat.reduceAdd, Nat.reduceMul, Nat.reduceEqDiff, Nat.reduceBEq, Nat.reduceLeDiff]; rfl) ?_
          | refine st_heap rfl (by simp (disch := omega) only [go_sem, wr_i64, if_yes, if_no, ↓reduceIte, Nat.reduceAdd, Nat.reduceMul, Nat.reduceEqDiff, Nat.reduceBEq, Nat.reduceLeDiff]; rfl) ?_
          | refine st_store (by simp (disch := omega) only [go_sem, wr_i64, if_yes, if_no, ↓reduceIte, Nat.reduceAdd, Nat.reduceMul, Nat.reduceEqDiff, Nat.reduceBEq, Nat.reduceLeDiff]; rfl) ?_
          | refine st_append (by simp (disch := omega) only [go_sem, wr_i64, if_yes, if_no, ↓reduceIte, Nat.reduceAdd, Nat.reduceMul, Nat.reduceEqDiff, Nat.reduceBEq, Nat.reduceLeDiff]; rfl) ?_
          | (refine st_pureE (by first | (simp (disch := omega) only [go_sem]; rfl) | rfl) rfl (c21) (by first | (simp only [go_sem]; rfl) | rfl) (by intro n; simp (disch := omega) only [go_sem]; rfl) ?_; intro n hn)
          | refine st_gT rfl rfl rfl ?_
          | refine st_gF rfl rfl rfl ?_
          | refine st_dgT rfl rfl rfl rfl ?_
          | refine st_dgF rfl rfl rfl ?_
          | (refine st_gS rfl rfl ?_ ?_ <;> intro hg <;> (try simp only [decide_eq_true_eq, decide_eq_false_iff_not, Bool.not_eq_true', Bool.not_eq_false'] at hg))
          | (refine st_dgS rfl rfl ?_ ?_ <;> intro hg <;> (try simp only [decide_eq_true_eq, decide_eq_false_iff_not, Bool.not_eq_true', Bool.not_eq_false'] at hg))
          | refine st_condT rfl ?_
          | refine st_condF rfl ?_
          | (refine st_condS rfl ?_ ?_ <;> intro hg <;> (try simp only [decide_eq_true_eq, decide_eq_false_iff_not, Bool.not_eq_true', Bool.not_eq_false'] at hg))
          | refine st_nil ?_
          | refine st_dnil ?_
          | refine st_tN ?_
          | refine st_seq ?_
          | refine st_block ?_
          | refine st_skip ?_
          | refine st_exit ?_
          | refine st_ret ?_
          | refine st_tE ?_
          | refine st_tR ?_
          | refine st_bN ?_
          | refine st_bR ?_
          | refine st_bH ?_
          | refine st_bM rfl ?_)
      all_goals
        simp (disch := omega) only [AEnd, Try.results3, aresK, fin, go_sem, ↓reduceIte, Nat.reduceEqDiff, Nat.reduceAdd, Nat.reduceLeDiff, if_yes, if_no, implies_true, true_and, and_true, List.reverse_cons, List.reverse_nil]
  · skip
    have e1 : bV f A (A + r1) = 2 := if_neg hbd
    simp only [e1]
    refine st_loopC (α := Int × Bool) tab mixed [] [] (by repeat (first | exact trivial | refine ⟨rfl, ?_⟩)) [4, 5] [_, _] (by repeat (first | exact trivial | refine ⟨rfl, ?_⟩)) (fun a => [(9, .bool a.2), (10, .int .i64 a.1)]) [(2, _), (4, _), (5, _), (7, _)] (fun _ => []) [_, _] (fun a => f.turn ≤ a.1 ∧ (a.1 ≤ A + r1 + 1 ∨ a.1 = f.turn) ∧ (a.2 = true → ∃ q, f.turn ≤ q ∧ q ≤ A + r1 ∧ turnsP f ⟨1, A, A + r1⟩ q) ∧ (a.2 = false → ∀ q, f.turn ≤ q → q < a.1 → ¬ turnsP f ⟨1, A, A + r1⟩ q)) (fun a => (A + r1 + 1 - a.1).toNat) (by decide) (f.turn, false) ⟨Int.le_refl _, .inr rfl, (fun h => by cases h), fun _ q g1 g2 => absurd g1 (Int.not_le.2 g2)⟩ (by (try simp only [go_sem]); repeat' (first | exact trivial | refine And.intro ?_ ?_ | rfl | (simp (disch := omega) only [go_sem, if_yes, if_no, ↓reduceIte, Nat.reduceAdd, Nat.reduceMul, Nat.reduceEqDiff, Nat.reduceBEq, Nat.reduceLeDiff]; rfl) | (simp (disch := omega) only [go_sem, if_yes, if_no, ↓reduceIte, Nat.reduceAdd, Nat.reduceMul, Nat.reduceEqDiff, Nat.reduceBEq, Nat.reduceLeDiff]))) (by (try simp only [go_sem]); repeat' (first | exact trivial | refine And.intro ?_ ?_ | rfl | (simp (disch := omega) only [go_sem, if_yes, if_no, ↓reduceIte, Nat.reduceAdd, Nat.reduceMul, Nat.reduceEqDiff, Nat.reduceBEq, Nat.reduceLeDiff]; rfl) | (simp (disch := omega) only [go_sem, if_yes, if_no, ↓reduceIte, Nat.reduceAdd, Nat.reduceMul, Nat.reduceEqDiff, Nat.reduceBEq, Nat.reduceLeDiff]))) (by first | (simp only [go_sem]; rfl) | rfl) (by intro n; simp only [go_sem]; rfl) ?_
    rintro ⟨q, t⟩ c ⟨i1, i2, i3, i4⟩ hc
    dsimp only at i1 i2 i3 i4
    simp only [go_sem]
    cases t
    · repeat' (first
          | refine st_seq_reg rfl (by first | (simp only [go_sem]; rfl) | rfl) (by first | (simp only [go_sem]; rfl) | rfl) ?_
          | refine st_reg rfl (by first | (simp only [go_sem]; rfl) | rfl) (by first | (simp only [go_sem]; rfl) | rfl) ?_
          | refine st_seq_draw rfl (by first | (simp only [go_sem]; rfl) | rfl) (by first | (simp only [go_sem]; rfl) | rfl) ?_
          | refine st_draw rfl (by first | (simp only [go_sem]; rfl) | rfl) (by first | (simp only [go_sem]; rfl) | rfl) ?_
          | refine st_op ?_
          | refine st_det rfl (by simp (disch := omega) only [go_sem, wr_i64, if_yes, if_no, ↓reduceIte, Nat.reduceAdd, Nat.reduceMul, Nat.reduceEqDiff, Nat.reduceBEq, Nat.reduceLeDiff]; rfl) ?_
          | refine st_dop rfl ?_
          | refine st_loc rfl (by simp (disch := omega) only [go_sem, wr_i64, if_yes, if_no, ↓reduceIte, Nat.reduceAdd, Nat.reduceMul, Nat.reduceEqDiff, Nat.reduceBEq, Nat.reduceLeDiff]; rfl) ?_
          | refine st_heap rfl (by simp (disch := omega) only [go_sem, wr_i64, if_yes, if_no, ↓reduceIte, Nat.reduceAdd, Nat.reduceMul, Nat.reduceEqDiff, Nat.reduceBEq, Nat.reduceLeDiff]; rfl) ?_
          | refine st_store (by simp (disch := omega) only [go_sem, wr_i64, if_yes, if_no, ↓reduceIte, Nat.reduceAdd, Nat.reduceMul, Nat.reduceEqDiff, Nat.reduceBEq, Nat.reduceLeDiff]; rfl) ?_
          | refine st_append (by simp (disch := omega) only [go_sem, wr_i64, if_yes, if_no, ↓reduceIte, Nat.reduceAdd, Nat.reduceMul, Nat.reduceEqDiff, Nat.reduceBEq, Nat.reduceLeDiff]; rfl) ?_
          | (refine st_pureE (by first | (simp (disch := omega) only [go_sem]; rfl) | rfl) rfl (c20w f 1 A (A + r1) q hfo (by omega) (by omega) (by omega)) (by first | (simp only [go_sem]; rfl) | rfl) (by intro n; simp (disch := omega) only [go_sem]; rfl) ?_; intro n hn)
          | (refine st_pureE (by first | (simp (disch := omega) only [go_sem]; rfl) | rfl) rfl (c21) (by first | (simp only [go_sem]; rfl) | rfl) (by intro n; simp (disch := omega) only [go_sem]; rfl) ?_; intro n hn)
          | refine st_gT rfl rfl rfl ?_
          | refine st_gF rfl rfl rfl ?_
          | refine st_dgT rfl rfl rfl rfl ?_
          | refine st_dgF rfl rfl rfl ?_
          | (refine st_gS rfl rfl ?_ ?_ <;> intro hg <;> (try simp only [decide_eq_true_eq, decide_eq_false_iff_not, Bool.not_eq_true', Bool.not_eq_false'] at hg))
          | (refine st_dgS rfl rfl ?_ ?_ <;> intro hg <;> (try simp only [decide_eq_true_eq, decide_eq_false_iff_not, Bool.not_eq_true', Bool.not_eq_false'] at hg))
          | refine st_condT rfl ?_
          | refine st_condF rfl ?_
          | (refine st_condS rfl ?_ ?_ <;> intro hg <;> (try simp only [decide_eq_true_eq, decide_eq_false_iff_not, Bool.not_eq_true', Bool.not_eq_false'] at hg))
          | refine st_nil ?_
          | refine st_dnil ?_
          | refine st_tN ?_
          | refine st_seq ?_
          | refine st_block ?_
          | refine st_skip ?_
          | refine st_exit ?_
          | refine st_ret ?_
          | refine st_tE ?_
          | refine st_tR ?_
          | refine st_bN ?_
          | refine st_bR ?_
          | refine st_bH ?_
          | refine st_bM rfl ?_)
      · refine ⟨(q + 1, decide (turnsP f ⟨1, A, A + r1⟩ q)), ⟨by show f.turn ≤ q + 1; omega, .inl (by show q + 1 ≤ _; omega), fun h => ⟨q, i1, by omega, of_decide_eq_true h⟩, fun h z g1 g2 => ?_⟩, by show (A + r1 + 1 - (q + 1)).toNat < (A + r1 + 1 - q).toNat; omega, (by repeat' (first | exact trivial | refine And.intro ?_ ?_ | rfl | (simp (disch := omega) only [go_sem, if_yes, if_no, ↓reduceIte, Nat.reduceAdd, Nat.reduceMul, Nat.reduceEqDiff, Nat.reduceBEq, Nat.reduceLeDiff]; rfl) | (simp (disch := omega) only [go_sem, if_yes, if_no, ↓reduceIte, Nat.reduceAdd, Nat.reduceMul, Nat.reduceEqDiff, Nat.reduceBEq, Nat.reduceLeDiff]))), (by repeat' (first | exact trivial | refine And.intro ?_ ?_ | rfl | (simp (disch := omega) only [go_sem, if_yes, if_no, ↓reduceIte, Nat.reduceAdd, Nat.reduceMul, Nat.reduceEqDiff, Nat.reduceBEq, Nat.reduceLeDiff]; rfl) | (simp (disch := omega) only [go_sem, if_yes, if_no, ↓reduceIte, Nat.reduceAdd, Nat.reduceMul, Nat.reduceEqDiff, Nat.reduceBEq, Nat.reduceLeDiff]))), rfl, HOld.put _ _ _ (by omega)⟩
        by_cases e : z = q
        · rw [e]; exact of_decide_eq_false h
        · exact i4 rfl z g1 (by have : z < q + 1 := g2; omega)
      · simp (disch := omega) only [AEnd, Try.results3, aresK, fin, go_sem, ↓reduceIte, Nat.reduceEqDiff, Nat.reduceAdd, Nat.reduceLeDiff, if_yes, if_no, implies_true, true_and, and_true, List.reverse_cons, List.reverse_nil]
    · repeat' (first
          | refine st_seq_reg rfl (by first | (simp only [go_sem]; rfl) | rfl) (by first | (simp only [go_sem]; rfl) | rfl) ?_
          | refine st_reg rfl (by first | (simp only [go_sem]; rfl) | rfl) (by first | (simp only [go_sem]; rfl) | rfl) ?_
          | refine st_seq_draw rfl (by first | (simp only [go_sem]; rfl) | rfl) (by first | (simp only [go_sem]; rfl) | rfl) ?_
          | refine st_draw rfl (by first | (simp only [go_sem]; rfl) | rfl) (by first | (simp only [go_sem]; rfl) | rfl) ?_
          | refine st_op ?_
          | refine st_det rfl (by simp (disch := omega) only [go_sem, wr_i64, if_yes, if_no, ↓reduceIte, Nat.reduceAdd, Nat.reduceMul, Nat.reduceEqDiff, Nat.reduceBEq, Nat.reduceLeDiff]; rfl) ?_
          | refine st_dop rfl ?_
          | refine st_loc rfl (by simp (disch := omega) only [go_sem, wr_i64, if_yes, if_no, ↓reduceIte, Nat.reduceAdd, Nat.reduceMul, Nat.reduceEqDiff, Nat.reduceBEq, Nat.reduceLeDiff]; rfl) ?_
          | refine st_heap rfl (by simp (disch := omega) only [go_sem, wr_i64, if_yes, if_no, ↓reduceIte, Nat.reduceAdd, Nat.reduceMul, Nat.reduceEqDiff, Nat.reduceBEq, Nat.reduceLeDiff]; rfl) ?_
          | refine st_store (by simp (disch := omega) only [go_sem, wr_i64, if_yes, if_no, ↓reduceIte, Nat.reduceAdd, Nat.reduceMul, Nat.reduceEqDiff, Nat.reduceBEq, Nat.reduceLeDiff]; rfl) ?_
          | refine st_append (by simp (disch := omega) only [go_sem, wr_i64, if_yes, if_no, ↓reduceIte, Nat.reduceAdd, Nat.reduceMul, Nat.reduceEqDiff, Nat.reduceBEq, Nat.reduceLeDiff]; rfl) ?_
          | (refine st_pureE (by first | (simp (disch := omega) only [go_sem]; rfl) | rfl) rfl (c21) (by first | (simp only [go_sem]; rfl) | rfl) (by intro n; simp (disch := omega) only [go_sem]; rfl) ?_; intro n hn)
          | refine st_gT rfl rfl rfl ?_
          | refine st_gF rfl rfl rfl ?_
          | refine st_dgT rfl rfl rfl rfl ?_
          | refine st_dgF rfl rfl rfl ?_
          | (refine st_gS rfl rfl ?_ ?_ <;> intro hg <;> (try simp only [decide_eq_true_eq, decide_eq_false_iff_not, Bool.not_eq_true', Bool.not_eq_false'] at hg))
          | (refine st_dgS rfl rfl ?_ ?_ <;> intro hg <;> (try simp only [decide_eq_true_eq, decide_eq_false_iff_not, Bool.not_eq_true', Bool.not_eq_false'] at hg))
          | refine st_condT rfl ?_
          | refine st_condF rfl ?_
          | (refine st_condS rfl ?_ ?_ <;> intro hg <;> (try simp only [decide_eq_true_eq, decide_eq_false_iff_not, Bool.not_eq_true', Bool.not_eq_false'] at hg))
          | refine st_nil ?_
          | refine st_dnil ?_
          | refine st_tN ?_
          | refine st_seq ?_
          | refine st_block ?_
          | refine st_skip ?_
          | refine st_exit ?_
          | refine st_ret ?_
          | refine st_tE ?_
          | refine st_tR ?_
          | refine st_bN ?_
          | refine st_bR ?_
          | refine st_bH ?_
          | refine st_bM rfl ?_)
      all_goals exact absurd ((bend_turns hfo (by omega) (by omega)).2 (i3 rfl)) hbd
end Go.Proofs.Ytkjpceapflhmnaa
