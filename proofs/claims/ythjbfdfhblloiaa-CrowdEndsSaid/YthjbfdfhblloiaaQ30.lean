/- Contracts of functions that the claim reaches: what each call gives, told in our own logic. Conditions: those of each theorem. -/
import Derived.Test.YthjbfdfhblloiaaQ3
set_option linter.all false
set_option linter.unusedSimpArgs false
set_option linter.unusedVariables false
namespace Go.Proofs.Ythjbfdfhblloiaa
open Go.Av
attribute [local irreducible] thenA blockA awp awpOps awpD awp1
set_option maxHeartbeats 8000000
set_option maxRecDepth 20000
/-! ### Drums: spans, numbers of spans -/
def fitV (x n : Int) : Int := if n < 2 then 0 else if x.tmod n < 0 then x.tmod n + n else x.tmod n
theorem fitV_bd {x n : Int} (h : 1 ≤ n) : 0 ≤ fitV x n ∧ fitV x n < n := by
  unfold fitV
  by_cases h2 : n < 2
  · rw [if_pos h2]; omega
  · rw [if_neg h2]
    have h3 : x.tmod n < n := Int.tmod_lt_of_pos _ (by omega)
    have h4 : -n < x.tmod n := Int.lt_tmod_of_pos _ (by omega)
    split <;> omega
theorem fitV_ne {a m n : Int} (ha : 0 ≤ a ∧ a < n) (hm : 1 ≤ m ∧ m ≤ n - 1) : fitV (a + m) n ≠ a := by
  unfold fitV
  rw [if_neg (by omega)]
  have h0 : (a + m).tmod n = (a + m) % n := Int.tmod_eq_emod_of_nonneg (by omega)
  rw [h0]
  have h1 := Int.emod_nonneg (a + m) (by omega : n ≠ 0)
  rw [if_neg (by omega)]
  by_cases h2 : a + m < n
  · rw [Int.emod_eq_of_lt (by omega) h2]; omega
  · have : (a + m) % n = a + m - n := by
      rw [← Int.sub_emod_right, Int.emod_eq_of_lt (by omega) (by omega)]
    rw [this]; omega
theorem c21 (x n : Int) (hn : -1000000000 ≤ n ∧ n ≤ 1000000000) (hx : -9223372036854775808 ≤ x ∧ x ≤ 9223372036854775807) : Pure Try.prog 21 [.int .i64 x, .int .i64 n] (fun v => v = .int .i64 (fitV x n)) := by
  intro h
  by_cases h2 : n < 2
  · refine ACalls.forget (ACalls.of tab mixed Try.call21 Try.func21 rfl (fi := ⟨16, [], [], none, []⟩) rfl rfl (Nat.le_of_ble_eq_true rfl) (by decide) ?_)
    unfold startA
    repeat' (first | refine st_seq_reg rfl (by first | (simp only [go_sem]; rfl) | rfl) (by first | (simp only [go_sem]; rfl) | rfl) ?_ | refine st_reg rfl (by first | (simp only [go_sem]; rfl) | rfl) (by first | (simp only [go_sem]; rfl) | rfl) ?_ | refine st_op ?_ | refine st_det rfl (by simp (disch := omega) only [go_sem, wr_i64, if_yes, if_no, ↓reduceIte, Nat.reduceAdd, Nat.reduceMul, Nat.reduceEqDiff, Nat.reduceBEq, Nat.reduceLeDiff]; rfl) ?_ | refine st_condT rfl ?_ | refine st_condF rfl ?_ | (refine st_condS rfl ?_ ?_ <;> intro hg <;> (try simp only [decide_eq_true_eq, decide_eq_false_iff_not, Bool.not_eq_true', Bool.not_eq_false'] at hg)) | refine st_nil ?_ | refine st_tN ?_ | refine st_seq ?_ | refine st_skip ?_ | refine st_ret ?_ | refine st_tE ?_ | refine st_tR ?_)
    all_goals try (exfalso; omega)
    simp (disch := omega) only [AEnd, Try.results21, aresK, fin, go_sem, ↓reduceIte, Nat.reduceEqDiff, Nat.reduceAdd, Nat.reduceLeDiff, if_yes, if_no, implies_true, true_and, and_true, List.reverse_cons, List.reverse_nil]
    unfold fitV; rw [if_pos h2]
  have h3 : x.tmod n < n := Int.tmod_lt_of_pos _ (by omega)
  have h4 : -n < x.tmod n := Int.lt_tmod_of_pos _ (by omega)
  have e : fitV x n = if x.tmod n < 0 then x.tmod n + n else x.tmod n := by unfold fitV; rw [if_neg h2]
  refine ACalls.forget (ACalls.of tab mixed Try.call21 Try.func21 rfl (fi := ⟨16, [], [], none, []⟩) rfl rfl (Nat.le_of_ble_eq_true rfl) (by decide) ?_)
  unfold startA
  repeat' (first | refine st_seq_reg rfl (by first | (simp only [go_sem]; rfl) | rfl) (by first | (simp only [go_sem]; rfl) | rfl) ?_ | refine st_reg rfl (by first | (simp only [go_sem]; rfl) | rfl) (by first | (simp only [go_sem]; rfl) | rfl) ?_ | refine st_op ?_ | refine st_det rfl (by simp (disch := omega) only [go_sem, wr_i64, if_yes, if_no, ↓reduceIte, Nat.reduceAdd, Nat.reduceMul, Nat.reduceEqDiff, Nat.reduceBEq, Nat.reduceLeDiff]; rfl) ?_ | refine st_condT rfl ?_ | refine st_condF rfl ?_ | (refine st_condS rfl ?_ ?_ <;> intro hg <;> (try simp only [decide_eq_true_eq, decide_eq_false_iff_not, Bool.not_eq_true', Bool.not_eq_false'] at hg)) | refine st_nil ?_ | refine st_tN ?_ | refine st_seq ?_ | refine st_skip ?_ | refine st_ret ?_ | refine st_tE ?_ | refine st_tR ?_)
  all_goals try (exfalso; omega)
  all_goals
    simp (disch := omega) only [AEnd, Try.results21, aresK, fin, go_sem, ↓reduceIte, Nat.reduceEqDiff, Nat.reduceAdd, Nat.reduceLeDiff, if_yes, if_no, implies_true, true_and, and_true, List.reverse_cons, List.reverse_nil]
    first | (rw [e, if_pos (by omega)]; done) | (rw [e, if_neg (by omega)]; done)
theorem c63 (b : Nat × Nat) (lo hi : Int) (h1 : -100000000 ≤ lo) (h2 : lo ≤ hi ∧ hi ≤ 100000000) : Drum Try.prog 63 [.ptr b 0 0, .int .i64 lo, .int .i64 hi] b (fun v => ∃ r s, v = .agg [.int .i64 r, .int .i64 s] ∧ lo ≤ r ∧ r ≤ s ∧ s ≤ hi) := by
  refine Drum.of Try.call63 fun h x hx hu hold => ?_
  refine ACalls.of tab mixed Try.call63 Try.func63 rfl (fi := ⟨36, [6], [], none, []⟩) rfl rfl (Nat.le_of_ble_eq_true rfl) (by decide) ?_
  unfold startA
  repeat' (first | refine st_seq_reg rfl (by first | (simp only [go_sem, hx]; rfl) | rfl) (by first | (simp only [go_sem, hx]; rfl) | rfl) ?_ | refine st_reg rfl (by first | (simp only [go_sem, hx]; rfl) | rfl) (by first | (simp only [go_sem, hx]; rfl) | rfl) ?_ | refine st_op ?_ | refine st_det rfl (by simp (disch := omega) only [go_sem, wr_i64, if_yes, if_no, ↓reduceIte, Nat.reduceAdd, Nat.reduceMul, Nat.reduceEqDiff, Nat.reduceBEq, Nat.reduceLeDiff, hx]; rfl) ?_ | refine st_loc rfl (by simp (disch := omega) only [go_sem, wr_i64, if_yes, if_no, ↓reduceIte, Nat.reduceAdd, Nat.reduceMul, Nat.reduceEqDiff, Nat.reduceBEq, Nat.reduceLeDiff, hx]; rfl) ?_ | refine st_heap rfl (by simp (disch := omega) only [go_sem, wr_i64, if_yes, if_no, ↓reduceIte, Nat.reduceAdd, Nat.reduceMul, Nat.reduceEqDiff, Nat.reduceBEq, Nat.reduceLeDiff, hx]; rfl) ?_ | refine st_store (by simp (disch := omega) only [go_sem, wr_i64, if_yes, if_no, ↓reduceIte, Nat.reduceAdd, Nat.reduceMul, Nat.reduceEqDiff, Nat.reduceBEq, Nat.reduceLeDiff, hx]; rfl) ?_ | (refine st_drum (by first | (simp (disch := omega) only [go_sem, hx]; rfl) | rfl) rfl (c62' b lo hi (by omega) (by omega)) (by first | (simp (disch := omega) only [go_sem, hx]; rfl) | rfl) (by assumption) (by first | (simp only [go_sem, hx]; rfl) | rfl) (by intro x' n; first | (simp (disch := omega) only [go_sem]; rfl) | rfl) ?_; rintro v x' n hu' ⟨r, rfl, hr⟩ hn) | (refine st_drum (by first | (simp (disch := omega) only [go_sem, hx]; rfl) | rfl) rfl (c18' b 3 (by omega)) (by first | (simp (disch := omega) only [go_sem, hx]; rfl) | rfl) (by assumption) (by first | (simp only [go_sem, hx]; rfl) | rfl) (by intro x' n; first | (simp (disch := omega) only [go_sem]; rfl) | rfl) ?_; rintro v x' n hu' ⟨s, rfl, hs⟩ hn) | refine st_condT rfl ?_ | refine st_condF rfl ?_ | (refine st_condS rfl ?_ ?_ <;> intro hg <;> (try simp only [decide_eq_true_eq, decide_eq_false_iff_not, Bool.not_eq_true', Bool.not_eq_false'] at hg)) | refine st_nil ?_ | refine st_tN ?_ | refine st_seq ?_ | refine st_block ?_ | refine st_skip ?_ | refine st_exit ?_ | refine st_ret ?_ | refine st_tE ?_ | refine st_tR ?_ | refine st_bN ?_ | refine st_bR ?_ | refine st_bH ?_ | refine st_bM rfl ?_)
  · simp (disch := omega) only [AEnd, Try.results63, aresK, fin, go_sem, ↓reduceIte, Nat.reduceEqDiff, Nat.reduceAdd, Nat.reduceLeDiff, if_yes, if_no, implies_true, true_and, and_true, List.reverse_cons, List.reverse_nil]
    exact ⟨fun b' _ h2 => if_neg h2, ⟨_, rfl, by assumption⟩, ⟨_, _, rfl, by omega, by omega, by omega⟩⟩
  · repeat' (first | refine st_seq_reg rfl (by first | (simp only [go_sem]; rfl) | rfl) (by first | (simp only [go_sem]; rfl) | rfl) ?_ | refine st_reg rfl (by first | (simp only [go_sem]; rfl) | rfl) (by first | (simp only [go_sem]; rfl) | rfl) ?_ | refine st_op ?_ | refine st_det rfl (by simp (disch := omega) only [go_sem, wr_i64, if_yes, if_no, ↓reduceIte, Nat.reduceAdd, Nat.reduceMul, Nat.reduceEqDiff, Nat.reduceBEq, Nat.reduceLeDiff]; rfl) ?_ | refine st_loc rfl (by simp (disch := omega) only [go_sem, wr_i64, if_yes, if_no, ↓reduceIte, Nat.reduceAdd, Nat.reduceMul, Nat.reduceEqDiff, Nat.reduceBEq, Nat.reduceLeDiff]; rfl) ?_ | refine st_heap rfl (by simp (disch := omega) only [go_sem, wr_i64, if_yes, if_no, ↓reduceIte, Nat.reduceAdd, Nat.reduceMul, Nat.reduceEqDiff, Nat.reduceBEq, Nat.reduceLeDiff]; rfl) ?_ | refine st_store (by simp (disch := omega) only [go_sem, wr_i64, if_yes, if_no, ↓reduceIte, Nat.reduceAdd, Nat.reduceMul, Nat.reduceEqDiff, Nat.reduceBEq, Nat.reduceLeDiff]; rfl) ?_ | (refine st_drum (by first | (simp (disch := omega) only [go_sem]; rfl) | rfl) rfl (c62' b r (min hi (r + 3)) (by omega) (by omega)) (by first | (simp (disch := omega) only [go_sem]; rfl) | rfl) (by assumption) (by first | (simp only [go_sem]; rfl) | rfl) (by intro x' n; first | (simp (disch := omega) only [go_sem]; rfl) | rfl) ?_; rintro v x' n hu' ⟨r2, rfl, hr2⟩ hn) | refine st_condT rfl ?_ | refine st_condF rfl ?_ | (refine st_condS rfl ?_ ?_ <;> intro hg <;> (try simp only [decide_eq_true_eq, decide_eq_false_iff_not, Bool.not_eq_true', Bool.not_eq_false'] at hg)) | refine st_nil ?_ | refine st_tN ?_ | refine st_seq ?_ | refine st_block ?_ | refine st_skip ?_ | refine st_exit ?_ | refine st_ret ?_ | refine st_tE ?_ | refine st_tR ?_ | refine st_bN ?_ | refine st_bR ?_ | refine st_bH ?_ | refine st_bM rfl ?_)
    simp (disch := omega) only [AEnd, Try.results63, aresK, fin, go_sem, ↓reduceIte, Nat.reduceEqDiff, Nat.reduceAdd, Nat.reduceLeDiff, if_yes, if_no, implies_true, true_and, and_true, List.reverse_cons, List.reverse_nil]
    exact ⟨fun b' _ h2 => if_neg h2, ⟨_, rfl, by assumption⟩, ⟨_, _, rfl, by omega, by omega, by omega⟩⟩
  · repeat' (first | refine st_seq_reg rfl (by first | (simp only [go_sem]; rfl) | rfl) (by first | (simp only [go_sem]; rfl) | rfl) ?_ | refine st_reg rfl (by first | (simp only [go_sem]; rfl) | rfl) (by first | (simp only [go_sem]; rfl) | rfl) ?_ | refine st_op ?_ | refine st_det rfl (by simp (disch := omega) only [go_sem, wr_i64, if_yes, if_no, ↓reduceIte, Nat.reduceAdd, Nat.reduceMul, Nat.reduceEqDiff, Nat.reduceBEq, Nat.reduceLeDiff]; rfl) ?_ | refine st_loc rfl (by simp (disch := omega) only [go_sem, wr_i64, if_yes, if_no, ↓reduceIte, Nat.reduceAdd, Nat.reduceMul, Nat.reduceEqDiff, Nat.reduceBEq, Nat.reduceLeDiff]; rfl) ?_ | refine st_heap rfl (by simp (disch := omega) only [go_sem, wr_i64, if_yes, if_no, ↓reduceIte, Nat.reduceAdd, Nat.reduceMul, Nat.reduceEqDiff, Nat.reduceBEq, Nat.reduceLeDiff]; rfl) ?_ | refine st_store (by simp (disch := omega) only [go_sem, wr_i64, if_yes, if_no, ↓reduceIte, Nat.reduceAdd, Nat.reduceMul, Nat.reduceEqDiff, Nat.reduceBEq, Nat.reduceLeDiff]; rfl) ?_ | (refine st_drum (by first | (simp (disch := omega) only [go_sem]; rfl) | rfl) rfl (c62' b r hi (by omega) (by omega)) (by first | (simp (disch := omega) only [go_sem]; rfl) | rfl) (by assumption) (by first | (simp only [go_sem]; rfl) | rfl) (by intro x' n; first | (simp (disch := omega) only [go_sem]; rfl) | rfl) ?_; rintro v x' n hu' ⟨r2, rfl, hr2⟩ hn) | refine st_condT rfl ?_ | refine st_condF rfl ?_ | (refine st_condS rfl ?_ ?_ <;> intro hg <;> (try simp only [decide_eq_true_eq, decide_eq_false_iff_not, Bool.not_eq_true', Bool.not_eq_false'] at hg)) | refine st_nil ?_ | refine st_tN ?_ | refine st_seq ?_ | refine st_block ?_ | refine st_skip ?_ | refine st_exit ?_ | refine st_ret ?_ | refine st_tE ?_ | refine st_tR ?_ | refine st_bN ?_ | refine st_bR ?_ | refine st_bH ?_ | refine st_bM rfl ?_)
    simp (disch := omega) only [AEnd, Try.results63, aresK, fin, go_sem, ↓reduceIte, Nat.reduceEqDiff, Nat.reduceAdd, Nat.reduceLeDiff, if_yes, if_no, implies_true, true_and, and_true, List.reverse_cons, List.reverse_nil]
    exact ⟨fun b' _ h2 => if_neg h2, ⟨_, rfl, by assumption⟩, ⟨_, _, rfl, by omega, by omega, by omega⟩⟩
end Go.Proofs.Ythjbfdfhblloiaa
