/- Contracts of functions that the claim reaches: what each call gives, told in our own logic. Conditions: those of each theorem. -/
import Derived.Test.YthjbfdfhblloiaaQ3
set_option linter.all false
set_option linter.unusedSimpArgs false
set_option linter.unusedVariables false
namespace Go.Proofs.Ythjbfdfhblloiaa
open Go.Av
attribute [local irreducible] thenA blockA awp awpOps awpD awp1
set_option maxHeartbeats 8000000
set_option maxRecDepth 20000
/-! ### Drums: spans, numbers of spans -/
def fitV (x n : Int) : Int := if n < 2 then 0 else if x.tmod n < 0 then x.tmod n + n else x.tmod n
theorem fitV_bd {x n : Int} (h : 1 ≤ n) : 0 ≤ fitV x n ∧ fitV x n < n := by
  unfold fitV
  by_cases h2 : n < 2
  · rw [if_pos h2]; omega
  · rw [if_neg h2]
    have h3 : x.tmod n < n := Int.tmod_lt_of_pos _ (by omega)
    have h4 : -n < x.tmod n := Int.lt_tmod_of_pos _ (by omega)
    split <;> omega
theorem fitV_ne {a m n : Int} (ha : 0 ≤ a ∧ a < n) (hm : 1 ≤ m ∧ m ≤ n - 1) : fitV (a + m) n ≠ a := by
  unfold fitV
  rw [if_neg (by omega)]
  have h0 : (a + m).tmod n = (a + m) % n := Int.tmod_eq_emod_of_nonneg (by omega)
  rw [h0]
  have h1 := Int.emod_nonneg (a + m) (by omega : n ≠ 0)
  rw [if_neg (by omega)]
  by_cases h2 : a + m < n
  · rw [Int.emod_eq_of_lt (by omega) h2]; omega
  · have : (a + m) % n = a + m - n := by
      rw [← Int.sub_emod_right, Int.emod_eq_of_lt (by omega) (by omega)]
    rw [this]; omega
theorem c21 (x n : Int) (hn : -1000000000 ≤ n ∧ n ≤ 1000000000) (hx : -9223372036854775808 ≤ x ∧ x ≤ 9223372036854775807) : Pure Try.prog 21 [.int .i64 x, .int .i64 n] (fun v => v = .int .i64 (fitV x n)) := by
  intro h
  by_cases h2 : n < 2
  · refine ACalls.forget (ACalls.of tab mixed Try.call21 Try.func21 rfl (fi := ⟨16, [], [], none, []⟩) rfl rfl (Nat.le_of_ble_eq_true rfl) (by decide) ?_)
    unfold startA
    repeat' (first | refine st_seq_reg rfl (by first | (simp only [go_sem]; rfl) | rfl) (by first | (simp only [go_sem]; rfl) | rfl) ?_ | refine st_reg rfl (by first | (simp only [go_sem]; rfl) | rfl) (by first | (simp only [go_sem]; rfl) | rfl) ?_ | refine st_op ?_ | refine st_det rfl (by simp (disch := omega) only [go_sem, wr_i64, if_yes, if_no, ↓reduceIte, Nat.reduceAdd, Nat.reduceMul, Nat.reduceEqDiff, Nat.reduceBEq, Nat.reduceLeDiff]; rfl) ?_ | refine st_condT rfl ?_ | refine st_condF rfl ?_ | (refine st_condS rfl ?_ ?_ <;> intro hg <;> (try simp only [decide_eq_true_eq, decide_eq_false_iff_not, Bool.not_eq_true', Bool.not_eq_false'] at hg)) | refine st_nil ?_ | refine st_tN ?_ | refine st_seq ?_ | refine st_skip ?_ | refine st_ret ?_ | refine st_tE ?_ | refine st_tR ?_)
    all_goals try (exfalso; omega)
    simp (disch := omega) only [AEnd, Try.results21, aresK, fin, go_sem, ↓reduceIte, Nat.reduceEqDiff, Nat.reduceAdd, Nat.reduceLeDiff, if_yes, if_no, implies_true, true_and, and_true, List.reverse_cons, List.reverse_nil]
    unfold fitV; rw [if_pos h2]
  have h3 : x.tmod n < n := Int.tmod_lt_of_pos _ (by omega)
  have h4 : -n < x.tmod n := Int.lt_tmod_of_pos _ (by omega)
  have e : fitV x n = if x.tmod n < 0 then x.tmod n + n else x.tmod n := by unfold fitV; rw [if_neg h2]
  refine ACalls.forget (ACalls.of tab mixed Try.call21 Try.func21 rfl (fi := ⟨16, [], [], none, []⟩) rfl rfl (Nat.le_of_ble_eq_true rfl) (by decide) ?_)
  unfold startA
  repeat' (first | refine st_seq_reg rfl (by first | (simp only [go_sem]; rfl) | rfl) (by first | (simp only [go_sem]; rfl) | rfl) ?_ | refine st_reg rfl (by first | (simp only [go_sem]; rfl) | rfl) (by first | (simp only [go_sem]; rfl) | rfl) ?_ | refine st_op ?_ | refine st_det rfl (by simp (disch := omega) only [go_sem, wr_i64, if_yes, if_no, ↓reduceIte, Nat.reduceAdd, Nat.reduceMul, Nat.reduceEqDiff, Nat.reduceBEq, Nat.reduceLeDiff]; rfl) ?_ | refine st_condT rfl ?_ | refine st_condF rfl ?_ | (refine st_condS rfl ?_ ?_ <;> intro hg <;> (try simp only [decide_eq_true_eq, decide_eq_false_iff_not, Bool.not_eq_true', Bool.not_eq_false'] at hg)) | refine st_nil ?_ | refine st_tN ?_ | refine st_seq ?_ | refine st_skip ?_ | refine st_ret ?_ | refine st_tE ?_ | refine st_tR ?_)
  all_goals try (exfalso; omega)
  all_goals
    simp (disch := omega) only [AEnd, Try.results21, aresK, fin, go_sem, ↓reduceIte, Nat.reduceEqDiff, Nat.reduceAdd, Nat.reduceLeDiff, if_yes, if_no, implies_true, true_and, and_true, List.reverse_cons, List.reverse_nil]
    first | (rw [e, if_pos (by omega)]; done) | (rw [e, if_neg (by omega)]; done)
theorem c86 (b : Nat × Nat) (lo hi : Int) (h1 : -1000000000 ≤ lo ∧ lo ≤ 1000000000) (h2 : lo ≤ hi ∧ hi - lo ≤ 1000000000) : Drum Try.prog 86 [.ptr b 0 0, .agg [.int .i64 lo, .int .i64 hi]] b (fun v => ∃ r, v = .int .i64 r ∧ lo ≤ r ∧ r ≤ hi) := by
  refine Drum.of Try.call86 fun h x hx hu hold => ?_
  refine ACalls.of tab mixed Try.call86 Try.func86 rfl (fi := ⟨21, [], [3], none, []⟩) rfl rfl (Nat.le_of_ble_eq_true rfl) (by decide) ?_
  unfold startA
  repeat' (first | refine st_seq_reg rfl (by first | (simp only [go_sem, hx]; rfl) | rfl) (by first | (simp only [go_sem, hx]; rfl) | rfl) ?_ | refine st_reg rfl (by first | (simp only [go_sem, hx]; rfl) | rfl) (by first | (simp only [go_sem, hx]; rfl) | rfl) ?_ | refine st_op ?_ | refine st_det rfl (by simp (disch := omega) only [go_sem, wr_i64, if_yes, if_no, ↓reduceIte, Nat.reduceAdd, Nat.reduceMul, Nat.reduceEqDiff, Nat.reduceBEq, Nat.reduceLeDiff, hx]; rfl) ?_ | refine st_loc rfl (by simp (disch := omega) only [go_sem, wr_i64, if_yes, if_no, ↓reduceIte, Nat.reduceAdd, Nat.reduceMul, Nat.reduceEqDiff, Nat.reduceBEq, Nat.reduceLeDiff, hx]; rfl) ?_ | refine st_heap rfl (by simp (disch := omega) only [go_sem, wr_i64, if_yes, if_no, ↓reduceIte, Nat.reduceAdd, Nat.reduceMul, Nat.reduceEqDiff, Nat.reduceBEq, Nat.reduceLeDiff, hx]; rfl) ?_ | (refine st_drum (by first | (simp (disch := omega) only [go_sem, hx]; rfl) | rfl) rfl (c18' b 4 (by omega)) (by first | (simp (disch := omega) only [go_sem, hx]; rfl) | rfl) (by assumption) (by first | (simp only [go_sem, hx]; rfl) | rfl) (by intro x' n; first | (simp (disch := omega) only [go_sem]; rfl) | rfl) ?_; rintro v x' n hu' ⟨r, rfl, hr⟩ hn) | (refine st_drum (by first | (simp (disch := omega) only [go_sem, hx]; rfl) | rfl) rfl (c62' b lo hi h1 h2) (by first | (simp (disch := omega) only [go_sem, hx]; rfl) | rfl) (by assumption) (by first | (simp only [go_sem, hx]; rfl) | rfl) (by intro x' n; first | (simp (disch := omega) only [go_sem]; rfl) | rfl) ?_; rintro v x' n hu' ⟨r, rfl, hr⟩ hn) | refine st_condT rfl ?_ | refine st_condF rfl ?_ | (refine st_condS rfl ?_ ?_ <;> intro hg <;> (try simp only [decide_eq_true_eq, decide_eq_false_iff_not, Bool.not_eq_true', Bool.not_eq_false'] at hg)) | refine st_nil ?_ | refine st_tN ?_ | refine st_seq ?_ | refine st_block ?_ | refine st_skip ?_ | refine st_exit ?_ | refine st_ret ?_ | refine st_tE ?_ | refine st_tR ?_ | refine st_bN ?_ | refine st_bR ?_ | refine st_bH ?_ | refine st_bM rfl ?_)
  all_goals
    simp (disch := omega) only [AEnd, Try.results86, aresK, fin, go_sem, ↓reduceIte, Nat.reduceEqDiff, Nat.reduceAdd, Nat.reduceLeDiff, if_yes, if_no, implies_true, true_and, and_true, List.reverse_cons, List.reverse_nil]
    exact ⟨fun b' _ h2 => if_neg h2, ⟨_, rfl, hu'⟩, ⟨_, rfl, by omega, by omega⟩⟩
theorem c63 (b : Nat × Nat) (lo hi : Int) (h1 : -100000000 ≤ lo) (h2 : lo ≤ hi ∧ hi ≤ 100000000) : Drum Try.prog 63 [.ptr b 0 0, .int .i64 lo, .int .i64 hi] b (fun v => ∃ r s, v = .agg [.int .i64 r, .int .i64 s] ∧ lo ≤ r ∧ r ≤ s ∧ s ≤ hi) := by
  refine Drum.of Try.call63 fun h x hx hu hold => ?_
  refine ACalls.of tab mixed Try.call63 Try.func63 rfl (fi := ⟨36, [6], [], none, []⟩) rfl rfl (Nat.le_of_ble_eq_true rfl) (by decide) ?_
  unfold startA
  repeat' (first | refine st_seq_reg rfl (by first | (simp only [go_sem, hx]; rfl) | rfl) (by first | (simp only [go_sem, hx]; rfl) | rfl) ?_ | refine st_reg rfl (by first | (simp only [go_sem, hx]; rfl) | rfl) (by first | (simp only [go_sem, hx]; rfl) | rfl) ?_ | refine st_op ?_ | refine st_det rfl (by simp (disch := omega) only [go_sem, wr_i64, if_yes, if_no, ↓reduceIte, Nat.reduceAdd, Nat.reduceMul, Nat.reduceEqDiff, Nat.reduceBEq, Nat.reduceLeDiff, hx]; rfl) ?_ | refine st_loc rfl (by simp (disch := omega) only [go_sem, wr_i64, if_yes, if_no, ↓reduceIte, Nat.reduceAdd, Nat.reduceMul, Nat.reduceEqDiff, Nat.reduceBEq, Nat.reduceLeDiff, hx]; rfl) ?_ | refine st_heap rfl (by simp (disch := omega) only [go_sem, wr_i64, if_yes, if_no, ↓reduceIte, Nat.reduceAdd, Nat.reduceMul, Nat.reduceEqDiff, Nat.reduceBEq, Nat.reduceLeDiff, hx]; rfl) ?_ | refine st_store (by simp (disch := omega) only [go_sem, wr_i64, if_yes, if_no, ↓reduceIte, Nat.reduceAdd, Nat.reduceMul, Nat.reduceEqDiff, Nat.reduceBEq, Nat.reduceLeDiff, hx]; rfl) ?_ | (refine st_drum (by first | (simp (disch := omega) only [go_sem, hx]; rfl) | rfl) rfl (c62' b lo hi (by omega) (by omega)) (by first | (simp (disch := omega) only [go_sem, hx]; rfl) | rfl) (by assumption) (by first | (simp only [go_sem, hx]; rfl) | rfl) (by intro x' n; first | (simp (disch := omega) only [go_sem]; rfl) | rfl) ?_; rintro v x' n hu' ⟨r, rfl, hr⟩ hn) | (refine st_drum (by first | (simp (disch := omega) only [go_sem, hx]; rfl) | rfl) rfl (c18' b 3 (by omega)) (by first | (simp (disch := omega) only [go_sem, hx]; rfl) | rfl) (by assumption) (by first | (simp only [go_sem, hx]; rfl) | rfl) (by intro x' n; first | (simp (disch := omega) only [go_sem]; rfl) | rfl) ?_; rintro v x' n hu' ⟨s, rfl, hs⟩ hn) | refine st_condT rfl ?_ | refine st_condF rfl ?_ | (refine st_condS rfl ?_ ?_ <;> intro hg <;> (try simp only [decide_eq_true_eq, decide_eq_false_iff_not, Bool.not_eq_true', Bool.not_eq_false'] at hg)) | refine st_nil ?_ | refine st_tN ?_ | refine st_seq ?_ | refine st_block ?_ | refine st_skip ?_ | refine st_exit ?_ | refine st_ret ?_ | refine st_tE ?_ | refine st_tR ?_ | refine st_bN ?_ | refine st_bR ?_ | refine st_bH ?_ | refine st_bM rfl ?_)
  · simp (disch := omega) only [AEnd, Try.results63, aresK, fin, go_sem, ↓reduceIte, Nat.reduceEqDiff, Nat.reduceAdd, Nat.reduceLeDiff, if_yes, if_no, implies_true, true_and, and_true, List.reverse_cons, List.reverse_nil]
    exact ⟨fun b' _ h2 => if_neg h2, ⟨_, rfl, by assumption⟩, ⟨_, _, rfl, by omega, by omega, by omega⟩⟩
  · repeat' (first | refine st_seq_reg rfl (by first | (simp only [go_sem]; rfl) | rfl) (by first | (simp only [go_sem]; rfl) | rfl) ?_ | refine st_reg rfl (by first | (simp only [go_sem]; rfl) | rfl) (by first | (simp only [go_sem]; rfl) | rfl) ?_ | refine st_op ?_ | refine st_det rfl (by simp (disch := omega) only [go_sem, wr_i64, if_yes, if_no, ↓reduceIte, Nat.reduceAdd, Nat.reduceMul, Nat.reduceEqDiff, Nat.reduceBEq, Nat.reduceLeDiff]; rfl) ?_ | refine st_loc rfl (by simp (disch := omega) only [go_sem, wr_i64, if_yes, if_no, ↓reduceIte, Nat.reduceAdd, Nat.reduceMul, Nat.reduceEqDiff, Nat.reduceBEq, Nat.reduceLeDiff]; rfl) ?_ | refine st_heap rfl (by simp (disch := omega) only [go_sem, wr_i64, if_yes, if_no, ↓reduceIte, Nat.reduceAdd, Nat.reduceMul, Nat.reduceEqDiff, Nat.reduceBEq, Nat.reduceLeDiff]; rfl) ?_ | refine st_store (by simp (disch := omega) only [go_sem, wr_i64, if_yes, if_no, ↓reduceIte, Nat.reduceAdd, Nat.reduceMul, Nat.reduceEqDiff, Nat.reduceBEq, Nat.reduceLeDiff]; rfl) ?_ | (refine st_drum (by first | (simp (disch := omega) only [go_sem]; rfl) | rfl) rfl (c62' b r (min hi (r + 3)) (by omega) (by omega)) (by first | (simp (disch := omega) only [go_sem]; rfl) | rfl) (by assumption) (by first | (simp only [go_sem]; rfl) | rfl) (by intro x' n; first | (simp (disch := omega) only [go_sem]; rfl) | rfl) ?_; rintro v x' n hu' ⟨r2, rfl, hr2⟩ hn) | refine st_condT rfl ?_ | refine st_condF rfl ?_ | (refine st_condS rfl ?_ ?_ <;> intro hg <;> (try simp only [decide_eq_true_eq, decide_eq_false_iff_not, Bool.not_eq_true', Bool.not_eq_false'] at hg)) | refine st_nil ?_ | refine st_tN ?_ | refine st_seq ?_ | refine st_block ?_ | refine st_skip ?_ | refine st_exit ?_ | refine st_ret ?_ | refine st_tE ?_ | refine st_tR ?_ | refine st_bN ?_ | refine st_bR ?_ | refine st_bH ?_ | refine st_bM rfl ?_)
    simp (disch := omega) only [AEnd, Try.results63, aresK, fin, go_sem, ↓reduceIte, Nat.reduceEqDiff, Nat.reduceAdd, Nat.reduceLeDiff, if_yes, if_no, implies_true, true_and, and_true, List.reverse_cons, List.reverse_nil]
    exact ⟨fun b' _ h2 => if_neg h2, ⟨_, rfl, by assumption⟩, ⟨_, _, rfl, by omega, by omega, by omega⟩⟩
  · repeat' (first | refine st_seq_reg rfl (by first | (simp only [go_sem]; rfl) | rfl) (by first | (simp only [go_sem]; rfl) | rfl) ?_ | refine st_reg rfl (by first | (simp only [go_sem]; rfl) | rfl) (by first | (simp only [go_sem]; rfl) | rfl) ?_ | refine st_op ?_ | refine st_det rfl (by simp (disch := omega) only [go_sem, wr_i64, if_yes, if_no, ↓reduceIte, Nat.reduceAdd, Nat.reduceMul, Nat.reduceEqDiff, Nat.reduceBEq, Nat.reduceLeDiff]; rfl) ?_ | refine st_loc rfl (by simp (disch := omega) only [go_sem, wr_i64, if_yes, if_no, ↓reduceIte, Nat.reduceAdd, Nat.reduceMul, Nat.reduceEqDiff, Nat.reduceBEq, Nat.reduceLeDiff]; rfl) ?_ | refine st_heap rfl (by simp (disch := omega) only [go_sem, wr_i64, if_yes, if_no, ↓reduceIte, Nat.reduceAdd, Nat.reduceMul, Nat.reduceEqDiff, Nat.reduceBEq, Nat.reduceLeDiff]; rfl) ?_ | refine st_store (by simp (disch := omega) only [go_sem, wr_i64, if_yes, if_no, ↓reduceIte, Nat.reduceAdd, Nat.reduceMul, Nat.reduceEqDiff, Nat.reduceBEq, Nat.reduceLeDiff]; rfl) ?_ | (refine st_drum (by first | (simp (disch := omega) only [go_sem]; rfl) | rfl) rfl (c62' b r hi (by omega) (by omega)) (by first | (simp (disch := omega) only [go_sem]; rfl) | rfl) (by assumption) (by first | (simp only [go_sem]; rfl) | rfl) (by intro x' n; first | (simp (disch := omega) only [go_sem]; rfl) | rfl) ?_; rintro v x' n hu' ⟨r2, rfl, hr2⟩ hn) | refine st_condT rfl ?_ | refine st_condF rfl ?_ | (refine st_condS rfl ?_ ?_ <;> intro hg <;> (try simp only [decide_eq_true_eq, decide_eq_false_iff_not, Bool.not_eq_true', Bool.not_eq_false'] at hg)) | refine st_nil ?_ | refine st_tN ?_ | refine st_seq ?_ | refine st_block ?_ | refine st_skip ?_ | refine st_exit ?_ | refine st_ret ?_ | refine st_tE ?_ | refine st_tR ?_ | refine st_bN ?_ | refine st_bR ?_ | refine st_bH ?_ | refine st_bM rfl ?_)
    simp (disch := omega) only [AEnd, Try.results63, aresK, fin, go_sem, ↓reduceIte, Nat.reduceEqDiff, Nat.reduceAdd, Nat.reduceLeDiff, if_yes, if_no, implies_true, true_and, and_true, List.reverse_cons, List.reverse_nil]
    exact ⟨fun b' _ h2 => if_neg h2, ⟨_, rfl, by assumption⟩, ⟨_, _, rfl, by omega, by omega, by omega⟩⟩
theorem c40 (b : Nat × Nat) (lo hi : Int) (h1 : -1000000000 ≤ lo ∧ lo ≤ 1000000000) (h2 : lo ≤ hi ∧ hi - lo ≤ 1000000000) : Drum Try.prog 40 [.ptr b 0 0, .agg [.int .i64 lo, .int .i64 hi]] b (fun v => ∃ r s, v = .agg [.int .i64 r, .int .i64 s] ∧ lo ≤ r ∧ r ≤ s ∧ s ≤ hi) := by
  refine Drum.of Try.call40 fun h x hx hu hold => ?_
  refine ACalls.of tab mixed Try.call40 Try.func40 rfl (fi := ⟨20, [4], [3], none, [(1, [0, 0, 3, 0, 0, 31, 63, 127], [(0, false), (1, true), (3, false), (4, true), (2, false), (5, false), (6, false), (7, false)])]⟩) rfl rfl (Nat.le_of_ble_eq_true rfl) (by decide) ?_
  unfold startA
  repeat' (first | refine st_seq_reg rfl (by first | (simp only [go_sem, hx]; rfl) | rfl) (by first | (simp only [go_sem, hx]; rfl) | rfl) ?_ | refine st_reg rfl (by first | (simp only [go_sem, hx]; rfl) | rfl) (by first | (simp only [go_sem, hx]; rfl) | rfl) ?_ | refine st_seq_draw rfl (by first | (simp only [go_sem, hx]; rfl) | rfl) (by first | (simp only [go_sem, hx]; rfl) | rfl) ?_ | refine st_draw rfl (by first | (simp only [go_sem, hx]; rfl) | rfl) (by first | (simp only [go_sem, hx]; rfl) | rfl) ?_ | refine st_op ?_ | refine st_det rfl (by simp (disch := omega) only [go_sem, wr_i64, if_yes, if_no, ↓reduceIte, Nat.reduceAdd, Nat.reduceMul, Nat.reduceEqDiff, Nat.reduceBEq, Nat.reduceLeDiff, hx]; rfl) ?_ | refine st_dop rfl ?_ | refine st_loc rfl (by simp (disch := omega) only [go_sem, wr_i64, if_yes, if_no, ↓reduceIte, Nat.reduceAdd, Nat.reduceMul, Nat.reduceEqDiff, Nat.reduceBEq, Nat.reduceLeDiff, hx]; rfl) ?_ | refine st_heap rfl (by simp (disch := omega) only [go_sem, wr_i64, if_yes, if_no, ↓reduceIte, Nat.reduceAdd, Nat.reduceMul, Nat.reduceEqDiff, Nat.reduceBEq, Nat.reduceLeDiff, hx]; rfl) ?_ | refine st_store (by simp (disch := omega) only [go_sem, wr_i64, if_yes, if_no, ↓reduceIte, Nat.reduceAdd, Nat.reduceMul, Nat.reduceEqDiff, Nat.reduceBEq, Nat.reduceLeDiff, hx]; rfl) ?_ | (refine st_drum (by first | (simp (disch := omega) only [go_sem, hx]; rfl) | rfl) rfl (c86 b lo hi h1 h2) (by first | (simp (disch := omega) only [go_sem, hx]; rfl) | rfl) (by assumption) (by first | (simp only [go_sem, hx]; rfl) | rfl) (by intro x' n; first | (simp (disch := omega) only [go_sem]; rfl) | rfl) ?_; rintro v x' n hu' ⟨r, rfl, hr⟩ hn) | refine st_nil ?_ | refine st_dnil ?_ | refine st_tN ?_ | refine st_seq ?_ | refine st_skip ?_ | refine st_ret ?_ | refine st_tE ?_ | refine st_tR ?_)
  simp (disch := omega) only [AEnd, Try.results40, aresK, fin, go_sem, ↓reduceIte, Nat.reduceEqDiff, Nat.reduceAdd, Nat.reduceLeDiff, if_yes, if_no, implies_true, true_and, and_true, List.reverse_cons, List.reverse_nil]
  exact ⟨fun b' _ h2 => if_neg h2, ⟨_, rfl, hu'⟩, ⟨_, _, rfl, by omega, by omega, by omega⟩⟩
end Go.Proofs.Ythjbfdfhblloiaa

/- Contracts of functions that the claim reaches: what each call gives, told in our own logic. Conditions: those of each theorem. -/
set_option linter.all false
set_option linter.unusedSimpArgs false
set_option linter.unusedVariables false
namespace Go.Proofs.Ythjbfdfhblloiaa
open Go.Av
set_option maxRecDepth 20000
/-! ### Choices, squares that are too full, and proofs, plain -/
def catN {α : Type} (g : Nat → List α) : Nat → List α
  | 0 => []
  | k + 1 => catN g k ++ g k
def catK (g : Nat → List (List Int)) (a : Nat) : Nat → List (List Int)
  | 0 => []
  | k + 1 => catK g a k ++ g (a + k)
/-- All lists of so many numbers, ascending, from one on and below another. -/
def chs (n : Nat) : Nat → Nat → List (List Int)
  | 0, _ => [[]]
  | m + 1, a => catK (fun i => (chs n m (i + 1)).map (((i : Nat) : Int) :: ·)) a (n - a)
/-- The state in which some streets are closed. -/
def cls (l : List Int) (i : Nat) : Int := if l.contains ((i : Nat) : Int) then 2 else 1
structure Cr where
  step : Int
  sq : Int
  most : Int
def Cr.row (x : Cr) : List AV := [.int .i64 x.step, .int .i64 x.sq, .int .i64 x.most]
@[go_sem] theorem Cr.row_eq (x : Cr) : x.row = [.int .i64 x.step, .int .i64 x.sq, .int .i64 x.most] := rfl
def crF (t : Tw) (s : Nat → Int) (st q : Nat) : List Cr := if elt t.rooms q < ldHi t s (q : Nat) (st : Nat) then [⟨(st : Nat), (q : Nat), ldHi t s (q : Nat) (st : Nat)⟩] else []
def crS (t : Tw) (s : Nat → Int) (st : Nat) : List Cr := catN (crF t s st) t.rooms.length
def crL (t : Tw) (s : Nat → Int) : List Cr := catN (crS t s) (t.steps + 1).toNat
def chsAll (n most : Nat) : List (List Int) := catN (fun m => chs n m 0) (min most n + 1)
/-- The fewest streets to close, at most so many. -/
def clo (t : Tw) (most : Nat) : Option (List Int) := (chsAll t.sts.length most).find? fun l => (crL t (cls l)).isEmpty
structure Rn where
  kind : Int
  st : Int
  sq : Int
  step : Int
  deriving DecidableEq
def Rn.row (x : Rn) : List AV := [.int .i64 x.kind, .int .i64 x.st, .int .i64 x.sq, .int .i64 x.step]
@[go_sem] theorem Rn.row_eq (x : Rn) : x.row = [.int .i64 x.kind, .int .i64 x.st, .int .i64 x.sq, .int .i64 x.step] := rfl
/-- How many streets are closed in a state. -/
def shN (s : List Int) : Int := sumF (fun i => if elt s i = 2 then 1 else 0) s.length
/-- What is left of a list behind the proof that it begins with. -/
def pvd (t : Tw) (most : Int) : Nat → List Int → List Rn → Option (List Rn)
  | 0, _, _ => none
  | _ + 1, _, [] => none
  | k + 1, s, r :: rest =>
    if r = ⟨3, 0, 0, 0⟩ then (if most < shN s then some rest else none)
    else if r.kind = 2 ∧ r.st = 0 then (if 0 ≤ r.sq ∧ r.sq < t.rooms.length ∧ 0 ≤ r.step ∧ r.step ≤ t.steps ∧ elt t.rooms r.sq.toNat < ldHi t (elt s) r.sq r.step then some rest else none)
    else if r.kind = 1 ∧ r.sq = 0 ∧ r.step = 0 then
      (if 0 ≤ r.st ∧ r.st < t.sts.length ∧ elt s r.st.toNat = 0 then match pvd t most k (s.set r.st.toNat 1) rest with
        | none => none
        | some r2 => pvd t most k (s.set r.st.toNat 2) r2
       else none)
    else none
end Go.Proofs.Ythjbfdfhblloiaa

/- Contracts of functions that the claim reaches: what each call gives, told in our own logic. Conditions: those of each theorem. -/
set_option linter.all false
set_option linter.unusedSimpArgs false
set_option linter.unusedVariables false
namespace Go.Proofs.Ythjbfdfhblloiaa
open Go.Av
set_option maxRecDepth 20000
/-! ### Towns that are valid -/
theorem spanE_ok {lo hi m : Int} (h : 0 ≤ lo ∧ lo ≤ hi ∧ hi ≤ m) : spanE lo hi m = 0 := by
  unfold spanE; rw [if_neg (by omega), if_neg (by omega)]
theorem grpE_ok {t : Tw} {g : Gp} (h : GpOk t g) : grpE t g = 0 := by
  have h1 := h.stay; have h2 := h.first; have h3 := h.many
  unfold grpE
  rw [spanE_ok h.size, spanE_ok h.at_, if_neg (by simp), if_neg (by simp), if_neg (by omega), if_neg (by omega), if_neg (by omega)]
  refine errN_all fun i hi => ?_
  have a := h.st i hi
  have b := h.way (i + 1) (by omega)
  unfold pathF
  rw [if_neg (by omega), if_neg (by omega)]
theorem allIn_of {lo hi : Int} : ∀ {l : List Int}, (∀ i, i < l.length → lo ≤ elt l i ∧ elt l i ≤ hi) → allIn lo hi l = true
  | [], _ => rfl
  | x :: l, h => by
    have h0 := h 0 (by simp)
    have ih := allIn_of (l := l) fun i hi => by have := h (i + 1) (by simpa using hi); simpa [elt] using this
    have e : elt (x :: l) 0 = x := rfl
    rw [e] at h0
    show (decide (lo ≤ x ∧ x ≤ hi) && allIn lo hi l) = true
    rw [ih, decide_eq_true h0]; rfl
theorem chkE_ok {t : Tw} (h : TwOk t) : chkE t = 0 := by
  have h1 := h.r0; have h2 := h.rn; have h3 := h.sn; have h4 := h.steps; have h5 := h.gn
  have e1 : errN (stE t) t.sts.length = 0 := errN_all fun i hi => by
    have a := h.st i hi
    unfold stE; rw [if_neg (by omega), if_neg (by omega)]
  unfold chkE
  rw [if_neg (by omega), if_neg (by omega), allIn_of h.room, if_neg (by simp), if_neg (by omega), e1, if_neg (by simp), if_neg (by omega), if_neg (by omega)]
  exact errN_all fun i hi => grpE_ok (h.g i hi)
/-- Only rooms and streets count for a group. -/
theorem wayN_congr {t u : Tw} (h : t.sts = u.sts) (p : List Int) (q : Int) : ∀ i, wayN t p q i = wayN u p q i
  | 0 => rfl
  | i + 1 => by show oth (sx t.sts _) (wayN t p q i) = _; rw [wayN_congr h p q i, h]; rfl
theorem GpOk.congr {t u : Tw} {g : Gp} (h : GpOk t g) (h1 : t.rooms = u.rooms) (h2 : t.sts = u.sts) : GpOk u g :=
  ⟨h.size, h.at_, h.stay, by rw [← h1]; exact h.first, h.many, by rw [← h2]; exact h.st, fun i hi => by rw [← wayN_congr h2]; exact h.way i hi⟩
theorem elt_app {l : List Int} {r : Int} {i : Nat} (h : i < l.length) : elt (l ++ [r]) i = elt l i := by
  unfold elt; simp only [List.getD_eq_getElem?_getD]; rw [List.getElem?_append_left h]
theorem elt_last {l : List Int} {r : Int} : elt (l ++ [r]) l.length = r := by
  unfold elt; simp only [List.getD_eq_getElem?_getD]; simp
theorem wayN_app {t : Tw} {p : List Int} {q r : Int} : ∀ i, i ≤ p.length → wayN t (p ++ [r]) q i = wayN t p q i
  | 0, _ => rfl
  | i + 1, h => by
    show oth (sx t.sts (elt (p ++ [r]) i).toNat) (wayN t (p ++ [r]) q i) = oth (sx t.sts (elt p i).toNat) (wayN t p q i)
    rw [elt_app (by omega), wayN_app i (by omega)]
/-- A path that leads somewhere. -/
structure PtOk (t : Tw) (q : Int) (p : List Int) : Prop where
  st : ∀ i, i < p.length → 0 ≤ elt p i ∧ elt p i < t.sts.length
  way : ∀ i, i ≤ p.length → 0 ≤ wayN t p q i
theorem PtOk.add {t : Tw} {q : Int} {p : List Int} {r : Int} (h : PtOk t q p) (hr : 0 ≤ r ∧ r < t.sts.length) (hw : 0 ≤ oth (sx t.sts r.toNat) (wayN t p q p.length)) : PtOk t q (p ++ [r]) ∧ wayN t (p ++ [r]) q (p ++ [r]).length = oth (sx t.sts r.toNat) (wayN t p q p.length) := by
  have hl : (p ++ [r]).length = p.length + 1 := by simp
  have e : wayN t (p ++ [r]) q (p.length + 1) = oth (sx t.sts r.toNat) (wayN t p q p.length) := by
    show oth (sx t.sts (elt (p ++ [r]) p.length).toNat) (wayN t (p ++ [r]) q p.length) = _
    rw [elt_last, wayN_app _ (Nat.le_refl _)]
  refine ⟨⟨fun i hi => ?_, fun i hi => ?_⟩, by rw [hl]; exact e⟩
  · by_cases c : i < p.length
    · rw [elt_app c]; exact h.st i c
    · obtain rfl : i = p.length := by omega
      rw [elt_last]; exact hr
  · by_cases c : i ≤ p.length
    · rw [wayN_app i c]; exact h.way i c
    · obtain rfl : i = p.length + 1 := by omega
      rw [e]; exact hw
structure GpGood (t : Tw) (g : Gp) : Prop where
  size : 0 ≤ g.lo ∧ g.lo ≤ g.hi ∧ g.hi ≤ 90
  at_ : 0 ≤ g.alo ∧ g.alo ≤ g.ahi ∧ g.ahi ≤ 4
  stay : 1 ≤ g.stay ∧ g.stay ≤ 4
  first : 0 ≤ g.first ∧ g.first < t.rooms.length
  many : g.path.length ≤ 4
  pt : PtOk t g.first g.path
structure TwGood (t : Tw) (SQ ST GR : Int) : Prop where
  r0 : 0 < t.rooms.length
  rn : (t.rooms.length : Int) ≤ SQ
  room : ∀ x ∈ t.rooms, 0 ≤ x ∧ x ≤ 500
  sn : (t.sts.length : Int) ≤ ST
  st : ∀ x ∈ t.sts, 0 ≤ x.a ∧ x.a < t.rooms.length ∧ 0 ≤ x.b ∧ x.b < t.rooms.length ∧ x.a ≠ x.b
  steps : 0 ≤ t.steps ∧ t.steps ≤ 10
  gn : (t.gs.length : Int) ≤ GR
  g : ∀ x ∈ t.gs, GpGood t x
theorem TwGood.ok {t : Tw} {SQ ST GR : Int} (h : TwGood t SQ ST GR) (h1 : SQ ≤ 12) (h2 : ST ≤ 12) (h3 : GR ≤ 12) : TwOk t := by
  have a := h.rn; have b := h.sn; have c := h.gn; have d := h.steps
  refine ⟨h.r0, by omega, fun i hi => ?_, by omega, fun i hi => h.st _ (sx_mem hi), by omega, by omega, fun i hi => ?_⟩
  · have := h.room _ (elt_mem hi); omega
  · have k := h.g _ (gp_mem hi)
    have k1 := k.size; have k2 := k.at_; have k3 := k.stay; have k4 := k.many
    exact ⟨by omega, by omega, by omega, k.first, by omega, k.pt.st, k.pt.way⟩
/-- Closed streets: ascending. -/
structure ClOk (t : Tw) (c : List Int) (j : Nat) : Prop where
  len : c.length ≤ j
  bd : ∀ i, i < c.length → 0 ≤ elt c i ∧ elt c i < j
  up : ∀ i, 0 < i → i < c.length → elt c (i - 1) < elt c i
theorem ClOk.mono {t : Tw} {c : List Int} {j k : Nat} (h : ClOk t c j) (hk : j ≤ k) : ClOk t c k := ⟨by have := h.len; omega, fun i hi => by have := h.bd i hi; omega, h.up⟩
theorem ClOk.add {t : Tw} {c : List Int} {j : Nat} (h : ClOk t c j) : ClOk t (c ++ [((j : Nat) : Int)]) (j + 1) := by
  have hl := h.len
  have hl1 : (c ++ [((j : Nat) : Int)]).length = c.length + 1 := by simp
  refine ⟨by omega, fun i hi => ?_, fun i h0 hi => ?_⟩
  · by_cases q : i < c.length
    · rw [elt_app q]; have := h.bd i q; omega
    · obtain rfl : i = c.length := by omega
      rw [elt_last]; omega
  · by_cases q : i < c.length
    · rw [elt_app q, elt_app (by omega)]; exact h.up i h0 q
    · obtain rfl : i = c.length := by omega
      rw [elt_last, elt_app (by omega)]; exact (h.bd _ (by omega)).2
theorem ClOk.cloE {t : Tw} {c : List Int} (h : ClOk t c t.sts.length) (hT : chkE t = 0) : cloE t c = 0 := by
  unfold Go.Proofs.Ythjbfdfhblloiaa.cloE
  rw [if_neg (fun e => e hT)]
  refine errN_all fun i hi => ?_
  have a := h.bd i hi
  unfold cloF
  rw [if_neg (by omega), if_neg]
  rintro ⟨h0, h1⟩
  have := h.up i h0 hi
  omega
end Go.Proofs.Ythjbfdfhblloiaa

/- Contracts of functions that the claim reaches: what each call gives, told in our own logic. Conditions: those of each theorem. -/
set_option linter.all false
set_option linter.unusedSimpArgs false
set_option linter.unusedVariables false
namespace Go.Proofs.Ythjbfdfhblloiaa
open Go.Av
attribute [local irreducible] thenA blockA awp awpOps awpD awp1
set_option maxHeartbeats 8000000
set_option maxRecDepth 20000
/-! ### Small functions of both packages -/
theorem elt_def (l : List Int) (i : Nat) : elt l i = l.getD i 0 := rfl
theorem c68 (lo hi : Int) (es : List Int) (hl : (es.length : Int) < 1000000) : Pure Try.prog 68 [.int .i64 lo, .int .i64 hi, .lst 1 (es.map iv)] (fun v => v = .bool (allIn lo hi es)) := by
  intro h
  refine ACalls.forget (ACalls.of tab mixed Try.call68 Try.func68 rfl (fi := ⟨24, [], [], none, []⟩) rfl rfl (Nat.le_of_ble_eq_true rfl) (by decide) ?_)
  unfold startA
  repeat' (first | refine st_seq_reg rfl (by first | (simp only [go_sem]; rfl) | rfl) (by first | (simp only [go_sem]; rfl) | rfl) ?_ | refine st_reg rfl (by first | (simp only [go_sem]; rfl) | rfl) (by first | (simp only [go_sem]; rfl) | rfl) ?_ | refine st_op ?_ | refine st_det rfl (by simp (disch := omega) only [go_sem, wr_i64, if_yes, if_no, ↓reduceIte, Nat.reduceAdd, Nat.reduceMul, Nat.reduceEqDiff, Nat.reduceBEq, Nat.reduceLeDiff]; rfl) ?_ | refine st_gT rfl rfl rfl ?_ | refine st_gF rfl rfl rfl ?_ | (refine st_gS rfl rfl ?_ ?_ <;> intro hg <;> (try simp only [decide_eq_true_eq, decide_eq_false_iff_not, Bool.not_eq_true', Bool.not_eq_false'] at hg)) | refine st_condT rfl ?_ | refine st_condF rfl ?_ | (refine st_condS rfl ?_ ?_ <;> intro hg <;> (try simp only [decide_eq_true_eq, decide_eq_false_iff_not, Bool.not_eq_true', Bool.not_eq_false'] at hg)) | refine st_nil ?_ | refine st_tN ?_ | refine st_seq ?_ | refine st_block ?_ | refine st_skip ?_ | refine st_exit ?_ | refine st_ret ?_ | refine st_tE ?_ | refine st_tR ?_ | refine st_bN ?_ | refine st_bR ?_ | refine st_bH ?_ | refine st_bM rfl ?_)
  refine st_loopC (α := Nat) tab mixed [] [] (by repeat (first | exact trivial | refine ⟨rfl, ?_⟩)) [] [] (by repeat (first | exact trivial | refine ⟨rfl, ?_⟩)) (fun i => [(11, .int .i64 i)]) [(0, _), (1, _), (6, _), (9, _), (10, _)] (fun _ => []) [] (fun i => i ≤ es.length ∧ allIn lo hi (es.drop i) = allIn lo hi es) (fun i => es.length - i) (by decide) 0 ⟨by omega, rfl⟩ (by (try simp only [go_sem]); repeat' (first | exact trivial | refine And.intro ?_ ?_ | rfl | (simp (disch := omega) only [go_sem, if_yes, if_no, ↓reduceIte, Nat.reduceAdd, Nat.reduceMul, Nat.reduceEqDiff, Nat.reduceBEq, Nat.reduceLeDiff]; rfl) | (simp (disch := omega) only [go_sem, if_yes, if_no, ↓reduceIte, Nat.reduceAdd, Nat.reduceMul, Nat.reduceEqDiff, Nat.reduceBEq, Nat.reduceLeDiff]))) (by (try simp only [go_sem]); repeat' (first | exact trivial | refine And.intro ?_ ?_ | rfl | (simp (disch := omega) only [go_sem, if_yes, if_no, ↓reduceIte, Nat.reduceAdd, Nat.reduceMul, Nat.reduceEqDiff, Nat.reduceBEq, Nat.reduceLeDiff]; rfl) | (simp (disch := omega) only [go_sem, if_yes, if_no, ↓reduceIte, Nat.reduceAdd, Nat.reduceMul, Nat.reduceEqDiff, Nat.reduceBEq, Nat.reduceLeDiff]))) (by first | (simp only [go_sem]; rfl) | rfl) (by intro n; simp only [go_sem]; rfl) ?_
  rintro i c ⟨hi', hall⟩ hc
  simp only [go_sem]
  repeat' (first | refine st_seq_reg rfl (by first | (simp only [go_sem]; rfl) | rfl) (by first | (simp only [go_sem]; rfl) | rfl) ?_ | refine st_reg rfl (by first | (simp only [go_sem]; rfl) | rfl) (by first | (simp only [go_sem]; rfl) | rfl) ?_ | refine st_op ?_ | refine st_det rfl (by simp (disch := omega) only [go_sem, wr_i64, if_yes, if_no, ↓reduceIte, Nat.reduceAdd, Nat.reduceMul, Nat.reduceEqDiff, Nat.reduceBEq, Nat.reduceLeDiff]; rfl) ?_ | refine st_gT rfl rfl rfl ?_ | refine st_gF rfl rfl rfl ?_ | (refine st_gS rfl rfl ?_ ?_ <;> intro hg <;> (try simp only [decide_eq_true_eq, decide_eq_false_iff_not, Bool.not_eq_true', Bool.not_eq_false'] at hg)) | refine st_condT rfl ?_ | refine st_condF rfl ?_ | (refine st_condS rfl ?_ ?_ <;> intro hg <;> (try simp only [decide_eq_true_eq, decide_eq_false_iff_not, Bool.not_eq_true', Bool.not_eq_false'] at hg)) | refine st_nil ?_ | refine st_tN ?_ | refine st_seq ?_ | refine st_block ?_ | refine st_skip ?_ | refine st_exit ?_ | refine st_ret ?_ | refine st_tE ?_ | refine st_tR ?_ | refine st_bN ?_ | refine st_bR ?_ | refine st_bH ?_ | refine st_bM rfl ?_)
  · simp (disch := omega) only [AEnd, Try.results68, aresK, fin, go_sem, ↓reduceIte, Nat.reduceEqDiff, Nat.reduceAdd, Nat.reduceLeDiff, if_yes, if_no, implies_true, true_and, and_true, List.reverse_cons, List.reverse_nil]
    rw [← hall, drop_getD 0 (by omega)]; simp [allIn, ← elt_def, -List.getD_eq_getElem?_getD]; omega
  · simp (disch := omega) only [AEnd, Try.results68, aresK, fin, go_sem, ↓reduceIte, Nat.reduceEqDiff, Nat.reduceAdd, Nat.reduceLeDiff, if_yes, if_no, implies_true, true_and, and_true, List.reverse_cons, List.reverse_nil]
    rw [← hall, drop_getD 0 (by omega)]; simp [allIn, ← elt_def, -List.getD_eq_getElem?_getD]; omega
  · refine ⟨i + 1, ⟨by omega, by rw [← hall, drop_getD 0 (by omega : i < es.length)]; simp [allIn, ← elt_def, -List.getD_eq_getElem?_getD]; omega⟩, by omega, (by repeat' (first | exact trivial | refine And.intro ?_ ?_ | rfl | (simp (disch := omega) only [go_sem, if_yes, if_no, ↓reduceIte, Nat.reduceAdd, Nat.reduceMul, Nat.reduceEqDiff, Nat.reduceBEq, Nat.reduceLeDiff]; rfl) | (simp (disch := omega) only [go_sem, if_yes, if_no, ↓reduceIte, Nat.reduceAdd, Nat.reduceMul, Nat.reduceEqDiff, Nat.reduceBEq, Nat.reduceLeDiff]))), (by repeat' (first | exact trivial | refine And.intro ?_ ?_ | rfl | (simp (disch := omega) only [go_sem, if_yes, if_no, ↓reduceIte, Nat.reduceAdd, Nat.reduceMul, Nat.reduceEqDiff, Nat.reduceBEq, Nat.reduceLeDiff]; rfl) | (simp (disch := omega) only [go_sem, if_yes, if_no, ↓reduceIte, Nat.reduceAdd, Nat.reduceMul, Nat.reduceEqDiff, Nat.reduceBEq, Nat.reduceLeDiff]))), rfl, HOld.of _ (by omega)⟩
  · simp (disch := omega) only [AEnd, Try.results68, aresK, fin, go_sem, ↓reduceIte, Nat.reduceEqDiff, Nat.reduceAdd, Nat.reduceLeDiff, if_yes, if_no, implies_true, true_and, and_true, List.reverse_cons, List.reverse_nil]
    rw [← hall, List.drop_eq_nil_of_le (by omega)]; rfl
theorem c68a (lo hi a : Int) : Pure Try.prog 68 [.int .i64 lo, .int .i64 hi, .lst 1 [[.int .i64 a]]] (fun v => v = .bool (decide (lo ≤ a ∧ a ≤ hi))) := by
  have h := c68 lo hi [a] (by simp)
  have e : allIn lo hi [a] = decide (lo ≤ a ∧ a ≤ hi) := by simp [allIn]
  rw [e] at h; exact h
theorem c68b (lo hi a b : Int) : Pure Try.prog 68 [.int .i64 lo, .int .i64 hi, .lst 1 [[.int .i64 a], [.int .i64 b]]] (fun v => v = .bool (decide (lo ≤ a ∧ a ≤ hi ∧ lo ≤ b ∧ b ≤ hi))) := by
  have h := c68 lo hi [a, b] (by simp)
  have e : allIn lo hi [a, b] = decide (lo ≤ a ∧ a ≤ hi ∧ lo ≤ b ∧ b ≤ hi) := by simp [allIn, Bool.decide_and, Bool.and_assoc]
  rw [e] at h; exact h
theorem c76 (s : Sx) (q : Int) : Pure Try.prog 76 [.agg s.row, .int .i64 q] (fun v => v = .int .i64 (oth s q)) := by
  intro h
  refine ACalls.forget (ACalls.of tab mixed Try.call76 Try.func76 rfl (fi := ⟨18, [], [2], none, []⟩) rfl rfl (Nat.le_of_ble_eq_true rfl) (by decide) ?_)
  unfold startA
  simp only [go_sem]
  repeat' (first | refine st_seq_reg rfl (by first | (simp only [go_sem]; rfl) | rfl) (by first | (simp only [go_sem]; rfl) | rfl) ?_ | refine st_reg rfl (by first | (simp only [go_sem]; rfl) | rfl) (by first | (simp only [go_sem]; rfl) | rfl) ?_ | refine st_op ?_ | refine st_det rfl (by simp (disch := omega) only [go_sem, wr_i64, if_yes, if_no, ↓reduceIte, Nat.reduceAdd, Nat.reduceMul, Nat.reduceEqDiff, Nat.reduceBEq, Nat.reduceLeDiff]; rfl) ?_ | refine st_loc rfl (by simp (disch := omega) only [go_sem, wr_i64, if_yes, if_no, ↓reduceIte, Nat.reduceAdd, Nat.reduceMul, Nat.reduceEqDiff, Nat.reduceBEq, Nat.reduceLeDiff]; rfl) ?_ | refine st_heap rfl (by simp (disch := omega) only [go_sem, wr_i64, if_yes, if_no, ↓reduceIte, Nat.reduceAdd, Nat.reduceMul, Nat.reduceEqDiff, Nat.reduceBEq, Nat.reduceLeDiff]; rfl) ?_ | refine st_condT rfl ?_ | refine st_condF rfl ?_ | (refine st_condS rfl ?_ ?_ <;> intro hg <;> (try simp only [decide_eq_true_eq, decide_eq_false_iff_not, Bool.not_eq_true', Bool.not_eq_false'] at hg)) | refine st_nil ?_ | refine st_tN ?_ | refine st_seq ?_ | refine st_block ?_ | refine st_skip ?_ | refine st_exit ?_ | refine st_ret ?_ | refine st_tE ?_ | refine st_tR ?_ | refine st_bN ?_ | refine st_bR ?_ | refine st_bH ?_ | refine st_bM rfl ?_)
  all_goals
    simp (disch := omega) only [AEnd, Try.results76, aresK, fin, go_sem, ↓reduceIte, Nat.reduceEqDiff, Nat.reduceAdd, Nat.reduceLeDiff, if_yes, if_no, implies_true, true_and, and_true, List.reverse_cons, List.reverse_nil]
    unfold oth; first | rw [if_pos ‹q = s.a›] | rw [if_neg ‹¬ q = s.a›, if_pos ‹q = s.b›] | rw [if_neg ‹¬ q = s.a›, if_neg ‹¬ q = s.b›]
theorem c64 (s : Sx) (q : Int) : Pure Try.prog 64 [.agg s.row, .int .i64 q] (fun v => v = .int .i64 (oth s q)) := by
  intro h
  refine ACalls.forget (ACalls.of tab mixed Try.call64 Try.func64 rfl (fi := ⟨18, [], [2], none, []⟩) rfl rfl (Nat.le_of_ble_eq_true rfl) (by decide) ?_)
  unfold startA
  simp only [go_sem]
  repeat' (first | refine st_seq_reg rfl (by first | (simp only [go_sem]; rfl) | rfl) (by first | (simp only [go_sem]; rfl) | rfl) ?_ | refine st_reg rfl (by first | (simp only [go_sem]; rfl) | rfl) (by first | (simp only [go_sem]; rfl) | rfl) ?_ | refine st_op ?_ | refine st_det rfl (by simp (disch := omega) only [go_sem, wr_i64, if_yes, if_no, ↓reduceIte, Nat.reduceAdd, Nat.reduceMul, Nat.reduceEqDiff, Nat.reduceBEq, Nat.reduceLeDiff]; rfl) ?_ | refine st_loc rfl (by simp (disch := omega) only [go_sem, wr_i64, if_yes, if_no, ↓reduceIte, Nat.reduceAdd, Nat.reduceMul, Nat.reduceEqDiff, Nat.reduceBEq, Nat.reduceLeDiff]; rfl) ?_ | refine st_heap rfl (by simp (disch := omega) only [go_sem, wr_i64, if_yes, if_no, ↓reduceIte, Nat.reduceAdd, Nat.reduceMul, Nat.reduceEqDiff, Nat.reduceBEq, Nat.reduceLeDiff]; rfl) ?_ | refine st_condT rfl ?_ | refine st_condF rfl ?_ | (refine st_condS rfl ?_ ?_ <;> intro hg <;> (try simp only [decide_eq_true_eq, decide_eq_false_iff_not, Bool.not_eq_true', Bool.not_eq_false'] at hg)) | refine st_nil ?_ | refine st_tN ?_ | refine st_seq ?_ | refine st_block ?_ | refine st_skip ?_ | refine st_exit ?_ | refine st_ret ?_ | refine st_tE ?_ | refine st_tR ?_ | refine st_bN ?_ | refine st_bR ?_ | refine st_bH ?_ | refine st_bM rfl ?_)
  all_goals
    simp (disch := omega) only [AEnd, Try.results64, aresK, fin, go_sem, ↓reduceIte, Nat.reduceEqDiff, Nat.reduceAdd, Nat.reduceLeDiff, if_yes, if_no, implies_true, true_and, and_true, List.reverse_cons, List.reverse_nil]
    unfold oth; first | rw [if_pos ‹q = s.a›] | rw [if_neg ‹¬ q = s.a›, if_pos ‹q = s.b›] | rw [if_neg ‹¬ q = s.a›, if_neg ‹¬ q = s.b›]
theorem c109 (lo hi m : Int) : Pure Try.prog 109 [.agg [.int .i64 lo, .int .i64 hi], .int .i64 m] (fun v => v = .int .i64 (spanE lo hi m)) := by
  intro h
  refine ACalls.forget (ACalls.of tab mixed Try.call109 Try.func109 rfl (fi := ⟨20, [], [2, 11], none, []⟩) rfl rfl (Nat.le_of_ble_eq_true rfl) (by decide) ?_)
  unfold startA
  repeat' (first | refine st_seq_reg rfl (by first | (simp only [go_sem]; rfl) | rfl) (by first | (simp only [go_sem]; rfl) | rfl) ?_ | refine st_reg rfl (by first | (simp only [go_sem]; rfl) | rfl) (by first | (simp only [go_sem]; rfl) | rfl) ?_ | refine st_op ?_ | refine st_det rfl (by simp (disch := omega) only [go_sem, wr_i64, if_yes, if_no, ↓reduceIte, Nat.reduceAdd, Nat.reduceMul, Nat.reduceEqDiff, Nat.reduceBEq, Nat.reduceLeDiff]; rfl) ?_ | refine st_loc rfl (by simp (disch := omega) only [go_sem, wr_i64, if_yes, if_no, ↓reduceIte, Nat.reduceAdd, Nat.reduceMul, Nat.reduceEqDiff, Nat.reduceBEq, Nat.reduceLeDiff]; rfl) ?_ | refine st_heap rfl (by simp (disch := omega) only [go_sem, wr_i64, if_yes, if_no, ↓reduceIte, Nat.reduceAdd, Nat.reduceMul, Nat.reduceEqDiff, Nat.reduceBEq, Nat.reduceLeDiff]; rfl) ?_ | (refine st_pureE (by first | (simp (disch := omega) only [go_sem]; rfl) | rfl) rfl (c68b 0 m lo hi) (by first | (simp only [go_sem]; rfl) | rfl) (by intro n; first | (simp (disch := omega) only [go_sem]; rfl) | rfl) ?_; intro n hn) | refine st_condT rfl ?_ | refine st_condF rfl ?_ | (refine st_condS rfl ?_ ?_ <;> intro hg <;> (try simp only [decide_eq_true_eq, decide_eq_false_iff_not, Bool.not_eq_true', Bool.not_eq_false'] at hg)) | refine st_nil ?_ | refine st_tN ?_ | refine st_seq ?_ | refine st_block ?_ | refine st_skip ?_ | refine st_exit ?_ | refine st_ret ?_ | refine st_tE ?_ | refine st_tR ?_ | refine st_bN ?_ | refine st_bR ?_ | refine st_bH ?_ | refine st_bM rfl ?_)
  all_goals
    simp (disch := omega) only [AEnd, Try.results109, aresK, fin, go_sem, ↓reduceIte, Nat.reduceEqDiff, Nat.reduceAdd, Nat.reduceLeDiff, if_yes, if_no, implies_true, true_and, and_true, List.reverse_cons, List.reverse_nil]
    unfold spanE; (repeat' split) <;> first | rfl | omega
end Go.Proofs.Ythjbfdfhblloiaa
