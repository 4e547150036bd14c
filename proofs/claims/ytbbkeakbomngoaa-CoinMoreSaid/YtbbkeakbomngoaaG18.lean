/- Contracts of functions that the claim reaches: what each call gives, told in our own logic. Conditions: those of each theorem. -/
import Derived.Test.YtbbkeakbomngoaaG11
import Derived.Test.YtbbkeakbomngoaaG17
set_option linter.all false
set_option linter.unusedSimpArgs false
set_option linter.unusedVariables false
namespace Go.Proofs.Ytbbkeakbomngoaa
open Go.Av
attribute [local irreducible] thenA blockA awp awpOps awpD awp1
set_option maxHeartbeats 8000000
set_option maxRecDepth 20000
/-! ### Balances -/
def comF (l : Lg) (d : Int) (i : Nat) : Int := if (fd l.fs i).day ≤ d then (fd l.fs i).amt else 0
def paiF (l : Lg) (d : Int) (i : Nat) : Int := if (bl l.bs i).day ≤ d then (bl l.bs i).amt else 0
def balD (l : Lg) (d : Int) : Int := sumF (comF l d) l.fs.length - sumF (paiF l d) l.bs.length
def balN (l : Lg) (d : Int) : Int := if chkE l ≠ 0 then 0 else if ¬ (0 ≤ d ∧ d ≤ 3650) then 0 else balD l d
def balE (l : Lg) (d : Int) : Int := if chkE l ≠ 0 then chkE l else if ¬ (0 ≤ d ∧ d ≤ 3650) then 2 else 0
theorem c76 (l : Lg) (d : Int) (i : Nat) : Pure Try.prog 76 ([.int .i64 (i : Nat), .agg (fd l.fs i).row] ++ [.iptr [.int .i64 d] 0]) (fun v => v = .int .i64 (comF l d i)) := by
  intro h
  refine ACalls.forget (ACalls.of tab mixed Try.call76 Try.func76 rfl (fi := ⟨12, [], [4], none, []⟩) rfl rfl (Nat.le_of_ble_eq_true rfl) (by decide) ?_)
  unfold startA
  simp only [go_sem]
  repeat' (first
      | refine st_seq_reg rfl (by first | (simp only [go_sem]; rfl) | rfl) (by first | (simp only [go_sem]; rfl) | rfl) ?_
      | refine st_reg rfl (by first | (simp only [go_sem]; rfl) | rfl) (by first | (simp only [go_sem]; rfl) | rfl) ?_
      | refine st_seq_draw rfl (by first | (simp only [go_sem]; rfl) | rfl) (by first | (simp only [go_sem]; rfl) | rfl) ?_
      | refine st_draw rfl (by first | (simp only [go_sem]; rfl) | rfl) (by first | (simp only [go_sem]; rfl) | rfl) ?_
      | refine st_op ?_
      | refine st_det rfl (by simp (disch := omega) only [go_sem, wr_i64, if_yes, if_no, ↓reduceIte, Nat.reduceAdd, Nat.reduceMul, Nat.reduceEqDiff, Nat.reduceBEq, Nat.reduceLeDiff]; rfl) ?_
      | refine st_dop rfl ?_
      | refine st_loc rfl (by simp (disch := omega) only [go_sem, wr_i64, if_yes, if_no, ↓reduceIte, Nat.reduceAdd, Nat.reduceMul, Nat.reduceEqDiff, Nat.reduceBEq, Nat.reduceLeDiff]; rfl) ?_
      | refine st_heap rfl (by simp (disch := omega) only [go_sem, wr_i64, if_yes, if_no, ↓reduceIte, Nat.reduceAdd, Nat.reduceMul, Nat.reduceEqDiff, Nat.reduceBEq, Nat.reduceLeDiff]; rfl) ?_
      | refine st_store (by simp (disch := omega) only [go_sem, wr_i64, if_yes, if_no, ↓reduceIte, Nat.reduceAdd, Nat.reduceMul, Nat.reduceEqDiff, Nat.reduceBEq, Nat.reduceLeDiff]; rfl) ?_
      | refine st_append (by simp (disch := omega) only [go_sem, wr_i64, if_yes, if_no, ↓reduceIte, Nat.reduceAdd, Nat.reduceMul, Nat.reduceEqDiff, Nat.reduceBEq, Nat.reduceLeDiff]; rfl) ?_
      | refine st_copy (by simp (disch := omega) only [go_sem, wr_i64, if_yes, if_no, ↓reduceIte, Nat.reduceAdd, Nat.reduceMul, Nat.reduceEqDiff, Nat.reduceBEq, Nat.reduceLeDiff]; rfl) ?_
      | refine st_gT rfl rfl rfl ?_
      | refine st_gF rfl rfl rfl ?_
      | refine st_dgT rfl rfl rfl rfl ?_
      | refine st_dgF rfl rfl rfl ?_
      | (refine st_gS rfl rfl ?_ ?_ <;> intro hg <;> (try simp only [decide_eq_true_eq, decide_eq_false_iff_not, Bool.not_eq_true', Bool.not_eq_false'] at hg))
      | (refine st_dgS rfl rfl ?_ ?_ <;> intro hg <;> (try simp only [decide_eq_true_eq, decide_eq_false_iff_not, Bool.not_eq_true', Bool.not_eq_false'] at hg))
      | refine st_condT rfl ?_
      | refine st_condF rfl ?_
      | (refine st_condS rfl ?_ ?_ <;> intro hg <;> (try simp only [decide_eq_true_eq, decide_eq_false_iff_not, Bool.not_eq_true', Bool.not_eq_false'] at hg))
      | refine st_nil ?_
      | refine st_dnil ?_
      | refine st_tN ?_
      | refine st_seq ?_
      | refine st_block ?_
      | refine st_skip ?_
      | refine st_exit ?_
      | refine st_ret ?_
      | refine st_tE ?_
      | refine st_tR ?_
      | refine st_bN ?_
      | refine st_bR ?_
      | refine st_bH ?_
      | refine st_noN ?_
      | refine st_noR ?_
      | refine st_noE ?_
      | refine st_label ?_
      | refine st_scope tab mixed (by decide) ?_
      | refine st_bM rfl ?_)
  · simp (disch := omega) only [AEnd, Try.results76, aresK, fin, go_sem, ↓reduceIte, Nat.reduceEqDiff, Nat.reduceAdd, Nat.reduceLeDiff, if_yes, if_no, implies_true, true_and, and_true, List.reverse_cons, List.reverse_nil]
    unfold comF; rw [if_pos hg]
  · simp (disch := omega) only [AEnd, Try.results76, aresK, fin, go_sem, ↓reduceIte, Nat.reduceEqDiff, Nat.reduceAdd, Nat.reduceLeDiff, if_yes, if_no, implies_true, true_and, and_true, List.reverse_cons, List.reverse_nil]
    unfold comF; rw [if_neg hg]
theorem c77 (l : Lg) (d : Int) (i : Nat) : Pure Try.prog 77 ([.int .i64 (i : Nat), .agg (bl l.bs i).row] ++ [.iptr [.int .i64 d] 0]) (fun v => v = .int .i64 (paiF l d i)) := by
  intro h
  refine ACalls.forget (ACalls.of tab mixed Try.call77 Try.func77 rfl (fi := ⟨12, [], [4], none, []⟩) rfl rfl (Nat.le_of_ble_eq_true rfl) (by decide) ?_)
  unfold startA
  simp only [go_sem]
  repeat' (first
      | refine st_seq_reg rfl (by first | (simp only [go_sem]; rfl) | rfl) (by first | (simp only [go_sem]; rfl) | rfl) ?_
      | refine st_reg rfl (by first | (simp only [go_sem]; rfl) | rfl) (by first | (simp only [go_sem]; rfl) | rfl) ?_
      | refine st_seq_draw rfl (by first | (simp only [go_sem]; rfl) | rfl) (by first | (simp only [go_sem]; rfl) | rfl) ?_
      | refine st_draw rfl (by first | (simp only [go_sem]; rfl) | rfl) (by first | (simp only [go_sem]; rfl) | rfl) ?_
      | refine st_op ?_
      | refine st_det rfl (by simp (disch := omega) only [go_sem, wr_i64, if_yes, if_no, ↓reduceIte, Nat.reduceAdd, Nat.reduceMul, Nat.reduceEqDiff, Nat.reduceBEq, Nat.reduceLeDiff]; rfl) ?_
      | refine st_dop rfl ?_
      | refine st_loc rfl (by simp (disch := omega) only [go_sem, wr_i64, if_yes, if_no, ↓reduceIte, Nat.reduceAdd, Nat.reduceMul, Nat.reduceEqDiff, Nat.reduceBEq, Nat.reduceLeDiff]; rfl) ?_
      | refine st_heap rfl (by simp (disch := omega) only [go_sem, wr_i64, if_yes, if_no, ↓reduceIte, Nat.reduceAdd, Nat.reduceMul, Nat.reduceEqDiff, Nat.reduceBEq, Nat.reduceLeDiff]; rfl) ?_
      | refine st_store (by simp (disch := omega) only [go_sem, wr_i64, if_yes, if_no, ↓reduceIte, Nat.reduceAdd, Nat.reduceMul, Nat.reduceEqDiff, Nat.reduceBEq, Nat.reduceLeDiff]; rfl) ?_
      | refine st_append (by simp (disch := omega) only [go_sem, wr_i64, if_yes, if_no, ↓reduceIte, Nat.reduceAdd, Nat.reduceMul, Nat.reduceEqDiff, Nat.reduceBEq, Nat.reduceLeDiff]; rfl) ?_
      | refine st_copy (by simp (disch := omega) only [go_sem, wr_i64, if_yes, if_no, ↓reduceIte, Nat.reduceAdd, Nat.reduceMul, Nat.reduceEqDiff, Nat.reduceBEq, Nat.reduceLeDiff]; rfl) ?_
      | refine st_gT rfl rfl rfl ?_
      | refine st_gF rfl rfl rfl ?_
      | refine st_dgT rfl rfl rfl rfl ?_
      | refine st_dgF rfl rfl rfl ?_
      | (refine st_gS rfl rfl ?_ ?_ <;> intro hg <;> (try simp only [decide_eq_true_eq, decide_eq_false_iff_not, Bool.not_eq_true', Bool.not_eq_false'] at hg))
      | (refine st_dgS rfl rfl ?_ ?_ <;> intro hg <;> (try simp only [decide_eq_true_eq, decide_eq_false_iff_not, Bool.not_eq_true', Bool.not_eq_false'] at hg))
      | refine st_condT rfl ?_
      | refine st_condF rfl ?_
      | (refine st_condS rfl ?_ ?_ <;> intro hg <;> (try simp only [decide_eq_true_eq, decide_eq_false_iff_not, Bool.not_eq_true', Bool.not_eq_false'] at hg))
      | refine st_nil ?_
      | refine st_dnil ?_
      | refine st_tN ?_
      | refine st_seq ?_
      | refine st_block ?_
      | refine st_skip ?_
      | refine st_exit ?_
      | refine st_ret ?_
      | refine st_tE ?_
      | refine st_tR ?_
      | refine st_bN ?_
      | refine st_bR ?_
      | refine st_bH ?_
      | refine st_noN ?_
      | refine st_noR ?_
      | refine st_noE ?_
      | refine st_label ?_
      | refine st_scope tab mixed (by decide) ?_
      | refine st_bM rfl ?_)
  · simp (disch := omega) only [AEnd, Try.results77, aresK, fin, go_sem, ↓reduceIte, Nat.reduceEqDiff, Nat.reduceAdd, Nat.reduceLeDiff, if_yes, if_no, implies_true, true_and, and_true, List.reverse_cons, List.reverse_nil]
    unfold paiF; rw [if_pos hg]
  · simp (disch := omega) only [AEnd, Try.results77, aresK, fin, go_sem, ↓reduceIte, Nat.reduceEqDiff, Nat.reduceAdd, Nat.reduceLeDiff, if_yes, if_no, implies_true, true_and, and_true, List.reverse_cons, List.reverse_nil]
    unfold paiF; rw [if_neg hg]
theorem comF_bd {l : Lg} (hl : LgOk l) (d : Int) (i : Nat) (hi : i < l.fs.length) : 0 ≤ comF l d i ∧ comF l d i ≤ 1000000000 := by
  have := (hl.f _ (fd_mem hi)).amt
  unfold comF; split <;> omega
theorem paiF_bd {l : Lg} (hl : LgOk l) (d : Int) (i : Nat) (hi : i < l.bs.length) : 0 ≤ paiF l d i ∧ paiF l d i ≤ 1000000000 := by
  have := (hl.b _ (bl_mem hi)).amt
  unfold paiF; split <;> omega
theorem c45 (l : Lg) (d : Int) : Pure Try.prog 45 [l.av, .int .i64 d] (fun v => v = .tup [.int .i64 (balN l d), .int .i64 (balE l d)]) := by
  have k27 := c27 l
  have k65 := c65a 0 3650 d
  by_cases h0 : chkE l = 0
  case neg =>
    intro h
    refine ACalls.forget (ACalls.of tab mixed Try.call45 Try.func45 rfl (fi := ⟨29, [], [2, 3, 15], none, []⟩) rfl rfl (Nat.le_of_ble_eq_true rfl) (by decide) ?_)
    unfold startA
    simp only [go_sem]
    repeat' (first
        | refine st_seq_reg rfl (by first | (simp only [go_sem]; rfl) | rfl) (by first | (simp only [go_sem]; rfl) | rfl) ?_
        | refine st_reg rfl (by first | (simp only [go_sem]; rfl) | rfl) (by first | (simp only [go_sem]; rfl) | rfl) ?_
        | refine st_seq_draw rfl (by first | (simp only [go_sem]; rfl) | rfl) (by first | (simp only [go_sem]; rfl) | rfl) ?_
        | refine st_draw rfl (by first | (simp only [go_sem]; rfl) | rfl) (by first | (simp only [go_sem]; rfl) | rfl) ?_
        | refine st_op ?_
        | refine st_det rfl (by simp (disch := omega) only [go_sem, wr_i64, if_yes, if_no, ↓reduceIte, Nat.reduceAdd, Nat.reduceMul, Nat.reduceEqDiff, Nat.reduceBEq, Nat.reduceLeDiff]; rfl) ?_
        | refine st_dop rfl ?_
        | refine st_loc rfl (by simp (disch := omega) only [go_sem, wr_i64, if_yes, if_no, ↓reduceIte, Nat.reduceAdd, Nat.reduceMul, Nat.reduceEqDiff, Nat.reduceBEq, Nat.reduceLeDiff]; rfl) ?_
        | refine st_heap rfl (by simp (disch := omega) only [go_sem, wr_i64, if_yes, if_no, ↓reduceIte, Nat.reduceAdd, Nat.reduceMul, Nat.reduceEqDiff, Nat.reduceBEq, Nat.reduceLeDiff]; rfl) ?_
        | refine st_store (by simp (disch := omega) only [go_sem, wr_i64, if_yes, if_no, ↓reduceIte, Nat.reduceAdd, Nat.reduceMul, Nat.reduceEqDiff, Nat.reduceBEq, Nat.reduceLeDiff]; rfl) ?_
        | refine st_append (by simp (disch := omega) only [go_sem, wr_i64, if_yes, if_no, ↓reduceIte, Nat.reduceAdd, Nat.reduceMul, Nat.reduceEqDiff, Nat.reduceBEq, Nat.reduceLeDiff]; rfl) ?_
        | refine st_copy (by simp (disch := omega) only [go_sem, wr_i64, if_yes, if_no, ↓reduceIte, Nat.reduceAdd, Nat.reduceMul, Nat.reduceEqDiff, Nat.reduceBEq, Nat.reduceLeDiff]; rfl) ?_
        | (refine st_pureE (by first | (simp (disch := omega) only [go_sem]; rfl) | rfl) rfl (k27) (by first | (simp only [go_sem]; rfl) | rfl) (by intro n; simp (disch := omega) only [go_sem]; rfl) ?_; intro n hn)
        | refine st_gT rfl rfl rfl ?_
        | refine st_gF rfl rfl rfl ?_
        | refine st_dgT rfl rfl rfl rfl ?_
        | refine st_dgF rfl rfl rfl ?_
        | (refine st_gS rfl rfl ?_ ?_ <;> intro hg <;> (try simp only [decide_eq_true_eq, decide_eq_false_iff_not, Bool.not_eq_true', Bool.not_eq_false'] at hg))
        | (refine st_dgS rfl rfl ?_ ?_ <;> intro hg <;> (try simp only [decide_eq_true_eq, decide_eq_false_iff_not, Bool.not_eq_true', Bool.not_eq_false'] at hg))
        | refine st_condT rfl ?_
        | refine st_condF rfl ?_
        | (refine st_condS rfl ?_ ?_ <;> intro hg <;> (try simp only [decide_eq_true_eq, decide_eq_false_iff_not, Bool.not_eq_true', Bool.not_eq_false'] at hg))
        | refine st_nil ?_
        | refine st_dnil ?_
        | refine st_tN ?_
        | refine st_seq ?_
        | refine st_block ?_
        | refine st_skip ?_
        | refine st_exit ?_
        | refine st_ret ?_
        | refine st_tE ?_
        | refine st_tR ?_
        | refine st_bN ?_
        | refine st_bR ?_
        | refine st_bH ?_
        | refine st_noN ?_
        | refine st_noR ?_
        | refine st_noE ?_
        | refine st_label ?_
        | refine st_scope tab mixed (by decide) ?_
        | refine st_bM rfl ?_)
    · simp (disch := omega) only [AEnd, Try.results45, aresK, fin, go_sem, ↓reduceIte, Nat.reduceEqDiff, Nat.reduceAdd, Nat.reduceLeDiff, if_yes, if_no, implies_true, true_and, and_true, List.reverse_cons, List.reverse_nil]
      unfold balN balE; rw [if_pos h0, if_pos h0]
    · exact absurd h0 hg
  have hl := ledgerOk h0
  have hfn := hl.fn
  have hbn := hl.bn
  rw [h0] at k27
  have kf := c75 l.fs 76 [.iptr [.int .i64 d] 0] (comF l d) rfl (by omega) (fun i hi => by have := comF_bd hl d i hi; omega) (fun i _ => c76 l d i)
  have kb := c66 l.bs 77 [.iptr [.int .i64 d] 0] (paiF l d) rfl (by omega) (fun i hi => by have := paiF_bd hl d i hi; omega) (fun i _ => c77 l d i)
  have s1 := sumF_le (F := comF l d) (n := l.fs.length) (by omega) (fun i hi => by have := comF_bd hl d i hi; omega) (Nat.le_refl _)
  have s2 := sumF_le (F := paiF l d) (n := l.bs.length) (by omega) (fun i hi => by have := paiF_bd hl d i hi; omega) (Nat.le_refl _)
  intro h
  refine ACalls.forget (ACalls.of tab mixed Try.call45 Try.func45 rfl (fi := ⟨29, [], [2, 3, 15], none, []⟩) rfl rfl (Nat.le_of_ble_eq_true rfl) (by decide) ?_)
  unfold startA
  simp only [go_sem]
  repeat' (first
      | refine st_seq_reg rfl (by first | (simp only [go_sem]; rfl) | rfl) (by first | (simp only [go_sem]; rfl) | rfl) ?_
      | refine st_reg rfl (by first | (simp only [go_sem]; rfl) | rfl) (by first | (simp only [go_sem]; rfl) | rfl) ?_
      | refine st_seq_draw rfl (by first | (simp only [go_sem]; rfl) | rfl) (by first | (simp only [go_sem]; rfl) | rfl) ?_
      | refine st_draw rfl (by first | (simp only [go_sem]; rfl) | rfl) (by first | (simp only [go_sem]; rfl) | rfl) ?_
      | refine st_op ?_
      | refine st_det rfl (by simp (disch := omega) only [go_sem, wr_i64, if_yes, if_no, ↓reduceIte, Nat.reduceAdd, Nat.reduceMul, Nat.reduceEqDiff, Nat.reduceBEq, Nat.reduceLeDiff]; rfl) ?_
      | refine st_dop rfl ?_
      | refine st_loc rfl (by simp (disch := omega) only [go_sem, wr_i64, if_yes, if_no, ↓reduceIte, Nat.reduceAdd, Nat.reduceMul, Nat.reduceEqDiff, Nat.reduceBEq, Nat.reduceLeDiff]; rfl) ?_
      | refine st_heap rfl (by simp (disch := omega) only [go_sem, wr_i64, if_yes, if_no, ↓reduceIte, Nat.reduceAdd, Nat.reduceMul, Nat.reduceEqDiff, Nat.reduceBEq, Nat.reduceLeDiff]; rfl) ?_
      | refine st_store (by simp (disch := omega) only [go_sem, wr_i64, if_yes, if_no, ↓reduceIte, Nat.reduceAdd, Nat.reduceMul, Nat.reduceEqDiff, Nat.reduceBEq, Nat.reduceLeDiff]; rfl) ?_
      | refine st_append (by simp (disch := omega) only [go_sem, wr_i64, if_yes, if_no, ↓reduceIte, Nat.reduceAdd, Nat.reduceMul, Nat.reduceEqDiff, Nat.reduceBEq, Nat.reduceLeDiff]; rfl) ?_
      | refine st_copy (by simp (disch := omega) only [go_sem, wr_i64, if_yes, if_no, ↓reduceIte, Nat.reduceAdd, Nat.reduceMul, Nat.reduceEqDiff, Nat.reduceBEq, Nat.reduceLeDiff]; rfl) ?_
      | (refine st_pureE (by first | (simp (disch := omega) only [go_sem]; rfl) | rfl) rfl (k27) (by first | (simp only [go_sem]; rfl) | rfl) (by intro n; simp (disch := omega) only [go_sem]; rfl) ?_; intro n hn)
      | (refine st_pureE (by first | (simp (disch := omega) only [go_sem]; rfl) | rfl) rfl (k65) (by first | (simp only [go_sem]; rfl) | rfl) (by intro n; simp (disch := omega) only [go_sem]; rfl) ?_; intro n hn)
      | (refine st_pureE (by first | (simp (disch := omega) only [go_sem]; rfl) | rfl) rfl (kf) (by first | (simp only [go_sem]; rfl) | rfl) (by intro n; simp (disch := omega) only [go_sem]; rfl) ?_; intro n hn)
      | (refine st_pureE (by first | (simp (disch := omega) only [go_sem]; rfl) | rfl) rfl (kb) (by first | (simp only [go_sem]; rfl) | rfl) (by intro n; simp (disch := omega) only [go_sem]; rfl) ?_; intro n hn)
      | refine st_gT rfl rfl rfl ?_
      | refine st_gF rfl rfl rfl ?_
      | refine st_dgT rfl rfl rfl rfl ?_
      | refine st_dgF rfl rfl rfl ?_
      | (refine st_gS rfl rfl ?_ ?_ <;> intro hg <;> (try simp only [decide_eq_true_eq, decide_eq_false_iff_not, Bool.not_eq_true', Bool.not_eq_false'] at hg))
      | (refine st_dgS rfl rfl ?_ ?_ <;> intro hg <;> (try simp only [decide_eq_true_eq, decide_eq_false_iff_not, Bool.not_eq_true', Bool.not_eq_false'] at hg))
      | refine st_condT rfl ?_
      | refine st_condF rfl ?_
      | (refine st_condS rfl ?_ ?_ <;> intro hg <;> (try simp only [decide_eq_true_eq, decide_eq_false_iff_not, Bool.not_eq_true', Bool.not_eq_false'] at hg))
      | refine st_nil ?_
      | refine st_dnil ?_
      | refine st_tN ?_
      | refine st_seq ?_
      | refine st_block ?_
      | refine st_skip ?_
      | refine st_exit ?_
      | refine st_ret ?_
      | refine st_tE ?_
      | refine st_tR ?_
      | refine st_bN ?_
      | refine st_bR ?_
      | refine st_bH ?_
      | refine st_noN ?_
      | refine st_noR ?_
      | refine st_noE ?_
      | refine st_label ?_
      | refine st_scope tab mixed (by decide) ?_
      | refine st_bM rfl ?_)
  · simp (disch := omega) only [AEnd, Try.results45, aresK, fin, go_sem, ↓reduceIte, Nat.reduceEqDiff, Nat.reduceAdd, Nat.reduceLeDiff, if_yes, if_no, implies_true, true_and, and_true, List.reverse_cons, List.reverse_nil]
    unfold balN balE; rw [if_neg (by omega), if_pos (by omega), if_neg (by omega), if_pos (by omega)]
  · simp (disch := omega) only [AEnd, Try.results45, aresK, fin, go_sem, ↓reduceIte, Nat.reduceEqDiff, Nat.reduceAdd, Nat.reduceLeDiff, if_yes, if_no, implies_true, true_and, and_true, List.reverse_cons, List.reverse_nil]
    unfold balN balE; rw [if_neg (by omega), if_neg (by omega), if_neg (by omega), if_neg (by omega)]
    rfl
/-! ### No balance is below 0 -/
theorem balD_nn {l : Lg} (hl : LgOk l) (hp : prf l = none) (d : Int) : 0 ≤ balD l d := by
  have h := slack_nn hl hp (fun i => decide ((bl l.bs i).day ≤ d))
  have h1 : l.pr.has (rF (amts l.fs)) (fun i => decide ((bl l.bs i).day ≤ d)) ≤ sumF (comF l d) l.fs.length := by
    unfold Pr.has
    refine sumF_mono fun k hk => ?_
    have hk' : k < l.fs.length := hk
    have hfn := hl.fn
    have e : rF (amts l.fs) k = (fd l.fs k).amt := amts_get (by omega)
    have h0 := (hl.f _ (fd_mem hk')).amt
    rw [e]
    split
    · rename_i hpay
      obtain ⟨i, h1, h2, h3⟩ := Pr.pay_iff.1 hpay
      have h2' : (bl l.bs i).day ≤ d := of_decide_eq_true h2
      have h3' : payB (fd l.fs k) (bl l.bs i) = true := h3
      unfold payB at h3'
      have h4 := of_decide_eq_true (and_true.1 h3').1
      unfold comF
      rw [if_pos (by omega)]
      exact Int.le_refl _
    · unfold comF; split <;> omega
  have h2 : l.pr.due (fun i => decide ((bl l.bs i).day ≤ d)) = sumF (paiF l d) l.bs.length := by
    unfold Pr.due
    refine sumF_congr fun i _ => ?_
    show (if decide ((bl l.bs i).day ≤ d) = true then (bl l.bs i).amt else 0) = paiF l d i
    unfold paiF
    by_cases c : (bl l.bs i).day ≤ d <;> simp [c]
  unfold Pr.slack at h
  unfold balD
  omega
/-- What comes, and what is paid, on a day alone. -/
def comE (l : Lg) (d : Int) (i : Nat) : Int := if (fd l.fs i).day = d then (fd l.fs i).amt else 0
def paiE (l : Lg) (d : Int) (i : Nat) : Int := if (bl l.bs i).day = d then (bl l.bs i).amt else 0
theorem balD_step (l : Lg) (d : Int) : balD l d = balD l (d - 1) + sumF (comE l d) l.fs.length - sumF (paiE l d) l.bs.length := by
  have h1 : sumF (comF l d) l.fs.length = sumF (comF l (d - 1)) l.fs.length + sumF (comE l d) l.fs.length := by
    rw [← sumF_add]
    refine sumF_congr fun i _ => ?_
    unfold comF comE
    repeat' split
    all_goals omega
  have h2 : sumF (paiF l d) l.bs.length = sumF (paiF l (d - 1)) l.bs.length + sumF (paiE l d) l.bs.length := by
    rw [← sumF_add]
    refine sumF_congr fun i _ => ?_
    unfold paiF paiE
    repeat' split
    all_goals omega
  unfold balD
  omega
theorem balD_start {l : Lg} (hl : LgOk l) : balD l (-1) = 0 := by
  unfold balD
  rw [sumF_zero, sumF_zero]
  · rfl
  · intro i hi
    have := (hl.b _ (bl_mem hi)).day
    unfold paiF; rw [if_neg (by omega)]
  · intro i hi
    have := (hl.f _ (fd_mem hi)).day
    unfold comF; rw [if_neg (by omega)]
theorem balD_bd {l : Lg} (hl : LgOk l) (d : Int) : -20000000000000 ≤ balD l d ∧ balD l d ≤ 20000000000000 := by
  have hfn := hl.fn
  have hbn := hl.bn
  have s1 := sumF_le (F := comF l d) (n := l.fs.length) (by omega) (fun i hi => by have := comF_bd hl d i hi; omega) (Nat.le_refl _)
  have s2 := sumF_le (F := paiF l d) (n := l.bs.length) (by omega) (fun i hi => by have := paiF_bd hl d i hi; omega) (Nat.le_refl _)
  unfold balD; omega
theorem comE_bd {l : Lg} (hl : LgOk l) (d : Int) (i : Nat) (hi : i < l.fs.length) : 0 ≤ comE l d i ∧ comE l d i ≤ 1000000000 := by
  have := (hl.f _ (fd_mem hi)).amt
  unfold comE; split <;> omega
theorem paiE_bd {l : Lg} (hl : LgOk l) (d : Int) (i : Nat) (hi : i < l.bs.length) : 0 ≤ paiE l d i ∧ paiE l d i ≤ 1000000000 := by
  have := (hl.b _ (bl_mem hi)).amt
  unfold paiE; split <;> omega
theorem c21ok {l : Lg} (h0 : chkE l = 0) (hp : prf l = none) : Pure Try.prog 21 [l.av] (fun v => v = .tup [.lst 1 ((traceL l).map rowA), .int .i64 0]) := by
  have e : trcR l = fun v => v = .tup [.lst 1 ((traceL l).map rowA), .int .i64 0] := by
    funext v; unfold trcR; rw [if_neg (by omega), if_neg (by rw [hp]; simp)]
  have h := c21 l
  rw [e] at h; exact h
theorem c21no {l : Lg} (h0 : chkE l = 0) (hp : prf l ≠ none) : Pure Try.prog 21 [l.av] (fun v => v = .tup [.nils, .int .i64 4]) := by
  have e : trcR l = fun v => v = .tup [.nils, .int .i64 4] := by
    funext v; unfold trcR; rw [if_neg (by omega), if_pos hp]
  have h := c21 l
  rw [e] at h; exact h
theorem c21e {l : Lg} (h0 : chkE l = 0) : ∃ W E, Pure Try.prog 21 [l.av] (fun v => v = .tup [W, .int .i64 E]) ∧ noL W = true ∧ ((E = 0 ∧ prf l = none) ∨ E = 4) := by
  by_cases hp : prf l = none
  · exact ⟨_, _, c21ok h0 hp, rfl, .inl ⟨rfl, hp⟩⟩
  · exact ⟨_, _, c21no h0 hp, rfl, .inr rfl⟩
theorem law10 (l : List Int) (hl : (l.length : Int) ≤ 9223372036854775807) (h : AH) : ACalls Try.prog 10 [.lst 1 (l.map iv)] h (fun v _ => v = .bool true) := by
  refine ACalls.of tab mixed Try.call10 Try.func10 rfl (fi := ⟨100, [3], [], none, []⟩) rfl rfl (Nat.le_of_ble_eq_true rfl) (by decide) ?_
  unfold startA
  repeat' (first
      | refine st_seq_reg rfl (by first | (simp only [go_sem, List.length_map]; rfl) | rfl) (by first | (simp only [go_sem, List.length_map]; rfl) | rfl) ?_
      | refine st_reg rfl (by first | (simp only [go_sem, List.length_map]; rfl) | rfl) (by first | (simp only [go_sem, List.length_map]; rfl) | rfl) ?_
      | refine st_seq_draw rfl (by first | (simp only [go_sem, List.length_map]; rfl) | rfl) (by first | (simp only [go_sem, List.length_map]; rfl) | rfl) ?_
      | refine st_draw rfl (by first | (simp only [go_sem, List.length_map]; rfl) | rfl) (by first | (simp only [go_sem, List.length_map]; rfl) | rfl) ?_
      | refine st_op ?_
      | refine st_det rfl (by simp (disch := omega) only [go_sem, wr_i64, if_yes, if_no, ↓reduceIte, Nat.reduceAdd, Nat.reduceMul, Nat.reduceEqDiff, Nat.reduceBEq, Nat.reduceLeDiff, List.length_map]; rfl) ?_
      | refine st_dop rfl ?_
      | refine st_loc rfl (by simp (disch := omega) only [go_sem, wr_i64, if_yes, if_no, ↓reduceIte, Nat.reduceAdd, Nat.reduceMul, Nat.reduceEqDiff, Nat.reduceBEq, Nat.reduceLeDiff, List.length_map]; rfl) ?_
      | refine st_heap rfl (by simp (disch := omega) only [go_sem, wr_i64, if_yes, if_no, ↓reduceIte, Nat.reduceAdd, Nat.reduceMul, Nat.reduceEqDiff, Nat.reduceBEq, Nat.reduceLeDiff, List.length_map]; rfl) ?_
      | refine st_store (by simp (disch := omega) only [go_sem, wr_i64, if_yes, if_no, ↓reduceIte, Nat.reduceAdd, Nat.reduceMul, Nat.reduceEqDiff, Nat.reduceBEq, Nat.reduceLeDiff, List.length_map]; rfl) ?_
      | refine st_append (by simp (disch := omega) only [go_sem, wr_i64, if_yes, if_no, ↓reduceIte, Nat.reduceAdd, Nat.reduceMul, Nat.reduceEqDiff, Nat.reduceBEq, Nat.reduceLeDiff, List.length_map]; rfl) ?_
      | refine st_copy (by simp (disch := omega) only [go_sem, wr_i64, if_yes, if_no, ↓reduceIte, Nat.reduceAdd, Nat.reduceMul, Nat.reduceEqDiff, Nat.reduceBEq, Nat.reduceLeDiff, List.length_map]; rfl) ?_
      | (refine st_callf rfl rfl (c16 l hl _) ?_; rintro v h' ⟨b, x, n, rfl, hb1, hb2, hu0, rfl⟩)
      | (refine st_drum (by first | (simp (disch := omega) only [go_sem, List.length_map]; rfl) | rfl) rfl (c17 b 5 5 50 (by omega) (by omega) (by omega)) (by first | (simp (disch := omega) only [go_sem, List.length_map]; rfl) | rfl) (by assumption) (by first | (simp only [go_sem, List.length_map]; rfl) | rfl) (by intro x' n; simp (disch := omega) only [go_sem]; rfl) ?_; rintro v x' n hu' ⟨lg, rfl, hlg⟩ hn)
      | refine st_gT rfl rfl rfl ?_
      | refine st_gF rfl rfl rfl ?_
      | refine st_dgT rfl rfl rfl rfl ?_
      | refine st_dgF rfl rfl rfl ?_
      | (refine st_gS rfl rfl ?_ ?_ <;> intro hg <;> (try simp only [decide_eq_true_eq, decide_eq_false_iff_not, Bool.not_eq_true', Bool.not_eq_false'] at hg))
      | (refine st_dgS rfl rfl ?_ ?_ <;> intro hg <;> (try simp only [decide_eq_true_eq, decide_eq_false_iff_not, Bool.not_eq_true', Bool.not_eq_false'] at hg))
      | refine st_condT rfl ?_
      | refine st_condF rfl ?_
      | (refine st_condS rfl ?_ ?_ <;> intro hg <;> (try simp only [decide_eq_true_eq, decide_eq_false_iff_not, Bool.not_eq_true', Bool.not_eq_false'] at hg))
      | refine st_nil ?_
      | refine st_dnil ?_
      | refine st_tN ?_
      | refine st_seq ?_
      | refine st_block ?_
      | refine st_skip ?_
      | refine st_exit ?_
      | refine st_ret ?_
      | refine st_tE ?_
      | refine st_tR ?_
      | refine st_bN ?_
      | refine st_bR ?_
      | refine st_bH ?_
      | refine st_noN ?_
      | refine st_noR ?_
      | refine st_noE ?_
      | refine st_label ?_
      | refine st_scope tab mixed (by decide) ?_
      | refine st_bM rfl ?_)
  have h0 := chkE_good hlg (by omega) (by omega) (by omega)
  have hk := ledgerOk h0
  have hfn := hk.fn
  have hbn := hk.bn
  obtain ⟨W, E, k21, hW, hE⟩ := c21e h0
  have hE' : E = 0 ∨ E = 4 := hE.imp (fun h => h.1) id
  repeat' (first
      | refine st_seq_reg rfl (by first | (simp only [go_sem, hW]; rfl) | rfl) (by first | (simp only [go_sem, hW]; rfl) | rfl) ?_
      | refine st_reg rfl (by first | (simp only [go_sem, hW]; rfl) | rfl) (by first | (simp only [go_sem, hW]; rfl) | rfl) ?_
      | refine st_seq_draw rfl (by first | (simp only [go_sem, hW]; rfl) | rfl) (by first | (simp only [go_sem, hW]; rfl) | rfl) ?_
      | refine st_draw rfl (by first | (simp only [go_sem, hW]; rfl) | rfl) (by first | (simp only [go_sem, hW]; rfl) | rfl) ?_
      | refine st_op ?_
      | refine st_det rfl (by simp (disch := omega) only [go_sem, wr_i64, if_yes, if_no, ↓reduceIte, Nat.reduceAdd, Nat.reduceMul, Nat.reduceEqDiff, Nat.reduceBEq, Nat.reduceLeDiff, hW]; rfl) ?_
      | refine st_dop rfl ?_
      | refine st_loc rfl (by simp (disch := omega) only [go_sem, wr_i64, if_yes, if_no, ↓reduceIte, Nat.reduceAdd, Nat.reduceMul, Nat.reduceEqDiff, Nat.reduceBEq, Nat.reduceLeDiff, hW]; rfl) ?_
      | refine st_heap rfl (by simp (disch := omega) only [go_sem, wr_i64, if_yes, if_no, ↓reduceIte, Nat.reduceAdd, Nat.reduceMul, Nat.reduceEqDiff, Nat.reduceBEq, Nat.reduceLeDiff, hW]; rfl) ?_
      | refine st_store (by simp (disch := omega) only [go_sem, wr_i64, if_yes, if_no, ↓reduceIte, Nat.reduceAdd, Nat.reduceMul, Nat.reduceEqDiff, Nat.reduceBEq, Nat.reduceLeDiff, hW]; rfl) ?_
      | refine st_append (by simp (disch := omega) only [go_sem, wr_i64, if_yes, if_no, ↓reduceIte, Nat.reduceAdd, Nat.reduceMul, Nat.reduceEqDiff, Nat.reduceBEq, Nat.reduceLeDiff, hW]; rfl) ?_
      | refine st_copy (by simp (disch := omega) only [go_sem, wr_i64, if_yes, if_no, ↓reduceIte, Nat.reduceAdd, Nat.reduceMul, Nat.reduceEqDiff, Nat.reduceBEq, Nat.reduceLeDiff, hW]; rfl) ?_
      | (refine st_pureE (by first | (simp (disch := omega) only [go_sem, hW]; rfl) | rfl) rfl (k21) (by first | (simp only [go_sem, hW]; rfl) | rfl) (by intro n; simp (disch := omega) only [go_sem]; rfl) ?_; intro n hn)
      | refine st_gT rfl rfl rfl ?_
      | refine st_gF rfl rfl rfl ?_
      | refine st_dgT rfl rfl rfl rfl ?_
      | refine st_dgF rfl rfl rfl ?_
      | (refine st_gS rfl rfl ?_ ?_ <;> intro hg <;> (try simp only [decide_eq_true_eq, decide_eq_false_iff_not, Bool.not_eq_true', Bool.not_eq_false'] at hg))
      | (refine st_dgS rfl rfl ?_ ?_ <;> intro hg <;> (try simp only [decide_eq_true_eq, decide_eq_false_iff_not, Bool.not_eq_true', Bool.not_eq_false'] at hg))
      | refine st_condT rfl ?_
      | refine st_condF rfl ?_
      | (refine st_condS rfl ?_ ?_ <;> intro hg <;> (try simp only [decide_eq_true_eq, decide_eq_false_iff_not, Bool.not_eq_true', Bool.not_eq_false'] at hg))
      | refine st_nil ?_
      | refine st_dnil ?_
      | refine st_tN ?_
      | refine st_seq ?_
      | refine st_block ?_
      | refine st_skip ?_
      | refine st_exit ?_
      | refine st_ret ?_
      | refine st_tE ?_
      | refine st_tR ?_
      | refine st_bN ?_
      | refine st_bR ?_
      | refine st_bH ?_
      | refine st_noN ?_
      | refine st_noR ?_
      | refine st_noE ?_
      | refine st_label ?_
      | refine st_scope tab mixed (by decide) ?_
      | refine st_bM rfl ?_)
  refine st_loopC (α := Nat × Int) tab mixed [] [] (by repeat (first | exact trivial | refine ⟨rfl, ?_⟩)) [3] [_] (by repeat (first | exact trivial | refine ⟨rfl, ?_⟩)) (fun a => [(7, .int .i64 (a.1 : Nat)), (6, .int .i64 a.2)]) [(3, _), (5, _)] (fun _ => []) [_] (fun a => a.1 ≤ 25 ∧ a.2 = balD lg ((a.1 : Int) - 1)) (fun a => 25 - a.1) (by decide) (0, 0) ⟨by omega, (balD_start hk).symm⟩ (by (try simp only [go_sem]); repeat' (first | exact trivial | refine And.intro ?_ ?_ | rfl | (simp (disch := omega) only [go_sem, if_yes, if_no, ↓reduceIte, Nat.reduceAdd, Nat.reduceMul, Nat.reduceEqDiff, Nat.reduceBEq, Nat.reduceLeDiff]; rfl) | (simp (disch := omega) only [go_sem, if_yes, if_no, ↓reduceIte, Nat.reduceAdd, Nat.reduceMul, Nat.reduceEqDiff, Nat.reduceBEq, Nat.reduceLeDiff]))) (by (try simp only [go_sem]); repeat' (first | exact trivial | refine And.intro ?_ ?_ | rfl | (simp (disch := omega) only [go_sem, if_yes, if_no, ↓reduceIte, Nat.reduceAdd, Nat.reduceMul, Nat.reduceEqDiff, Nat.reduceBEq, Nat.reduceLeDiff]; rfl) | (simp (disch := omega) only [go_sem, if_yes, if_no, ↓reduceIte, Nat.reduceAdd, Nat.reduceMul, Nat.reduceEqDiff, Nat.reduceBEq, Nat.reduceLeDiff]))) (by first | (simp only [go_sem]; rfl) | rfl) (by intro n; simp only [go_sem]; rfl) ?_
  rintro ⟨d, v0⟩ c ⟨d1, d2⟩ hc
  dsimp only at d1 d2
  have hb0 := balD_bd hk ((d : Int) - 1)
  have hst := balD_step lg (d : Int)
  have k45 := c45 lg (d : Int)
  have hbN : d < 25 → balN lg (d : Int) = balD lg (d : Int) ∧ balE lg (d : Int) = 0 := fun hd => by
    unfold balN balE; rw [if_neg (by omega), if_neg (by omega), if_neg (by omega), if_neg (by omega)]; exact ⟨rfl, rfl⟩
  simp only [go_sem]
  by_cases hd : d < 25
  case neg =>
    repeat' (first
        | refine st_seq_reg rfl (by first | (simp only [go_sem]; rfl) | rfl) (by first | (simp only [go_sem]; rfl) | rfl) ?_
        | refine st_reg rfl (by first | (simp only [go_sem]; rfl) | rfl) (by first | (simp only [go_sem]; rfl) | rfl) ?_
        | refine st_seq_draw rfl (by first | (simp only [go_sem]; rfl) | rfl) (by first | (simp only [go_sem]; rfl) | rfl) ?_
        | refine st_draw rfl (by first | (simp only [go_sem]; rfl) | rfl) (by first | (simp only [go_sem]; rfl) | rfl) ?_
        | refine st_op ?_
        | refine st_det rfl (by simp (disch := omega) only [go_sem, wr_i64, if_yes, if_no, ↓reduceIte, Nat.reduceAdd, Nat.reduceMul, Nat.reduceEqDiff, Nat.reduceBEq, Nat.reduceLeDiff]; rfl) ?_
        | refine st_dop rfl ?_
        | refine st_loc rfl (by simp (disch := omega) only [go_sem, wr_i64, if_yes, if_no, ↓reduceIte, Nat.reduceAdd, Nat.reduceMul, Nat.reduceEqDiff, Nat.reduceBEq, Nat.reduceLeDiff]; rfl) ?_
        | refine st_heap rfl (by simp (disch := omega) only [go_sem, wr_i64, if_yes, if_no, ↓reduceIte, Nat.reduceAdd, Nat.reduceMul, Nat.reduceEqDiff, Nat.reduceBEq, Nat.reduceLeDiff]; rfl) ?_
        | refine st_store (by simp (disch := omega) only [go_sem, wr_i64, if_yes, if_no, ↓reduceIte, Nat.reduceAdd, Nat.reduceMul, Nat.reduceEqDiff, Nat.reduceBEq, Nat.reduceLeDiff]; rfl) ?_
        | refine st_append (by simp (disch := omega) only [go_sem, wr_i64, if_yes, if_no, ↓reduceIte, Nat.reduceAdd, Nat.reduceMul, Nat.reduceEqDiff, Nat.reduceBEq, Nat.reduceLeDiff]; rfl) ?_
        | refine st_copy (by simp (disch := omega) only [go_sem, wr_i64, if_yes, if_no, ↓reduceIte, Nat.reduceAdd, Nat.reduceMul, Nat.reduceEqDiff, Nat.reduceBEq, Nat.reduceLeDiff]; rfl) ?_
        | (refine st_pureE (by first | (simp (disch := omega) only [go_sem]; rfl) | rfl) rfl (c15) (by first | (simp only [go_sem]; rfl) | rfl) (by intro n; simp (disch := omega) only [go_sem]; rfl) ?_; intro n hn)
        | refine st_gT rfl rfl rfl ?_
        | refine st_gF rfl rfl rfl ?_
        | refine st_dgT rfl rfl rfl rfl ?_
        | refine st_dgF rfl rfl rfl ?_
        | (refine st_gS rfl rfl ?_ ?_ <;> intro hg <;> (try simp only [decide_eq_true_eq, decide_eq_false_iff_not, Bool.not_eq_true', Bool.not_eq_false'] at hg))
        | (refine st_dgS rfl rfl ?_ ?_ <;> intro hg <;> (try simp only [decide_eq_true_eq, decide_eq_false_iff_not, Bool.not_eq_true', Bool.not_eq_false'] at hg))
        | refine st_condT rfl ?_
        | refine st_condF rfl ?_
        | (refine st_condS rfl ?_ ?_ <;> intro hg <;> (try simp only [decide_eq_true_eq, decide_eq_false_iff_not, Bool.not_eq_true', Bool.not_eq_false'] at hg))
        | refine st_nil ?_
        | refine st_dnil ?_
        | refine st_tN ?_
        | refine st_seq ?_
        | refine st_block ?_
        | refine st_skip ?_
        | refine st_exit ?_
        | refine st_ret ?_
        | refine st_tE ?_
        | refine st_tR ?_
        | refine st_bN ?_
        | refine st_bR ?_
        | refine st_bH ?_
        | refine st_noN ?_
        | refine st_noR ?_
        | refine st_noE ?_
        | refine st_label ?_
        | refine st_scope tab mixed (by decide) ?_
        | refine st_bM rfl ?_)
    all_goals try (exfalso; omega)
    all_goals
      simp (disch := omega) only [AEnd, Try.results10, aresK, fin, go_sem, ↓reduceIte, Nat.reduceEqDiff, Nat.reduceAdd, Nat.reduceLeDiff, if_yes, if_no, implies_true, true_and, and_true, List.reverse_cons, List.reverse_nil]
  obtain ⟨e1, e2⟩ := hbN hd
  rw [e1, e2] at k45
  repeat' (first
      | refine st_seq_reg rfl (by first | (simp only [go_sem, List.length_map]; rfl) | rfl) (by first | (simp only [go_sem, List.length_map]; rfl) | rfl) ?_
      | refine st_reg rfl (by first | (simp only [go_sem, List.length_map]; rfl) | rfl) (by first | (simp only [go_sem, List.length_map]; rfl) | rfl) ?_
      | refine st_seq_draw rfl (by first | (simp only [go_sem, List.length_map]; rfl) | rfl) (by first | (simp only [go_sem, List.length_map]; rfl) | rfl) ?_
      | refine st_draw rfl (by first | (simp only [go_sem, List.length_map]; rfl) | rfl) (by first | (simp only [go_sem, List.length_map]; rfl) | rfl) ?_
      | refine st_op ?_
      | refine st_det rfl (by simp (disch := omega) only [go_sem, wr_i64, if_yes, if_no, ↓reduceIte, Nat.reduceAdd, Nat.reduceMul, Nat.reduceEqDiff, Nat.reduceBEq, Nat.reduceLeDiff, List.length_map]; rfl) ?_
      | refine st_dop rfl ?_
      | refine st_loc rfl (by simp (disch := omega) only [go_sem, wr_i64, if_yes, if_no, ↓reduceIte, Nat.reduceAdd, Nat.reduceMul, Nat.reduceEqDiff, Nat.reduceBEq, Nat.reduceLeDiff, List.length_map]; rfl) ?_
      | refine st_heap rfl (by simp (disch := omega) only [go_sem, wr_i64, if_yes, if_no, ↓reduceIte, Nat.reduceAdd, Nat.reduceMul, Nat.reduceEqDiff, Nat.reduceBEq, Nat.reduceLeDiff, List.length_map]; rfl) ?_
      | refine st_store (by simp (disch := omega) only [go_sem, wr_i64, if_yes, if_no, ↓reduceIte, Nat.reduceAdd, Nat.reduceMul, Nat.reduceEqDiff, Nat.reduceBEq, Nat.reduceLeDiff, List.length_map]; rfl) ?_
      | refine st_append (by simp (disch := omega) only [go_sem, wr_i64, if_yes, if_no, ↓reduceIte, Nat.reduceAdd, Nat.reduceMul, Nat.reduceEqDiff, Nat.reduceBEq, Nat.reduceLeDiff, List.length_map]; rfl) ?_
      | refine st_copy (by simp (disch := omega) only [go_sem, wr_i64, if_yes, if_no, ↓reduceIte, Nat.reduceAdd, Nat.reduceMul, Nat.reduceEqDiff, Nat.reduceBEq, Nat.reduceLeDiff, List.length_map]; rfl) ?_
      | (refine st_pureE (by first | (simp (disch := omega) only [go_sem, List.length_map]; rfl) | rfl) rfl (k45) (by first | (simp only [go_sem, List.length_map]; rfl) | rfl) (by intro n; simp (disch := omega) only [go_sem]; rfl) ?_; intro n hn)
      | refine st_gT rfl rfl rfl ?_
      | refine st_gF rfl rfl rfl ?_
      | refine st_dgT rfl rfl rfl rfl ?_
      | refine st_dgF rfl rfl rfl ?_
      | (refine st_gS rfl rfl ?_ ?_ <;> intro hg <;> (try simp only [decide_eq_true_eq, decide_eq_false_iff_not, Bool.not_eq_true', Bool.not_eq_false'] at hg))
      | (refine st_dgS rfl rfl ?_ ?_ <;> intro hg <;> (try simp only [decide_eq_true_eq, decide_eq_false_iff_not, Bool.not_eq_true', Bool.not_eq_false'] at hg))
      | refine st_condT rfl ?_
      | refine st_condF rfl ?_
      | (refine st_condS rfl ?_ ?_ <;> intro hg <;> (try simp only [decide_eq_true_eq, decide_eq_false_iff_not, Bool.not_eq_true', Bool.not_eq_false'] at hg))
      | refine st_nil ?_
      | refine st_dnil ?_
      | refine st_tN ?_
      | refine st_seq ?_
      | refine st_block ?_
      | refine st_skip ?_
      | refine st_exit ?_
      | refine st_ret ?_
      | refine st_tE ?_
      | refine st_tR ?_
      | refine st_bN ?_
      | refine st_bR ?_
      | refine st_bH ?_
      | refine st_noN ?_
      | refine st_noR ?_
      | refine st_noE ?_
      | refine st_label ?_
      | refine st_scope tab mixed (by decide) ?_
      | refine st_bM rfl ?_)
  all_goals try (exfalso; omega)
  refine st_loopC (α := Nat × Int) tab mixed [] [] (by repeat (first | exact trivial | refine ⟨rfl, ?_⟩)) [3] [_] (by repeat (first | exact trivial | refine ⟨rfl, ?_⟩)) (fun a => [(10, .int .i64 (a.1 : Nat)), (6, .int .i64 a.2)]) [(3, _), (5, _), (7, _), (8, _), (9, _)] (fun _ => []) [_] (fun a => a.1 ≤ lg.fs.length ∧ a.2 = v0 + sumF (comE lg d) a.1) (fun a => lg.fs.length - a.1) (by decide) (0, v0) ⟨Nat.zero_le _, by show v0 = v0 + 0; omega⟩ (by (try simp only [go_sem]); repeat' (first | exact trivial | refine And.intro ?_ ?_ | rfl | (simp (disch := omega) only [go_sem, if_yes, if_no, ↓reduceIte, Nat.reduceAdd, Nat.reduceMul, Nat.reduceEqDiff, Nat.reduceBEq, Nat.reduceLeDiff]; rfl) | (simp (disch := omega) only [go_sem, if_yes, if_no, ↓reduceIte, Nat.reduceAdd, Nat.reduceMul, Nat.reduceEqDiff, Nat.reduceBEq, Nat.reduceLeDiff]))) (by (try simp only [go_sem]); repeat' (first | exact trivial | refine And.intro ?_ ?_ | rfl | (simp (disch := omega) only [go_sem, if_yes, if_no, ↓reduceIte, Nat.reduceAdd, Nat.reduceMul, Nat.reduceEqDiff, Nat.reduceBEq, Nat.reduceLeDiff]; rfl) | (simp (disch := omega) only [go_sem, if_yes, if_no, ↓reduceIte, Nat.reduceAdd, Nat.reduceMul, Nat.reduceEqDiff, Nat.reduceBEq, Nat.reduceLeDiff]))) (by first | (simp only [go_sem]; rfl) | rfl) (by intro n; simp only [go_sem]; rfl) ?_
  rintro ⟨i, v1⟩ c1 ⟨i1, i2⟩ hc1
  dsimp only at i1 i2
  have hs1 := sumF_le (F := comE lg d) (n := lg.fs.length) (by omega) (fun i hi => by have := comE_bd hk d i hi; omega) i1
  have hr1 : sumF (comE lg d) (i + 1) = sumF (comE lg d) i + comE lg d i := rfl
  have hu1 : comE lg d i = if (fd lg.fs i).day = d then (fd lg.fs i).amt else 0 := rfl
  have ha1 := fun hi : i < lg.fs.length => (hk.f _ (fd_mem hi)).amt
  simp only [go_sem]
  repeat' (first
      | refine st_seq_reg rfl (by first | (simp only [go_sem, List.length_map]; rfl) | rfl) (by first | (simp only [go_sem, List.length_map]; rfl) | rfl) ?_
      | refine st_reg rfl (by first | (simp only [go_sem, List.length_map]; rfl) | rfl) (by first | (simp only [go_sem, List.length_map]; rfl) | rfl) ?_
      | refine st_seq_draw rfl (by first | (simp only [go_sem, List.length_map]; rfl) | rfl) (by first | (simp only [go_sem, List.length_map]; rfl) | rfl) ?_
      | refine st_draw rfl (by first | (simp only [go_sem, List.length_map]; rfl) | rfl) (by first | (simp only [go_sem, List.length_map]; rfl) | rfl) ?_
      | refine st_op ?_
      | refine st_det rfl (by simp (disch := omega) only [go_sem, wr_i64, if_yes, if_no, ↓reduceIte, Nat.reduceAdd, Nat.reduceMul, Nat.reduceEqDiff, Nat.reduceBEq, Nat.reduceLeDiff, List.length_map]; rfl) ?_
      | refine st_dop rfl ?_
      | refine st_loc rfl (by simp (disch := omega) only [go_sem, wr_i64, if_yes, if_no, ↓reduceIte, Nat.reduceAdd, Nat.reduceMul, Nat.reduceEqDiff, Nat.reduceBEq, Nat.reduceLeDiff, List.length_map]; rfl) ?_
      | refine st_heap rfl (by simp (disch := omega) only [go_sem, wr_i64, if_yes, if_no, ↓reduceIte, Nat.reduceAdd, Nat.reduceMul, Nat.reduceEqDiff, Nat.reduceBEq, Nat.reduceLeDiff, List.length_map]; rfl) ?_
      | refine st_store (by simp (disch := omega) only [go_sem, wr_i64, if_yes, if_no, ↓reduceIte, Nat.reduceAdd, Nat.reduceMul, Nat.reduceEqDiff, Nat.reduceBEq, Nat.reduceLeDiff, List.length_map]; rfl) ?_
      | refine st_append (by simp (disch := omega) only [go_sem, wr_i64, if_yes, if_no, ↓reduceIte, Nat.reduceAdd, Nat.reduceMul, Nat.reduceEqDiff, Nat.reduceBEq, Nat.reduceLeDiff, List.length_map]; rfl) ?_
      | refine st_copy (by simp (disch := omega) only [go_sem, wr_i64, if_yes, if_no, ↓reduceIte, Nat.reduceAdd, Nat.reduceMul, Nat.reduceEqDiff, Nat.reduceBEq, Nat.reduceLeDiff, List.length_map]; rfl) ?_
      | refine st_gT rfl rfl rfl ?_
      | refine st_gF rfl rfl rfl ?_
      | refine st_dgT rfl rfl rfl rfl ?_
      | refine st_dgF rfl rfl rfl ?_
      | (refine st_gS rfl rfl ?_ ?_ <;> intro hg <;> (try simp only [decide_eq_true_eq, decide_eq_false_iff_not, Bool.not_eq_true', Bool.not_eq_false'] at hg))
      | (refine st_dgS rfl rfl ?_ ?_ <;> intro hg <;> (try simp only [decide_eq_true_eq, decide_eq_false_iff_not, Bool.not_eq_true', Bool.not_eq_false'] at hg))
      | refine st_condT rfl ?_
      | refine st_condF rfl ?_
      | (refine st_condS rfl ?_ ?_ <;> intro hg <;> (try simp only [decide_eq_true_eq, decide_eq_false_iff_not, Bool.not_eq_true', Bool.not_eq_false'] at hg))
      | refine st_nil ?_
      | refine st_dnil ?_
      | refine st_tN ?_
      | refine st_seq ?_
      | refine st_block ?_
      | refine st_skip ?_
      | refine st_exit ?_
      | refine st_ret ?_
      | refine st_tE ?_
      | refine st_tR ?_
      | refine st_bN ?_
      | refine st_bR ?_
      | refine st_bH ?_
      | refine st_noN ?_
      | refine st_noR ?_
      | refine st_noE ?_
      | refine st_label ?_
      | refine st_scope tab mixed (by decide) ?_
      | refine st_bM rfl ?_)
  · rw [if_pos (by assumption)] at hu1
    refine ⟨(i + 1, v1 + (fd lg.fs i).amt), ⟨by show i + 1 ≤ _; omega, by show v1 + (fd lg.fs i).amt = v0 + sumF (comE lg d) (i + 1); omega⟩, by show lg.fs.length - (i + 1) < lg.fs.length - i; omega, (by repeat' (first | exact trivial | refine And.intro ?_ ?_ | rfl | (simp (disch := omega) only [go_sem, if_yes, if_no, ↓reduceIte, Nat.reduceAdd, Nat.reduceMul, Nat.reduceEqDiff, Nat.reduceBEq, Nat.reduceLeDiff]; rfl) | (simp (disch := omega) only [go_sem, if_yes, if_no, ↓reduceIte, Nat.reduceAdd, Nat.reduceMul, Nat.reduceEqDiff, Nat.reduceBEq, Nat.reduceLeDiff]))), (by repeat' (first | exact trivial | refine And.intro ?_ ?_ | rfl | (simp (disch := omega) only [go_sem, if_yes, if_no, ↓reduceIte, Nat.reduceAdd, Nat.reduceMul, Nat.reduceEqDiff, Nat.reduceBEq, Nat.reduceLeDiff]; rfl) | (simp (disch := omega) only [go_sem, if_yes, if_no, ↓reduceIte, Nat.reduceAdd, Nat.reduceMul, Nat.reduceEqDiff, Nat.reduceBEq, Nat.reduceLeDiff]))), rfl, HOld.tick (by simp only [go_sem]; omega)⟩
  · rw [if_neg (by assumption)] at hu1
    refine ⟨(i + 1, v1), ⟨by show i + 1 ≤ _; omega, by show v1 = v0 + sumF (comE lg d) (i + 1); omega⟩, by show lg.fs.length - (i + 1) < lg.fs.length - i; omega, (by repeat' (first | exact trivial | refine And.intro ?_ ?_ | rfl | (simp (disch := omega) only [go_sem, if_yes, if_no, ↓reduceIte, Nat.reduceAdd, Nat.reduceMul, Nat.reduceEqDiff, Nat.reduceBEq, Nat.reduceLeDiff]; rfl) | (simp (disch := omega) only [go_sem, if_yes, if_no, ↓reduceIte, Nat.reduceAdd, Nat.reduceMul, Nat.reduceEqDiff, Nat.reduceBEq, Nat.reduceLeDiff]))), (by repeat' (first | exact trivial | refine And.intro ?_ ?_ | rfl | (simp (disch := omega) only [go_sem, if_yes, if_no, ↓reduceIte, Nat.reduceAdd, Nat.reduceMul, Nat.reduceEqDiff, Nat.reduceBEq, Nat.reduceLeDiff]; rfl) | (simp (disch := omega) only [go_sem, if_yes, if_no, ↓reduceIte, Nat.reduceAdd, Nat.reduceMul, Nat.reduceEqDiff, Nat.reduceBEq, Nat.reduceLeDiff]))), rfl, HOld.tick (by simp only [go_sem]; omega)⟩
  obtain rfl : i = lg.fs.length := by omega
  refine st_loopC (α := Nat × Int) tab mixed [] [] (by repeat (first | exact trivial | refine ⟨rfl, ?_⟩)) [3] [_] (by repeat (first | exact trivial | refine ⟨rfl, ?_⟩)) (fun a => [(11, .int .i64 (a.1 : Nat)), (6, .int .i64 a.2)]) [(3, _), (5, _), (7, _), (8, _), (9, _)] (fun _ => []) [_] (fun a => a.1 ≤ lg.bs.length ∧ a.2 = v1 - sumF (paiE lg d) a.1) (fun a => lg.bs.length - a.1) (by decide) (0, v1) ⟨Nat.zero_le _, by show v1 = v1 - 0; omega⟩ (by (try simp only [go_sem]); repeat' (first | exact trivial | refine And.intro ?_ ?_ | rfl | (simp (disch := omega) only [go_sem, if_yes, if_no, ↓reduceIte, Nat.reduceAdd, Nat.reduceMul, Nat.reduceEqDiff, Nat.reduceBEq, Nat.reduceLeDiff]; rfl) | (simp (disch := omega) only [go_sem, if_yes, if_no, ↓reduceIte, Nat.reduceAdd, Nat.reduceMul, Nat.reduceEqDiff, Nat.reduceBEq, Nat.reduceLeDiff]))) (by (try simp only [go_sem]); repeat' (first | exact trivial | refine And.intro ?_ ?_ | rfl | (simp (disch := omega) only [go_sem, if_yes, if_no, ↓reduceIte, Nat.reduceAdd, Nat.reduceMul, Nat.reduceEqDiff, Nat.reduceBEq, Nat.reduceLeDiff]; rfl) | (simp (disch := omega) only [go_sem, if_yes, if_no, ↓reduceIte, Nat.reduceAdd, Nat.reduceMul, Nat.reduceEqDiff, Nat.reduceBEq, Nat.reduceLeDiff]))) (by first | (simp only [go_sem]; rfl) | rfl) (by intro n; simp only [go_sem]; rfl) ?_
  rintro ⟨i, v2⟩ c2 ⟨j1, j2⟩ hc2
  dsimp only at j1 j2
  have hs2 := sumF_le (F := paiE lg d) (n := lg.bs.length) (by omega) (fun i hi => by have := paiE_bd hk d i hi; omega) j1
  have hr2 : sumF (paiE lg d) (i + 1) = sumF (paiE lg d) i + paiE lg d i := rfl
  have hu2 : paiE lg d i = if (bl lg.bs i).day = d then (bl lg.bs i).amt else 0 := rfl
  have ha2 := fun hi : i < lg.bs.length => (hk.b _ (bl_mem hi)).amt
  have hnn : E = 0 → 0 ≤ balD lg d := fun e => balD_nn hk (by rcases hE with ⟨_, h⟩ | h; exact h; omega) d
  have hfin : i = lg.bs.length → v2 = balD lg d := fun e => by subst e; omega
  simp only [go_sem]
  repeat' (first
      | refine st_seq_reg rfl (by first | (simp only [go_sem, List.length_map]; rfl) | rfl) (by first | (simp only [go_sem, List.length_map]; rfl) | rfl) ?_
      | refine st_reg rfl (by first | (simp only [go_sem, List.length_map]; rfl) | rfl) (by first | (simp only [go_sem, List.length_map]; rfl) | rfl) ?_
      | refine st_seq_draw rfl (by first | (simp only [go_sem, List.length_map]; rfl) | rfl) (by first | (simp only [go_sem, List.length_map]; rfl) | rfl) ?_
      | refine st_draw rfl (by first | (simp only [go_sem, List.length_map]; rfl) | rfl) (by first | (simp only [go_sem, List.length_map]; rfl) | rfl) ?_
      | refine st_op ?_
      | refine st_det rfl (by simp (disch := omega) only [go_sem, wr_i64, if_yes, if_no, ↓reduceIte, Nat.reduceAdd, Nat.reduceMul, Nat.reduceEqDiff, Nat.reduceBEq, Nat.reduceLeDiff, List.length_map]; rfl) ?_
      | refine st_dop rfl ?_
      | refine st_loc rfl (by simp (disch := omega) only [go_sem, wr_i64, if_yes, if_no, ↓reduceIte, Nat.reduceAdd, Nat.reduceMul, Nat.reduceEqDiff, Nat.reduceBEq, Nat.reduceLeDiff, List.length_map]; rfl) ?_
      | refine st_heap rfl (by simp (disch := omega) only [go_sem, wr_i64, if_yes, if_no, ↓reduceIte, Nat.reduceAdd, Nat.reduceMul, Nat.reduceEqDiff, Nat.reduceBEq, Nat.reduceLeDiff, List.length_map]; rfl) ?_
      | refine st_store (by simp (disch := omega) only [go_sem, wr_i64, if_yes, if_no, ↓reduceIte, Nat.reduceAdd, Nat.reduceMul, Nat.reduceEqDiff, Nat.reduceBEq, Nat.reduceLeDiff, List.length_map]; rfl) ?_
      | refine st_append (by simp (disch := omega) only [go_sem, wr_i64, if_yes, if_no, ↓reduceIte, Nat.reduceAdd, Nat.reduceMul, Nat.reduceEqDiff, Nat.reduceBEq, Nat.reduceLeDiff, List.length_map]; rfl) ?_
      | refine st_copy (by simp (disch := omega) only [go_sem, wr_i64, if_yes, if_no, ↓reduceIte, Nat.reduceAdd, Nat.reduceMul, Nat.reduceEqDiff, Nat.reduceBEq, Nat.reduceLeDiff, List.length_map]; rfl) ?_
      | refine st_gT rfl rfl rfl ?_
      | refine st_gF rfl rfl rfl ?_
      | refine st_dgT rfl rfl rfl rfl ?_
      | refine st_dgF rfl rfl rfl ?_
      | (refine st_gS rfl rfl ?_ ?_ <;> intro hg <;> (try simp only [decide_eq_true_eq, decide_eq_false_iff_not, Bool.not_eq_true', Bool.not_eq_false'] at hg))
      | (refine st_dgS rfl rfl ?_ ?_ <;> intro hg <;> (try simp only [decide_eq_true_eq, decide_eq_false_iff_not, Bool.not_eq_true', Bool.not_eq_false'] at hg))
      | refine st_condT rfl ?_
      | refine st_condF rfl ?_
      | (refine st_condS rfl ?_ ?_ <;> intro hg <;> (try simp only [decide_eq_true_eq, decide_eq_false_iff_not, Bool.not_eq_true', Bool.not_eq_false'] at hg))
      | refine st_nil ?_
      | refine st_dnil ?_
      | refine st_tN ?_
      | refine st_seq ?_
      | refine st_block ?_
      | refine st_skip ?_
      | refine st_exit ?_
      | refine st_ret ?_
      | refine st_tE ?_
      | refine st_tR ?_
      | refine st_bN ?_
      | refine st_bR ?_
      | refine st_bH ?_
      | refine st_noN ?_
      | refine st_noR ?_
      | refine st_noE ?_
      | refine st_label ?_
      | refine st_scope tab mixed (by decide) ?_
      | refine st_bM rfl ?_)
  all_goals try (exfalso; omega)
  · rw [if_pos (by assumption)] at hu2
    refine ⟨(i + 1, v2 - (bl lg.bs i).amt), ⟨by show i + 1 ≤ _; omega, by show v2 - (bl lg.bs i).amt = v1 - sumF (paiE lg d) (i + 1); omega⟩, by show lg.bs.length - (i + 1) < lg.bs.length - i; omega, (by repeat' (first | exact trivial | refine And.intro ?_ ?_ | rfl | (simp (disch := omega) only [go_sem, if_yes, if_no, ↓reduceIte, Nat.reduceAdd, Nat.reduceMul, Nat.reduceEqDiff, Nat.reduceBEq, Nat.reduceLeDiff]; rfl) | (simp (disch := omega) only [go_sem, if_yes, if_no, ↓reduceIte, Nat.reduceAdd, Nat.reduceMul, Nat.reduceEqDiff, Nat.reduceBEq, Nat.reduceLeDiff]))), (by repeat' (first | exact trivial | refine And.intro ?_ ?_ | rfl | (simp (disch := omega) only [go_sem, if_yes, if_no, ↓reduceIte, Nat.reduceAdd, Nat.reduceMul, Nat.reduceEqDiff, Nat.reduceBEq, Nat.reduceLeDiff]; rfl) | (simp (disch := omega) only [go_sem, if_yes, if_no, ↓reduceIte, Nat.reduceAdd, Nat.reduceMul, Nat.reduceEqDiff, Nat.reduceBEq, Nat.reduceLeDiff]))), rfl, HOld.tick (by simp only [go_sem]; omega)⟩
  · rw [if_neg (by assumption)] at hu2
    refine ⟨(i + 1, v2), ⟨by show i + 1 ≤ _; omega, by show v2 = v1 - sumF (paiE lg d) (i + 1); omega⟩, by show lg.bs.length - (i + 1) < lg.bs.length - i; omega, (by repeat' (first | exact trivial | refine And.intro ?_ ?_ | rfl | (simp (disch := omega) only [go_sem, if_yes, if_no, ↓reduceIte, Nat.reduceAdd, Nat.reduceMul, Nat.reduceEqDiff, Nat.reduceBEq, Nat.reduceLeDiff]; rfl) | (simp (disch := omega) only [go_sem, if_yes, if_no, ↓reduceIte, Nat.reduceAdd, Nat.reduceMul, Nat.reduceEqDiff, Nat.reduceBEq, Nat.reduceLeDiff]))), (by repeat' (first | exact trivial | refine And.intro ?_ ?_ | rfl | (simp (disch := omega) only [go_sem, if_yes, if_no, ↓reduceIte, Nat.reduceAdd, Nat.reduceMul, Nat.reduceEqDiff, Nat.reduceBEq, Nat.reduceLeDiff]; rfl) | (simp (disch := omega) only [go_sem, if_yes, if_no, ↓reduceIte, Nat.reduceAdd, Nat.reduceMul, Nat.reduceEqDiff, Nat.reduceBEq, Nat.reduceLeDiff]))), rfl, HOld.tick (by simp only [go_sem]; omega)⟩
  all_goals
    have hdd : ((d + 1 : Nat) : Int) - 1 = d := by omega
    refine ⟨(d + 1, v2), ⟨by show d + 1 ≤ 25; omega, by show v2 = balD lg (((d + 1 : Nat) : Int) - 1); rw [hdd]; omega⟩, by show 25 - (d + 1) < 25 - d; omega, (by repeat' (first | exact trivial | refine And.intro ?_ ?_ | rfl | (simp (disch := omega) only [go_sem, if_yes, if_no, ↓reduceIte, Nat.reduceAdd, Nat.reduceMul, Nat.reduceEqDiff, Nat.reduceBEq, Nat.reduceLeDiff]; rfl) | (simp (disch := omega) only [go_sem, if_yes, if_no, ↓reduceIte, Nat.reduceAdd, Nat.reduceMul, Nat.reduceEqDiff, Nat.reduceBEq, Nat.reduceLeDiff]))), (by repeat' (first | exact trivial | refine And.intro ?_ ?_ | rfl | (simp (disch := omega) only [go_sem, if_yes, if_no, ↓reduceIte, Nat.reduceAdd, Nat.reduceMul, Nat.reduceEqDiff, Nat.reduceBEq, Nat.reduceLeDiff]; rfl) | (simp (disch := omega) only [go_sem, if_yes, if_no, ↓reduceIte, Nat.reduceAdd, Nat.reduceMul, Nat.reduceEqDiff, Nat.reduceBEq, Nat.reduceLeDiff]))), rfl, HOld.tick (by simp only [go_sem]; omega)⟩
end Go.Proofs.Ytbbkeakbomngoaa
