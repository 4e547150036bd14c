/- Contracts of functions that the claim reaches: what each call gives, told in our own logic. Conditions: those of each theorem. -/
import Derived.Test.YthjbfdfhblloiaaQ28
import Derived.Test.YthjbfdfhblloiaaQ23
set_option linter.all false
set_option linter.unusedSimpArgs false
set_option linter.unusedVariables false
namespace Go.Proofs.Ythjbfdfhblloiaa
open Go.Av
attribute [local irreducible] thenA blockA awp awpOps awpD awp1
set_option maxHeartbeats 8000000
set_option maxRecDepth 20000
theorem elt_ext {a b : List Int} (hl : a.length = b.length) (h : ∀ i, i < a.length → elt a i = elt b i) : a = b := by
  apply List.ext_getElem hl
  intro i h1 h2
  have := h i h1
  unfold elt at this
  rw [List.getD_eq_getElem?_getD, List.getD_eq_getElem?_getD, List.getElem?_eq_getElem h1, List.getElem?_eq_getElem h2] at this
  exact this
theorem c31 (a b : List Int) (ha : a.length ≤ 1000000) (hb : b.length ≤ 1000000) : Pure Try.prog 31 [.lst 1 (a.map iv), .lst 1 (b.map iv)] (fun v => v = .bool (decide (a = b))) := by
  intro h
  refine ACalls.forget (ACalls.of tab mixed Try.call31 Try.func31 rfl (fi := ⟨26, [], [], none, [(6, [0, 0, 3, 7, 0, 0, 48, 112, 255], [(0, false), (1, false), (2, false), (3, true), (4, false), (5, false), (6, false), (7, true), (8, false)])]⟩) rfl rfl (Nat.le_of_ble_eq_true rfl) (by decide) ?_)
  unfold startA
  repeat' (first | refine st_seq_reg rfl (by first | (simp only [go_sem, List.length_map]; rfl) | rfl) (by first | (simp only [go_sem, List.length_map]; rfl) | rfl) ?_ | refine st_op ?_ | refine st_det rfl (by simp (disch := omega) only [go_sem, wr_i64, if_yes, if_no, ↓reduceIte, Nat.reduceAdd, Nat.reduceMul, Nat.reduceEqDiff, Nat.reduceBEq, Nat.reduceLeDiff, List.length_map]; rfl) ?_ | (refine st_condS rfl ?_ ?_ <;> intro hg <;> (try simp only [decide_eq_true_eq, decide_eq_false_iff_not, Bool.not_eq_true', Bool.not_eq_false'] at hg)) | refine st_nil ?_ | refine st_tN ?_ | refine st_seq ?_ | refine st_block ?_ | refine st_skip ?_ | refine st_ret ?_ | refine st_tR ?_)
  all_goals try (exfalso; omega)
  · simp (disch := omega) only [AEnd, Try.results31, aresK, fin, go_sem, ↓reduceIte, Nat.reduceEqDiff, Nat.reduceAdd, Nat.reduceLeDiff, if_yes, if_no, implies_true, true_and, and_true, List.reverse_cons, List.reverse_nil]
    rw [decide_eq_false]; intro e; rw [e] at hg; exact hg rfl
  have hl : a.length = b.length := by omega
  refine st_loopC (α := Nat) tab mixed [] [] (by repeat (first | exact trivial | refine ⟨rfl, ?_⟩)) [] [] (by repeat (first | exact trivial | refine ⟨rfl, ?_⟩)) (fun i => [(5, .int .i64 (i : Nat))]) [(0, _), (1, _)] (fun _ => []) [] (fun i => i ≤ a.length ∧ ∀ j, j < i → elt a j = elt b j) (fun i => a.length - i) (by decide) 0 ⟨Nat.zero_le _, fun j hj => absurd hj (Nat.not_lt_zero _)⟩ (by (try simp only [go_sem]); repeat' (first | exact trivial | refine And.intro ?_ ?_ | rfl | (simp (disch := omega) only [go_sem, if_yes, if_no, ↓reduceIte, Nat.reduceAdd, Nat.reduceMul, Nat.reduceEqDiff, Nat.reduceBEq, Nat.reduceLeDiff]; rfl) | (simp (disch := omega) only [go_sem, if_yes, if_no, ↓reduceIte, Nat.reduceAdd, Nat.reduceMul, Nat.reduceEqDiff, Nat.reduceBEq, Nat.reduceLeDiff]))) (by (try simp only [go_sem]); repeat' (first | exact trivial | refine And.intro ?_ ?_ | rfl | (simp (disch := omega) only [go_sem, if_yes, if_no, ↓reduceIte, Nat.reduceAdd, Nat.reduceMul, Nat.reduceEqDiff, Nat.reduceBEq, Nat.reduceLeDiff]; rfl) | (simp (disch := omega) only [go_sem, if_yes, if_no, ↓reduceIte, Nat.reduceAdd, Nat.reduceMul, Nat.reduceEqDiff, Nat.reduceBEq, Nat.reduceLeDiff]))) (by first | (simp only [go_sem]; rfl) | rfl) (by intro n; simp only [go_sem]; rfl) ?_
  rintro i c ⟨i1, i2⟩ hc
  simp only [go_sem]
  by_cases hi : i < a.length
  case neg =>
    obtain rfl : i = a.length := by omega
    repeat' (first | refine st_seq_reg rfl (by first | (simp only [go_sem, List.length_map]; rfl) | rfl) (by first | (simp only [go_sem, List.length_map]; rfl) | rfl) ?_ | refine st_reg rfl (by first | (simp only [go_sem, List.length_map]; rfl) | rfl) (by first | (simp only [go_sem, List.length_map]; rfl) | rfl) ?_ | refine st_seq_draw rfl (by first | (simp only [go_sem, List.length_map]; rfl) | rfl) (by first | (simp only [go_sem, List.length_map]; rfl) | rfl) ?_ | refine st_op ?_ | refine st_det rfl (by simp (disch := omega) only [go_sem, wr_i64, if_yes, if_no, ↓reduceIte, Nat.reduceAdd, Nat.reduceMul, Nat.reduceEqDiff, Nat.reduceBEq, Nat.reduceLeDiff, List.length_map]; rfl) ?_ | refine st_dop rfl ?_ | (refine st_condS rfl ?_ ?_ <;> intro hg <;> (try simp only [decide_eq_true_eq, decide_eq_false_iff_not, Bool.not_eq_true', Bool.not_eq_false'] at hg)) | refine st_nil ?_ | refine st_dnil ?_ | refine st_tN ?_ | refine st_seq ?_ | refine st_block ?_ | refine st_skip ?_ | refine st_exit ?_ | refine st_ret ?_ | refine st_tE ?_ | refine st_tR ?_ | refine st_bN ?_ | refine st_bR ?_ | refine st_bH ?_)
    all_goals try (exfalso; omega)
    simp (disch := omega) only [AEnd, Try.results31, aresK, fin, go_sem, ↓reduceIte, Nat.reduceEqDiff, Nat.reduceAdd, Nat.reduceLeDiff, if_yes, if_no, implies_true, true_and, and_true, List.reverse_cons, List.reverse_nil]
    rw [decide_eq_true (elt_ext hl i2)]
  by_cases he : elt a i = elt b i
  · repeat' (first | refine st_seq_reg rfl (by first | (simp only [go_sem, List.length_map, he]; rfl) | rfl) (by first | (simp only [go_sem, List.length_map, he]; rfl) | rfl) ?_ | refine st_reg rfl (by first | (simp only [go_sem, List.length_map, he]; rfl) | rfl) (by first | (simp only [go_sem, List.length_map, he]; rfl) | rfl) ?_ | refine st_seq_draw rfl (by first | (simp only [go_sem, List.length_map, he]; rfl) | rfl) (by first | (simp only [go_sem, List.length_map, he]; rfl) | rfl) ?_ | refine st_op ?_ | refine st_det rfl (by simp (disch := omega) only [go_sem, wr_i64, if_yes, if_no, ↓reduceIte, Nat.reduceAdd, Nat.reduceMul, Nat.reduceEqDiff, Nat.reduceBEq, Nat.reduceLeDiff, List.length_map, he]; rfl) ?_ | refine st_dop rfl ?_ | refine st_condF rfl ?_ | (refine st_condS rfl ?_ ?_ <;> intro hg <;> (try simp only [decide_eq_true_eq, decide_eq_false_iff_not, Bool.not_eq_true', Bool.not_eq_false'] at hg)) | refine st_nil ?_ | refine st_dnil ?_ | refine st_tN ?_ | refine st_seq ?_ | refine st_block ?_ | refine st_skip ?_ | refine st_exit ?_ | refine st_ret ?_ | refine st_tE ?_ | refine st_bN ?_ | refine st_bH ?_)
    all_goals try (exfalso; omega)
    all_goals try (exfalso; first | exact absurd rfl (by assumption) | exact absurd he (by assumption))
    refine ⟨i + 1, ⟨by show i + 1 ≤ _; omega, all_stepP i2 he⟩, by show a.length - (i + 1) < a.length - i; omega, (by repeat' (first | exact trivial | refine And.intro ?_ ?_ | rfl | (simp (disch := omega) only [go_sem, if_yes, if_no, ↓reduceIte, Nat.reduceAdd, Nat.reduceMul, Nat.reduceEqDiff, Nat.reduceBEq, Nat.reduceLeDiff]; rfl) | (simp (disch := omega) only [go_sem, if_yes, if_no, ↓reduceIte, Nat.reduceAdd, Nat.reduceMul, Nat.reduceEqDiff, Nat.reduceBEq, Nat.reduceLeDiff]))), (by repeat' (first | exact trivial | refine And.intro ?_ ?_ | rfl | (simp (disch := omega) only [go_sem, if_yes, if_no, ↓reduceIte, Nat.reduceAdd, Nat.reduceMul, Nat.reduceEqDiff, Nat.reduceBEq, Nat.reduceLeDiff]; rfl) | (simp (disch := omega) only [go_sem, if_yes, if_no, ↓reduceIte, Nat.reduceAdd, Nat.reduceMul, Nat.reduceEqDiff, Nat.reduceBEq, Nat.reduceLeDiff]))), rfl, (by first | exact HOld.of _ (by omega) | exact HOld.put _ _ _ (by omega))⟩
  · repeat' (first | refine st_seq_reg rfl (by first | (simp only [go_sem, List.length_map]; rfl) | rfl) (by first | (simp only [go_sem, List.length_map]; rfl) | rfl) ?_ | refine st_reg rfl (by first | (simp only [go_sem, List.length_map]; rfl) | rfl) (by first | (simp only [go_sem, List.length_map]; rfl) | rfl) ?_ | refine st_seq_draw rfl (by first | (simp only [go_sem, List.length_map]; rfl) | rfl) (by first | (simp only [go_sem, List.length_map]; rfl) | rfl) ?_ | refine st_op ?_ | refine st_det rfl (by simp (disch := omega) only [go_sem, wr_i64, if_yes, if_no, ↓reduceIte, Nat.reduceAdd, Nat.reduceMul, Nat.reduceEqDiff, Nat.reduceBEq, Nat.reduceLeDiff, List.length_map]; rfl) ?_ | refine st_dop rfl ?_ | (refine st_condS rfl ?_ ?_ <;> intro hg <;> (try simp only [decide_eq_true_eq, decide_eq_false_iff_not, Bool.not_eq_true', Bool.not_eq_false'] at hg)) | refine st_nil ?_ | refine st_dnil ?_ | refine st_tN ?_ | refine st_seq ?_ | refine st_block ?_ | refine st_skip ?_ | refine st_exit ?_ | refine st_ret ?_ | refine st_tE ?_ | refine st_tR ?_ | refine st_bN ?_ | refine st_bR ?_ | refine st_bH ?_)
    all_goals try (exfalso; omega)
    simp (disch := omega) only [AEnd, Try.results31, aresK, fin, go_sem, ↓reduceIte, Nat.reduceEqDiff, Nat.reduceAdd, Nat.reduceLeDiff, if_yes, if_no, implies_true, true_and, and_true, List.reverse_cons, List.reverse_nil]
    rw [decide_eq_false]; intro e; rw [e] at he; exact he rfl
def spR (x : Int × Int) : List AV := [.int .i64 x.1, .int .i64 x.2]
@[go_sem] theorem spR_eq (x : Int × Int) : spR x = [.int .i64 x.1, .int .i64 x.2] := rfl
def spn (l : List (Int × Int)) (i : Nat) : Int × Int := l.getD i (0, 0)
@[go_sem] theorem sprow_getD {l : List (Int × Int)} {i : Nat} (h : i < l.length) : (l.map spR).getD i [] = spR (spn l i) := by
  simp [List.getD_eq_getElem?_getD, h, spn]
theorem spn_ext {a b : List (Int × Int)} (hl : a.length = b.length) (h : ∀ i, i < a.length → spn a i = spn b i) : a = b := by
  apply List.ext_getElem hl
  intro i h1 h2
  have := h i h1
  unfold spn at this
  rw [List.getD_eq_getElem?_getD, List.getD_eq_getElem?_getD, List.getElem?_eq_getElem h1, List.getElem?_eq_getElem h2] at this
  exact this
theorem sp_eq (x y : Int × Int) : ([(IntKind.i64, x.1), (.i64, x.2)] = [(IntKind.i64, y.1), (.i64, y.2)]) ↔ x = y := by
  cases x; cases y; simp
theorem c53 (a b : List (Int × Int)) (ha : a.length ≤ 1000000) (hb : b.length ≤ 1000000) : Pure Try.prog 53 [.lst 2 (a.map spR), .lst 2 (b.map spR)] (fun v => v = .bool (decide (a = b))) := by
  intro h
  refine ACalls.forget (ACalls.of tab mixed Try.call53 Try.func53 rfl (fi := ⟨26, [], [], none, [(6, [0, 0, 3, 7, 0, 0, 48, 112, 255], [(0, false), (1, false), (2, false), (3, true), (4, false), (5, false), (6, false), (7, true), (8, false)])]⟩) rfl rfl (Nat.le_of_ble_eq_true rfl) (by decide) ?_)
  unfold startA
  repeat' (first | refine st_seq_reg rfl (by first | (simp only [go_sem, List.length_map]; rfl) | rfl) (by first | (simp only [go_sem, List.length_map]; rfl) | rfl) ?_ | refine st_op ?_ | refine st_det rfl (by simp (disch := omega) only [go_sem, wr_i64, if_yes, if_no, ↓reduceIte, Nat.reduceAdd, Nat.reduceMul, Nat.reduceEqDiff, Nat.reduceBEq, Nat.reduceLeDiff, List.length_map]; rfl) ?_ | (refine st_condS rfl ?_ ?_ <;> intro hg <;> (try simp only [decide_eq_true_eq, decide_eq_false_iff_not, Bool.not_eq_true', Bool.not_eq_false'] at hg)) | refine st_nil ?_ | refine st_tN ?_ | refine st_seq ?_ | refine st_block ?_ | refine st_skip ?_ | refine st_ret ?_ | refine st_tR ?_)
  all_goals try (exfalso; omega)
  · simp (disch := omega) only [AEnd, Try.results53, aresK, fin, go_sem, ↓reduceIte, Nat.reduceEqDiff, Nat.reduceAdd, Nat.reduceLeDiff, if_yes, if_no, implies_true, true_and, and_true, List.reverse_cons, List.reverse_nil]
    rw [decide_eq_false]; intro e; rw [e] at hg; exact hg rfl
  have hl : a.length = b.length := by omega
  refine st_loopC (α := Nat) tab mixed [] [] (by repeat (first | exact trivial | refine ⟨rfl, ?_⟩)) [] [] (by repeat (first | exact trivial | refine ⟨rfl, ?_⟩)) (fun i => [(5, .int .i64 (i : Nat))]) [(0, _), (1, _)] (fun _ => []) [] (fun i => i ≤ a.length ∧ ∀ j, j < i → spn a j = spn b j) (fun i => a.length - i) (by decide) 0 ⟨Nat.zero_le _, fun j hj => absurd hj (Nat.not_lt_zero _)⟩ (by (try simp only [go_sem]); repeat' (first | exact trivial | refine And.intro ?_ ?_ | rfl | (simp (disch := omega) only [go_sem, if_yes, if_no, ↓reduceIte, Nat.reduceAdd, Nat.reduceMul, Nat.reduceEqDiff, Nat.reduceBEq, Nat.reduceLeDiff]; rfl) | (simp (disch := omega) only [go_sem, if_yes, if_no, ↓reduceIte, Nat.reduceAdd, Nat.reduceMul, Nat.reduceEqDiff, Nat.reduceBEq, Nat.reduceLeDiff]))) (by (try simp only [go_sem]); repeat' (first | exact trivial | refine And.intro ?_ ?_ | rfl | (simp (disch := omega) only [go_sem, if_yes, if_no, ↓reduceIte, Nat.reduceAdd, Nat.reduceMul, Nat.reduceEqDiff, Nat.reduceBEq, Nat.reduceLeDiff]; rfl) | (simp (disch := omega) only [go_sem, if_yes, if_no, ↓reduceIte, Nat.reduceAdd, Nat.reduceMul, Nat.reduceEqDiff, Nat.reduceBEq, Nat.reduceLeDiff]))) (by first | (simp only [go_sem]; rfl) | rfl) (by intro n; simp only [go_sem]; rfl) ?_
  rintro i c ⟨i1, i2⟩ hc
  simp only [go_sem]
  by_cases hi : i < a.length
  case neg =>
    obtain rfl : i = a.length := by omega
    repeat' (first | refine st_seq_reg rfl (by first | (simp only [go_sem, List.length_map]; rfl) | rfl) (by first | (simp only [go_sem, List.length_map]; rfl) | rfl) ?_ | refine st_reg rfl (by first | (simp only [go_sem, List.length_map]; rfl) | rfl) (by first | (simp only [go_sem, List.length_map]; rfl) | rfl) ?_ | refine st_seq_draw rfl (by first | (simp only [go_sem, List.length_map]; rfl) | rfl) (by first | (simp only [go_sem, List.length_map]; rfl) | rfl) ?_ | refine st_op ?_ | refine st_det rfl (by simp (disch := omega) only [go_sem, wr_i64, if_yes, if_no, ↓reduceIte, Nat.reduceAdd, Nat.reduceMul, Nat.reduceEqDiff, Nat.reduceBEq, Nat.reduceLeDiff, List.length_map]; rfl) ?_ | refine st_dop rfl ?_ | (refine st_condS rfl ?_ ?_ <;> intro hg <;> (try simp only [decide_eq_true_eq, decide_eq_false_iff_not, Bool.not_eq_true', Bool.not_eq_false'] at hg)) | refine st_nil ?_ | refine st_dnil ?_ | refine st_tN ?_ | refine st_seq ?_ | refine st_block ?_ | refine st_skip ?_ | refine st_exit ?_ | refine st_ret ?_ | refine st_tE ?_ | refine st_tR ?_ | refine st_bN ?_ | refine st_bR ?_ | refine st_bH ?_)
    all_goals try (exfalso; omega)
    simp (disch := omega) only [AEnd, Try.results53, aresK, fin, go_sem, ↓reduceIte, Nat.reduceEqDiff, Nat.reduceAdd, Nat.reduceLeDiff, if_yes, if_no, implies_true, true_and, and_true, List.reverse_cons, List.reverse_nil]
    rw [decide_eq_true (spn_ext hl i2)]
  by_cases he : spn a i = spn b i
  · have hd : decide ([(IntKind.i64, (spn a i).1), (.i64, (spn a i).2)] = [(IntKind.i64, (spn b i).1), (.i64, (spn b i).2)]) = true := decide_eq_true ((sp_eq _ _).2 he)
    repeat' (first | refine st_seq_reg rfl (by first | (simp only [go_sem, List.length_map, hd]; rfl) | rfl) (by first | (simp only [go_sem, List.length_map, hd]; rfl) | rfl) ?_ | refine st_reg rfl (by first | (simp only [go_sem, List.length_map, hd]; rfl) | rfl) (by first | (simp only [go_sem, List.length_map, hd]; rfl) | rfl) ?_ | refine st_seq_draw rfl (by first | (simp only [go_sem, List.length_map, hd]; rfl) | rfl) (by first | (simp only [go_sem, List.length_map, hd]; rfl) | rfl) ?_ | refine st_op ?_ | refine st_det rfl (by simp (disch := omega) only [go_sem, wr_i64, if_yes, if_no, ↓reduceIte, Nat.reduceAdd, Nat.reduceMul, Nat.reduceEqDiff, Nat.reduceBEq, Nat.reduceLeDiff, List.length_map, hd]; rfl) ?_ | refine st_dop rfl ?_ | refine st_condF rfl ?_ | (refine st_condS rfl ?_ ?_ <;> intro hg <;> (try simp only [decide_eq_true_eq, decide_eq_false_iff_not, Bool.not_eq_true', Bool.not_eq_false'] at hg)) | refine st_nil ?_ | refine st_dnil ?_ | refine st_tN ?_ | refine st_seq ?_ | refine st_block ?_ | refine st_skip ?_ | refine st_exit ?_ | refine st_ret ?_ | refine st_tE ?_ | refine st_bN ?_ | refine st_bH ?_)
    all_goals try (exfalso; omega)
    refine ⟨i + 1, ⟨by show i + 1 ≤ _; omega, all_stepP i2 he⟩, by show a.length - (i + 1) < a.length - i; omega, (by repeat' (first | exact trivial | refine And.intro ?_ ?_ | rfl | (simp (disch := omega) only [go_sem, if_yes, if_no, ↓reduceIte, Nat.reduceAdd, Nat.reduceMul, Nat.reduceEqDiff, Nat.reduceBEq, Nat.reduceLeDiff]; rfl) | (simp (disch := omega) only [go_sem, if_yes, if_no, ↓reduceIte, Nat.reduceAdd, Nat.reduceMul, Nat.reduceEqDiff, Nat.reduceBEq, Nat.reduceLeDiff]))), (by repeat' (first | exact trivial | refine And.intro ?_ ?_ | rfl | (simp (disch := omega) only [go_sem, if_yes, if_no, ↓reduceIte, Nat.reduceAdd, Nat.reduceMul, Nat.reduceEqDiff, Nat.reduceBEq, Nat.reduceLeDiff]; rfl) | (simp (disch := omega) only [go_sem, if_yes, if_no, ↓reduceIte, Nat.reduceAdd, Nat.reduceMul, Nat.reduceEqDiff, Nat.reduceBEq, Nat.reduceLeDiff]))), rfl, (by first | exact HOld.of _ (by omega) | exact HOld.put _ _ _ (by omega))⟩
  · have hd : decide ([(IntKind.i64, (spn a i).1), (.i64, (spn a i).2)] = [(IntKind.i64, (spn b i).1), (.i64, (spn b i).2)]) = false := decide_eq_false (fun e => he ((sp_eq _ _).1 e))
    repeat' (first | refine st_seq_reg rfl (by first | (simp only [go_sem, List.length_map, hd]; rfl) | rfl) (by first | (simp only [go_sem, List.length_map, hd]; rfl) | rfl) ?_ | refine st_seq_draw rfl (by first | (simp only [go_sem, List.length_map, hd]; rfl) | rfl) (by first | (simp only [go_sem, List.length_map, hd]; rfl) | rfl) ?_ | refine st_op ?_ | refine st_det rfl (by simp (disch := omega) only [go_sem, wr_i64, if_yes, if_no, ↓reduceIte, Nat.reduceAdd, Nat.reduceMul, Nat.reduceEqDiff, Nat.reduceBEq, Nat.reduceLeDiff, List.length_map, hd]; rfl) ?_ | refine st_dop rfl ?_ | refine st_condT rfl ?_ | (refine st_condS rfl ?_ ?_ <;> intro hg <;> (try simp only [decide_eq_true_eq, decide_eq_false_iff_not, Bool.not_eq_true', Bool.not_eq_false'] at hg)) | refine st_nil ?_ | refine st_dnil ?_ | refine st_tN ?_ | refine st_seq ?_ | refine st_block ?_ | refine st_skip ?_ | refine st_exit ?_ | refine st_ret ?_ | refine st_tE ?_ | refine st_tR ?_ | refine st_bR ?_ | refine st_bH ?_)
    all_goals try (exfalso; omega)
    simp (disch := omega) only [AEnd, Try.results53, aresK, fin, go_sem, ↓reduceIte, Nat.reduceEqDiff, Nat.reduceAdd, Nat.reduceLeDiff, if_yes, if_no, implies_true, true_and, and_true, List.reverse_cons, List.reverse_nil]
    rw [decide_eq_false]; intro e; rw [e] at he; exact he rfl
theorem c34 (a b : Int) : Pure Try.prog 34 [.int .i64 a, .int .i64 b] (fun v => v = .agg [.int .i64 a, .int .i64 b]) := by
  intro h
  refine ACalls.forget (ACalls.of tab mixed Try.call34 Try.func34 rfl (fi := ⟨8, [4], [], none, []⟩) rfl rfl (Nat.le_of_ble_eq_true rfl) (by decide) ?_)
  unfold startA
  repeat' (first | refine st_seq_reg rfl (by first | (simp only [go_sem]; rfl) | rfl) (by first | (simp only [go_sem]; rfl) | rfl) ?_ | refine st_op ?_ | refine st_det rfl (by simp (disch := omega) only [go_sem, wr_i64, if_yes, if_no, ↓reduceIte, Nat.reduceAdd, Nat.reduceMul, Nat.reduceEqDiff, Nat.reduceBEq, Nat.reduceLeDiff]; rfl) ?_ | refine st_loc rfl (by simp (disch := omega) only [go_sem, wr_i64, if_yes, if_no, ↓reduceIte, Nat.reduceAdd, Nat.reduceMul, Nat.reduceEqDiff, Nat.reduceBEq, Nat.reduceLeDiff]; rfl) ?_ | refine st_store (by simp (disch := omega) only [go_sem, wr_i64, if_yes, if_no, ↓reduceIte, Nat.reduceAdd, Nat.reduceMul, Nat.reduceEqDiff, Nat.reduceBEq, Nat.reduceLeDiff]; rfl) ?_ | refine st_nil ?_ | refine st_ret ?_)
  simp (disch := omega) only [AEnd, Try.results34, aresK, fin, go_sem, ↓reduceIte, Nat.reduceEqDiff, Nat.reduceAdd, Nat.reduceLeDiff, if_yes, if_no, implies_true, true_and, and_true, List.reverse_cons, List.reverse_nil]
def town0 : Tw := ⟨[110, 80, 50], [⟨0, 1⟩, ⟨1, 2⟩, ⟨0, 2⟩], [⟨60, 70, 0, 0, 2, 0, [0, 1]⟩, ⟨20, 40, 1, 2, 1, 0, [2]⟩], 6⟩
def proof0 : List Rn := [⟨1, 0, 0, 0⟩, ⟨1, 1, 0, 0⟩, ⟨2, 0, 2, 4⟩, ⟨3, 0, 0, 0⟩, ⟨3, 0, 0, 0⟩]
theorem c59 : Pure Try.prog 59 [] (fun v => v = town0.av) := by
  intro h
  refine ACalls.forget (ACalls.of tab mixed Try.call59 Try.func59 rfl (fi := ⟨15, [0], [1, 5, 7, 11, 13], none, []⟩) rfl rfl (Nat.le_of_ble_eq_true rfl) (by decide) ?_)
  unfold startA
  repeat' (first | refine st_seq_reg rfl (by first | (simp only [go_sem]; rfl) | rfl) (by first | (simp only [go_sem]; rfl) | rfl) ?_ | refine st_op ?_ | refine st_det rfl (by simp (disch := omega) only [go_sem, wr_i64, if_yes, if_no, ↓reduceIte, Nat.reduceAdd, Nat.reduceMul, Nat.reduceEqDiff, Nat.reduceBEq, Nat.reduceLeDiff]; rfl) ?_ | refine st_loc rfl (by simp (disch := omega) only [go_sem, wr_i64, if_yes, if_no, ↓reduceIte, Nat.reduceAdd, Nat.reduceMul, Nat.reduceEqDiff, Nat.reduceBEq, Nat.reduceLeDiff]; rfl) ?_ | refine st_store (by simp (disch := omega) only [go_sem, wr_i64, if_yes, if_no, ↓reduceIte, Nat.reduceAdd, Nat.reduceMul, Nat.reduceEqDiff, Nat.reduceBEq, Nat.reduceLeDiff]; rfl) ?_ | (refine st_pureE (by first | (simp (disch := omega) only [go_sem]; rfl) | rfl) rfl (c34 _ _) (by first | (simp only [go_sem]; rfl) | rfl) (by intro n; first | (simp (disch := omega) only [go_sem]; rfl) | rfl) ?_; intro n hn) | refine st_nil ?_ | refine st_ret ?_)
  simp (disch := omega) only [AEnd, Try.results59, aresK, fin, go_sem, ↓reduceIte, Nat.reduceEqDiff, Nat.reduceAdd, Nat.reduceLeDiff, if_yes, if_no, implies_true, true_and, and_true, List.reverse_cons, List.reverse_nil]
  try rfl
theorem c60 : Pure Try.prog 60 [] (fun v => v = .lst 4 (proof0.map Rn.row)) := by
  intro h
  refine ACalls.forget (ACalls.of tab mixed Try.call60 Try.func60 rfl (fi := ⟨7, [], [6], none, []⟩) rfl rfl (Nat.le_of_ble_eq_true rfl) (by decide) ?_)
  unfold startA
  repeat' (first | refine st_seq_reg rfl (by first | (simp only [go_sem]; rfl) | rfl) (by first | (simp only [go_sem]; rfl) | rfl) ?_ | refine st_op ?_ | refine st_det rfl (by simp (disch := omega) only [go_sem, wr_i64, if_yes, if_no, ↓reduceIte, Nat.reduceAdd, Nat.reduceMul, Nat.reduceEqDiff, Nat.reduceBEq, Nat.reduceLeDiff]; rfl) ?_ | refine st_nil ?_ | refine st_ret ?_)
  simp (disch := omega) only [AEnd, Try.results60, aresK, fin, go_sem, ↓reduceIte, Nat.reduceEqDiff, Nat.reduceAdd, Nat.reduceLeDiff, if_yes, if_no, implies_true, true_and, and_true, List.reverse_cons, List.reverse_nil]
  try rfl
theorem lds0 : ldsR town0 [] 1 = .tup [.lst 2 ([((60 : Int), (110 : Int)), (0, 0), (0, 0)].map spR), .int .i64 0] := by
  unfold ldsR
  rw [if_neg (by decide +kernel), if_neg (by decide +kernel)]
  have e : ldR town0 (cls []) 1 town0.rooms.length = [((60 : Int), (110 : Int)), (0, 0), (0, 0)].map spR := by
    show [[AV.int .i64 (ldLo town0 (cls []) 0 1), .int .i64 (ldHi town0 (cls []) 0 1)], [.int .i64 (ldLo town0 (cls []) 1 1), .int .i64 (ldHi town0 (cls []) 1 1)], [.int .i64 (ldLo town0 (cls []) 2 1), .int .i64 (ldHi town0 (cls []) 2 1)]] = _
    rw [show ldLo town0 (cls []) 0 1 = 60 by decide +kernel, show ldHi town0 (cls []) 0 1 = 110 by decide +kernel, show ldLo town0 (cls []) 1 1 = 0 by decide +kernel, show ldHi town0 (cls []) 1 1 = 0 by decide +kernel, show ldLo town0 (cls []) 2 1 = 0 by decide +kernel, show ldHi town0 (cls []) 2 1 = 0 by decide +kernel]
    rfl
  rw [e]
theorem close0 : closeV town0 = .tup [.lst 1 ([0].map iv), .int .i64 0] := by
  unfold closeV
  rw [if_neg (by decide +kernel), show clo town0 town0.sts.length = some [0] by decide +kernel]
theorem proved0 : provedV town0 0 proof0 = .tup [.bool true, .int .i64 0] := by
  unfold provedV
  rw [if_neg (by decide +kernel), if_neg (by decide), show provedB town0 0 proof0 = true by decide +kernel]
theorem way0 : wayV town0 [2] 0 2 = .tup [.lst 1 ([0, 1, 2].map iv), .int .i64 0] := by
  unfold wayV
  rw [if_neg (by decide +kernel), if_neg (by decide), show dst town0 [2] 2 0 = some 2 by decide +kernel]
  show AV.tup [.lst 1 ((wayL town0 [2] 2 2 0).map iv), .int .i64 0] = _
  rw [show wayL town0 [2] 2 2 0 = [0, 1, 2] by decide +kernel]
theorem Pure.le {f : FuncId} {args args' : List AV} {R : AV → Prop} (hl : VLes args args') (H : Pure Try.prog f args' R) : Pure Try.prog f args R :=
  fun h => ⟨(H h).1, fun c xs hh hv => (H h).2 c xs hh (hl.rel hv)⟩
theorem le1 {a b : AV} {l r : List AV} (h : VLe a b) (k : VLes l r) : VLes (a :: l) (b :: r) := by simp only [VLes]; exact ⟨_, _, rfl, h, k⟩
theorem c15 : Pure Try.prog 15 [] (fun v => v = .bool true) := by
  have k1 : Pure Try.prog 32 [town0.av, .nils, .int .i64 1] (fun v => v = .tup [.lst 2 ([((60 : Int), (110 : Int)), (0, 0), (0, 0)].map spR), .int .i64 0]) := by
    have k := c32 town0 [] 1 (by decide)
    rw [lds0] at k
    exact Pure.le (le1 (VLe.refl _) (le1 (VLe.nils 1) (VLes.refl _))) k
  have k2 := c36 town0
  rw [close0] at k2
  have k3 := c23 town0 0 proof0 (by decide)
  rw [proved0] at k3
  have k4 := c29 town0 [2] 0 2 (by decide)
  rw [way0] at k4
  have e1 := c53 [((60 : Int), (110 : Int)), (0, 0), (0, 0)] [((60 : Int), (110 : Int)), (0, 0), (0, 0)] (by decide) (by decide)
  rw [decide_eq_true rfl] at e1
  have e2 := c31 [0] [0] (by decide) (by decide)
  rw [decide_eq_true rfl] at e2
  have e3 := c31 [0, 1, 2] [0, 1, 2] (by decide) (by decide)
  rw [decide_eq_true rfl] at e3
  intro h
  refine ACalls.forget (ACalls.of tab mixed Try.call15 Try.func15 rfl (fi := ⟨66, [], [27, 53, 58, 63], none, []⟩) rfl rfl (Nat.le_of_ble_eq_true rfl) (by decide) ?_)
  unfold startA
  repeat' (first | refine st_seq_reg rfl (by first | (simp only [go_sem]; rfl) | rfl) (by first | (simp only [go_sem]; rfl) | rfl) ?_ | refine st_op ?_ | refine st_det rfl (by simp (disch := omega) only [go_sem, wr_i64, if_yes, if_no, ↓reduceIte, Nat.reduceAdd, Nat.reduceMul, Nat.reduceEqDiff, Nat.reduceBEq, Nat.reduceLeDiff]; rfl) ?_ | (refine st_pureE (by first | (simp (disch := omega) only [go_sem]; rfl) | rfl) rfl (c59) (by first | (simp only [go_sem]; rfl) | rfl) (by intro n; first | (simp (disch := omega) only [go_sem]; rfl) | rfl) ?_; intro n hn) | (refine st_pureE (by first | (simp (disch := omega) only [go_sem]; rfl) | rfl) rfl (c60) (by first | (simp only [go_sem]; rfl) | rfl) (by intro n; first | (simp (disch := omega) only [go_sem]; rfl) | rfl) ?_; intro n hn) | (refine st_pureE (by first | (simp (disch := omega) only [go_sem]; rfl) | rfl) rfl (k1) (by first | (simp only [go_sem]; rfl) | rfl) (by intro n; first | (simp (disch := omega) only [go_sem]; rfl) | rfl) ?_; intro n hn) | (refine st_pureE (by first | (simp (disch := omega) only [go_sem]; rfl) | rfl) rfl (k2) (by first | (simp only [go_sem]; rfl) | rfl) (by intro n; first | (simp (disch := omega) only [go_sem]; rfl) | rfl) ?_; intro n hn) | (refine st_pureE (by first | (simp (disch := omega) only [go_sem]; rfl) | rfl) rfl (k3) (by first | (simp only [go_sem]; rfl) | rfl) (by intro n; first | (simp (disch := omega) only [go_sem]; rfl) | rfl) ?_; intro n hn) | (refine st_pureE (by first | (simp (disch := omega) only [go_sem]; rfl) | rfl) rfl (k4) (by first | (simp only [go_sem]; rfl) | rfl) (by intro n; first | (simp (disch := omega) only [go_sem]; rfl) | rfl) ?_; intro n hn) | (refine st_pureE (by first | (simp (disch := omega) only [go_sem]; rfl) | rfl) rfl (c34 _ _) (by first | (simp only [go_sem]; rfl) | rfl) (by intro n; first | (simp (disch := omega) only [go_sem]; rfl) | rfl) ?_; intro n hn) | (refine st_pureE (by first | (simp (disch := omega) only [go_sem]; rfl) | rfl) rfl (e1) (by first | (simp only [go_sem]; rfl) | rfl) (by intro n; first | (simp (disch := omega) only [go_sem]; rfl) | rfl) ?_; intro n hn) | (refine st_pureE (by first | (simp (disch := omega) only [go_sem]; rfl) | rfl) rfl (e2) (by first | (simp only [go_sem]; rfl) | rfl) (by intro n; first | (simp (disch := omega) only [go_sem]; rfl) | rfl) ?_; intro n hn) | (refine st_pureE (by first | (simp (disch := omega) only [go_sem]; rfl) | rfl) rfl (e3) (by first | (simp only [go_sem]; rfl) | rfl) (by intro n; first | (simp (disch := omega) only [go_sem]; rfl) | rfl) ?_; intro n hn) | refine st_gT rfl rfl rfl ?_ | refine st_nil ?_ | refine st_ret ?_)
  simp (disch := omega) only [AEnd, Try.results15, aresK, fin, go_sem, ↓reduceIte, Nat.reduceEqDiff, Nat.reduceAdd, Nat.reduceLeDiff, if_yes, if_no, implies_true, true_and, and_true, List.reverse_cons, List.reverse_nil]
theorem c84 (t : Tw) (s : List Int) (g : Gp) (came step : Int) (hT : TwOk t) (hG : GpOk t g) (hsl : s.length = t.sts.length) (hc' : 0 ≤ came ∧ came ≤ 96) (hs' : 0 ≤ step ∧ step ≤ 96) : Pure Try.prog 84 [t.av, .lst 1 (s.map iv), .agg g.row, .int .i64 came, .int .i64 step] (fun v => v = .int .i64 (plc t (elt s) g came step)) := by
  have hst := hG.stay
  have hsn := hT.sn
  have hmy := hG.many
  by_cases h0 : step < came
  · intro h
    refine ACalls.forget (ACalls.of tab mixed Try.call84 Try.func84 rfl (fi := ⟨67, [], [5, 7], none, [(13, [0, 1, 0, 4, 0, 28, 60, 127, 255, 0, 1023, 2047], [(0, false), (1, true), (2, false), (3, true), (4, false), (5, false), (6, true), (7, false), (8, true), (9, false), (10, false), (11, false)])]⟩) rfl rfl (Nat.le_of_ble_eq_true rfl) (by decide) ?_)
    unfold startA
    simp only [go_sem]
    repeat' (first | refine st_seq_reg rfl (by first | (simp only [go_sem]; rfl) | rfl) (by first | (simp only [go_sem]; rfl) | rfl) ?_ | refine st_op ?_ | refine st_det rfl (by simp (disch := omega) only [go_sem, wr_i64, if_yes, if_no, ↓reduceIte, Nat.reduceAdd, Nat.reduceMul, Nat.reduceEqDiff, Nat.reduceBEq, Nat.reduceLeDiff]; rfl) ?_ | (refine st_condS rfl ?_ ?_ <;> intro hg <;> (try simp only [decide_eq_true_eq, decide_eq_false_iff_not, Bool.not_eq_true', Bool.not_eq_false'] at hg)) | refine st_nil ?_ | refine st_tN ?_ | refine st_seq ?_ | refine st_skip ?_ | refine st_ret ?_ | refine st_tR ?_)
    all_goals try (exfalso; omega)
    simp (disch := omega) only [AEnd, Try.results84, aresK, fin, go_sem, ↓reduceIte, Nat.reduceEqDiff, Nat.reduceAdd, Nat.reduceLeDiff, if_yes, if_no, implies_true, true_and, and_true, List.reverse_cons, List.reverse_nil]
    unfold plc; rw [if_pos h0]
  have hm := many_bd (s := step) (c := came) (k := g.stay) (by omega) (by omega) hst.1
  have hP : plc t (elt s) g came step = wlk t (elt s) g.path ((step - came).tdiv g.stay).toNat g.first := by unfold plc; rw [if_neg h0]
  intro h
  refine ACalls.forget (ACalls.of tab mixed Try.call84 Try.func84 rfl (fi := ⟨67, [], [5, 7], none, [(13, [0, 1, 0, 4, 0, 28, 60, 127, 255, 0, 1023, 2047], [(0, false), (1, true), (2, false), (3, true), (4, false), (5, false), (6, true), (7, false), (8, true), (9, false), (10, false), (11, false)])]⟩) rfl rfl (Nat.le_of_ble_eq_true rfl) (by decide) ?_)
  unfold startA
  simp only [go_sem]
  repeat' (first | refine st_seq_reg rfl (by first | (simp only [go_sem, List.length_map]; rfl) | rfl) (by first | (simp only [go_sem, List.length_map]; rfl) | rfl) ?_ | refine st_op ?_ | refine st_det rfl (by simp (disch := omega) only [go_sem, wr_i64, if_yes, if_no, ↓reduceIte, Nat.reduceAdd, Nat.reduceMul, Nat.reduceEqDiff, Nat.reduceBEq, Nat.reduceLeDiff, List.length_map]; rfl) ?_ | (refine st_condS rfl ?_ ?_ <;> intro hg <;> (try simp only [decide_eq_true_eq, decide_eq_false_iff_not, Bool.not_eq_true', Bool.not_eq_false'] at hg)) | refine st_nil ?_ | refine st_tN ?_ | refine st_seq ?_ | refine st_block ?_ | refine st_skip ?_ | refine st_ret ?_ | refine st_tR ?_)
  all_goals try (exfalso; omega)
  generalize hk : (step - came).tdiv g.stay = k at *
  obtain ⟨k, rfl⟩ : ∃ m : Nat, k = m := ⟨k.toNat, by omega⟩
  refine st_loopC (α := Nat × Int) tab mixed [] [] (by repeat (first | exact trivial | refine ⟨rfl, ?_⟩)) [] [] (by repeat (first | exact trivial | refine ⟨rfl, ?_⟩)) (fun a => [(13, .int .i64 (a.1 : Nat)), (12, .int .i64 a.2)]) [(1, _), (5, _), (7, _), (11, _)] (fun _ => []) [] (fun a => a.1 ≤ g.path.length ∧ a.1 ≤ k ∧ wlk t (elt s) (g.path.drop a.1) (k - a.1) a.2 = plc t (elt s) g came step) (fun a => g.path.length - a.1) (by decide) (0, g.first) ⟨Nat.zero_le _, Nat.zero_le _, by rw [hP]; rfl⟩ (by (try simp only [go_sem]); repeat' (first | exact trivial | refine And.intro ?_ ?_ | rfl | (simp (disch := omega) only [go_sem, if_yes, if_no, ↓reduceIte, Nat.reduceAdd, Nat.reduceMul, Nat.reduceEqDiff, Nat.reduceBEq, Nat.reduceLeDiff]; rfl) | (simp (disch := omega) only [go_sem, if_yes, if_no, ↓reduceIte, Nat.reduceAdd, Nat.reduceMul, Nat.reduceEqDiff, Nat.reduceBEq, Nat.reduceLeDiff]))) (by (try simp only [go_sem]); repeat' (first | exact trivial | refine And.intro ?_ ?_ | rfl | (simp (disch := omega) only [go_sem, if_yes, if_no, ↓reduceIte, Nat.reduceAdd, Nat.reduceMul, Nat.reduceEqDiff, Nat.reduceBEq, Nat.reduceLeDiff]; rfl) | (simp (disch := omega) only [go_sem, if_yes, if_no, ↓reduceIte, Nat.reduceAdd, Nat.reduceMul, Nat.reduceEqDiff, Nat.reduceBEq, Nat.reduceLeDiff]))) (by first | (simp only [go_sem]; rfl) | rfl) (by intro n; simp only [go_sem]; rfl) ?_
  rintro ⟨i, q⟩ d ⟨i1, i2, i3⟩ hd
  dsimp only at i1 i2 i3
  simp only [go_sem]
  have q2 := c64 (sx t.sts (elt g.path i).toNat) q
  by_cases hki : k = i
  · subst hki
    have i4 : plc t (elt s) g came step = q := by
      rw [← i3, Nat.sub_self]
      by_cases hi : k < g.path.length
      · rw [wlk_stop hi]
      · rw [List.drop_eq_nil_of_le (by omega)]; rfl
    repeat' (first | refine st_seq_reg rfl (by first | (simp only [go_sem, List.length_map, Nat.zero_add]; rfl) | rfl) (by first | (simp only [go_sem, List.length_map, Nat.zero_add]; rfl) | rfl) ?_ | refine st_draw rfl (by first | (simp only [go_sem, List.length_map, Nat.zero_add]; rfl) | rfl) (by first | (simp only [go_sem, List.length_map, Nat.zero_add]; rfl) | rfl) ?_ | refine st_op ?_ | refine st_det rfl (by simp (disch := omega) only [go_sem, wr_i64, if_yes, if_no, ↓reduceIte, Nat.reduceAdd, Nat.reduceMul, Nat.reduceEqDiff, Nat.reduceBEq, Nat.reduceLeDiff, List.length_map, Nat.zero_add]; rfl) ?_ | refine st_dop rfl ?_ | refine st_gT rfl rfl rfl ?_ | refine st_gF rfl rfl rfl ?_ | (refine st_gS rfl rfl ?_ ?_ <;> intro hg <;> (try simp only [decide_eq_true_eq, decide_eq_false_iff_not, Bool.not_eq_true', Bool.not_eq_false'] at hg)) | refine st_condF rfl ?_ | (refine st_condS rfl ?_ ?_ <;> intro hg <;> (try simp only [decide_eq_true_eq, decide_eq_false_iff_not, Bool.not_eq_true', Bool.not_eq_false'] at hg)) | refine st_nil ?_ | refine st_tN ?_ | refine st_seq ?_ | refine st_block ?_ | refine st_skip ?_ | refine st_exit ?_ | refine st_ret ?_ | refine st_tE ?_ | refine st_tR ?_ | refine st_bN ?_ | refine st_bR ?_ | refine st_bH ?_)
    all_goals try (exfalso; omega)
    simp (disch := omega) only [AEnd, Try.results84, aresK, fin, go_sem, ↓reduceIte, Nat.reduceEqDiff, Nat.reduceAdd, Nat.reduceLeDiff, if_yes, if_no, implies_true, true_and, and_true, List.reverse_cons, List.reverse_nil]
    rw [i4]
  by_cases hi : i < g.path.length
  case pos =>
    have ha := hG.st i hi
    have hil : (elt g.path i).toNat < s.length := by omega
    by_cases s0 : elt s (elt g.path i).toNat = 0
    · repeat' (first | refine st_seq_reg rfl (by first | (simp only [go_sem, List.length_map, Nat.zero_add]; rfl) | rfl) (by first | (simp only [go_sem, List.length_map, Nat.zero_add]; rfl) | rfl) ?_ | refine st_draw rfl (by first | (simp only [go_sem, List.length_map, Nat.zero_add]; rfl) | rfl) (by first | (simp only [go_sem, List.length_map, Nat.zero_add]; rfl) | rfl) ?_ | refine st_op ?_ | refine st_det rfl (by simp (disch := omega) only [go_sem, wr_i64, if_yes, if_no, ↓reduceIte, Nat.reduceAdd, Nat.reduceMul, Nat.reduceEqDiff, Nat.reduceBEq, Nat.reduceLeDiff, List.length_map, Nat.zero_add]; rfl) ?_ | refine st_dop rfl ?_ | refine st_gT rfl rfl rfl ?_ | refine st_gF rfl rfl rfl ?_ | (refine st_gS rfl rfl ?_ ?_ <;> intro hg <;> (try simp only [decide_eq_true_eq, decide_eq_false_iff_not, Bool.not_eq_true', Bool.not_eq_false'] at hg)) | refine st_condF rfl ?_ | (refine st_condS rfl ?_ ?_ <;> intro hg <;> (try simp only [decide_eq_true_eq, decide_eq_false_iff_not, Bool.not_eq_true', Bool.not_eq_false'] at hg)) | refine st_nil ?_ | refine st_tN ?_ | refine st_seq ?_ | refine st_block ?_ | refine st_skip ?_ | refine st_exit ?_ | refine st_ret ?_ | refine st_tE ?_ | refine st_tR ?_ | refine st_bN ?_ | refine st_bR ?_ | refine st_bH ?_)
      all_goals try (exfalso; omega)
      simp (disch := omega) only [AEnd, Try.results84, aresK, fin, go_sem, ↓reduceIte, Nat.reduceEqDiff, Nat.reduceAdd, Nat.reduceLeDiff, if_yes, if_no, implies_true, true_and, and_true, List.reverse_cons, List.reverse_nil]
      rw [← i3, wlk_zero hi hki i2 s0]
    by_cases s2 : elt s (elt g.path i).toNat = 2
    · repeat' (first | refine st_seq_reg rfl (by first | (simp only [go_sem, List.length_map, Nat.zero_add]; rfl) | rfl) (by first | (simp only [go_sem, List.length_map, Nat.zero_add]; rfl) | rfl) ?_ | refine st_draw rfl (by first | (simp only [go_sem, List.length_map, Nat.zero_add]; rfl) | rfl) (by first | (simp only [go_sem, List.length_map, Nat.zero_add]; rfl) | rfl) ?_ | refine st_op ?_ | refine st_det rfl (by simp (disch := omega) only [go_sem, wr_i64, if_yes, if_no, ↓reduceIte, Nat.reduceAdd, Nat.reduceMul, Nat.reduceEqDiff, Nat.reduceBEq, Nat.reduceLeDiff, List.length_map, Nat.zero_add]; rfl) ?_ | refine st_dop rfl ?_ | refine st_gT rfl rfl rfl ?_ | refine st_gF rfl rfl rfl ?_ | (refine st_gS rfl rfl ?_ ?_ <;> intro hg <;> (try simp only [decide_eq_true_eq, decide_eq_false_iff_not, Bool.not_eq_true', Bool.not_eq_false'] at hg)) | refine st_condF rfl ?_ | (refine st_condS rfl ?_ ?_ <;> intro hg <;> (try simp only [decide_eq_true_eq, decide_eq_false_iff_not, Bool.not_eq_true', Bool.not_eq_false'] at hg)) | refine st_nil ?_ | refine st_tN ?_ | refine st_seq ?_ | refine st_block ?_ | refine st_skip ?_ | refine st_exit ?_ | refine st_ret ?_ | refine st_tE ?_ | refine st_tR ?_ | refine st_bN ?_ | refine st_bR ?_ | refine st_bH ?_)
      all_goals try (exfalso; omega)
      simp (disch := omega) only [AEnd, Try.results84, aresK, fin, go_sem, ↓reduceIte, Nat.reduceEqDiff, Nat.reduceAdd, Nat.reduceLeDiff, if_yes, if_no, implies_true, true_and, and_true, List.reverse_cons, List.reverse_nil]
      rw [← i3, wlk_two hi hki i2 s2]
    repeat' (first | refine st_seq_reg rfl (by first | (simp only [go_sem, List.length_map, Nat.zero_add]; rfl) | rfl) (by first | (simp only [go_sem, List.length_map, Nat.zero_add]; rfl) | rfl) ?_ | refine st_reg rfl (by first | (simp only [go_sem, List.length_map, Nat.zero_add]; rfl) | rfl) (by first | (simp only [go_sem, List.length_map, Nat.zero_add]; rfl) | rfl) ?_ | refine st_draw rfl (by first | (simp only [go_sem, List.length_map, Nat.zero_add]; rfl) | rfl) (by first | (simp only [go_sem, List.length_map, Nat.zero_add]; rfl) | rfl) ?_ | refine st_op ?_ | refine st_det rfl (by simp (disch := omega) only [go_sem, wr_i64, if_yes, if_no, ↓reduceIte, Nat.reduceAdd, Nat.reduceMul, Nat.reduceEqDiff, Nat.reduceBEq, Nat.reduceLeDiff, List.length_map, Nat.zero_add]; rfl) ?_ | refine st_dop rfl ?_ | (refine st_pureE (by first | (simp (disch := omega) only [go_sem, List.length_map, Nat.zero_add]; rfl) | rfl) rfl (q2) (by first | (simp only [go_sem, List.length_map, Nat.zero_add]; rfl) | rfl) (by intro n; first | (simp (disch := omega) only [go_sem]; rfl) | rfl) ?_; intro n hn) | refine st_gT rfl rfl rfl ?_ | refine st_gF rfl rfl rfl ?_ | (refine st_gS rfl rfl ?_ ?_ <;> intro hg <;> (try simp only [decide_eq_true_eq, decide_eq_false_iff_not, Bool.not_eq_true', Bool.not_eq_false'] at hg)) | refine st_condF rfl ?_ | (refine st_condS rfl ?_ ?_ <;> intro hg <;> (try simp only [decide_eq_true_eq, decide_eq_false_iff_not, Bool.not_eq_true', Bool.not_eq_false'] at hg)) | refine st_nil ?_ | refine st_dnil ?_ | refine st_tN ?_ | refine st_seq ?_ | refine st_block ?_ | refine st_skip ?_ | refine st_exit ?_ | refine st_ret ?_ | refine st_tE ?_ | refine st_tR ?_ | refine st_bN ?_ | refine st_bR ?_ | refine st_bH ?_)
    all_goals try (exfalso; omega)
    refine ⟨(i + 1, oth (sx t.sts (elt g.path i).toNat) q), ⟨by show i + 1 ≤ _; omega, by show i + 1 ≤ k; omega, by rw [← i3, wlk_next hi hki i2 (.inr ⟨s0, s2⟩)]⟩, by show g.path.length - (i + 1) < g.path.length - i; omega, (by repeat' (first | exact trivial | refine And.intro ?_ ?_ | rfl | (simp (disch := omega) only [go_sem, if_yes, if_no, ↓reduceIte, Nat.reduceAdd, Nat.reduceMul, Nat.reduceEqDiff, Nat.reduceBEq, Nat.reduceLeDiff]; rfl) | (simp (disch := omega) only [go_sem, if_yes, if_no, ↓reduceIte, Nat.reduceAdd, Nat.reduceMul, Nat.reduceEqDiff, Nat.reduceBEq, Nat.reduceLeDiff]))), (by repeat' (first | exact trivial | refine And.intro ?_ ?_ | rfl | (simp (disch := omega) only [go_sem, if_yes, if_no, ↓reduceIte, Nat.reduceAdd, Nat.reduceMul, Nat.reduceEqDiff, Nat.reduceBEq, Nat.reduceLeDiff]; rfl) | (simp (disch := omega) only [go_sem, if_yes, if_no, ↓reduceIte, Nat.reduceAdd, Nat.reduceMul, Nat.reduceEqDiff, Nat.reduceBEq, Nat.reduceLeDiff]))), rfl, (by first | exact HOld.of _ (by omega) | exact HOld.put _ _ _ (by omega))⟩
  obtain rfl : i = g.path.length := by omega
  rw [List.drop_eq_nil_of_le (Nat.le_refl _)] at i3
  have i4 : plc t (elt s) g came step = if 0 < k - g.path.length then -1 else q := by rw [← i3]; rfl
  rw [if_pos (by omega)] at i4
  repeat' (first | refine st_seq_reg rfl (by first | (simp only [go_sem, List.length_map, Nat.zero_add]; rfl) | rfl) (by first | (simp only [go_sem, List.length_map, Nat.zero_add]; rfl) | rfl) ?_ | refine st_draw rfl (by first | (simp only [go_sem, List.length_map, Nat.zero_add]; rfl) | rfl) (by first | (simp only [go_sem, List.length_map, Nat.zero_add]; rfl) | rfl) ?_ | refine st_op ?_ | refine st_det rfl (by simp (disch := omega) only [go_sem, wr_i64, if_yes, if_no, ↓reduceIte, Nat.reduceAdd, Nat.reduceMul, Nat.reduceEqDiff, Nat.reduceBEq, Nat.reduceLeDiff, List.length_map, Nat.zero_add]; rfl) ?_ | refine st_dop rfl ?_ | refine st_gT rfl rfl rfl ?_ | refine st_gF rfl rfl rfl ?_ | (refine st_gS rfl rfl ?_ ?_ <;> intro hg <;> (try simp only [decide_eq_true_eq, decide_eq_false_iff_not, Bool.not_eq_true', Bool.not_eq_false'] at hg)) | refine st_condF rfl ?_ | (refine st_condS rfl ?_ ?_ <;> intro hg <;> (try simp only [decide_eq_true_eq, decide_eq_false_iff_not, Bool.not_eq_true', Bool.not_eq_false'] at hg)) | refine st_nil ?_ | refine st_tN ?_ | refine st_seq ?_ | refine st_block ?_ | refine st_skip ?_ | refine st_exit ?_ | refine st_ret ?_ | refine st_tE ?_ | refine st_tR ?_ | refine st_bN ?_ | refine st_bR ?_ | refine st_bH ?_)
  all_goals try (exfalso; omega)
  simp (disch := omega) only [AEnd, Try.results84, aresK, fin, go_sem, ↓reduceIte, Nat.reduceEqDiff, Nat.reduceAdd, Nat.reduceLeDiff, if_yes, if_no, implies_true, true_and, and_true, List.reverse_cons, List.reverse_nil]
  rw [i4]
end Go.Proofs.Ythjbfdfhblloiaa
