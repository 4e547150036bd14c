/- Contracts of functions that the claim reaches: what each call gives, told in our own logic. Conditions: those of each theorem. -/
import Derived.Test.YtbbkeakbomngoaaP3
import Derived.Test.YtbbkeakbomngoaaGR
import Derived.Test.YtbbkeakbomngoaaG11
import Derived.Test.YtbbkeakbomngoaaG18
set_option linter.all false
set_option linter.unusedSimpArgs false
set_option linter.unusedVariables false
namespace Go.Proofs.Ytbbkeakbomngoaa
open Go.Av
attribute [local irreducible] thenA blockA awp awpOps awpD awp1
set_option maxHeartbeats 8000000
set_option maxRecDepth 20000
/-! ### Each coin is paid -/
theorem c35 (l : Lg) (t : List (List Int)) (hl : LgOk l) (h1 : t.length = l.bs.length) (h2 : ∀ i, i < t.length → (lel t i).length = l.fs.length) : Pure Try.prog 35 [l.av, .lst 1 (t.map rowA)] (fun v => v = .bool true) := by
  have hb := hl.bn; have hfn := hl.fn
  intro h
  refine ACalls.forget (ACalls.of tab mixed Try.call35 Try.func35 rfl (fi := ⟨27, [], [2], none, [(4, [0, 0, 3, 7, 15, 0, 32, 96, 255], [(0, false), (1, false), (2, false), (3, true), (4, false), (5, false), (6, true), (7, false), (8, false)])]⟩) rfl rfl (Nat.le_of_ble_eq_true rfl) (by decide) ?_)
  unfold startA
  simp only [go_sem]
  repeat' (first
      | refine st_seq_reg rfl (by first | (simp only [go_sem]; rfl) | rfl) (by first | (simp only [go_sem]; rfl) | rfl) ?_
      | refine st_reg rfl (by first | (simp only [go_sem]; rfl) | rfl) (by first | (simp only [go_sem]; rfl) | rfl) ?_
      | refine st_seq_draw rfl (by first | (simp only [go_sem]; rfl) | rfl) (by first | (simp only [go_sem]; rfl) | rfl) ?_
      | refine st_draw rfl (by first | (simp only [go_sem]; rfl) | rfl) (by first | (simp only [go_sem]; rfl) | rfl) ?_
      | refine st_op ?_
      | refine st_det rfl (by simp (disch := omega) only [go_sem, wr_i64, if_yes, if_no, ↓reduceIte, Nat.reduceAdd, Nat.reduceMul, Nat.reduceEqDiff, Nat.reduceBEq, Nat.reduceLeDiff]; rfl) ?_
      | refine st_dop rfl ?_
      | refine st_loc rfl (by simp (disch := omega) only [go_sem, wr_i64, if_yes, if_no, ↓reduceIte, Nat.reduceAdd, Nat.reduceMul, Nat.reduceEqDiff, Nat.reduceBEq, Nat.reduceLeDiff]; rfl) ?_
      | refine st_heap rfl (by simp (disch := omega) only [go_sem, wr_i64, if_yes, if_no, ↓reduceIte, Nat.reduceAdd, Nat.reduceMul, Nat.reduceEqDiff, Nat.reduceBEq, Nat.reduceLeDiff]; rfl) ?_
      | refine st_store (by simp (disch := omega) only [go_sem, wr_i64, if_yes, if_no, ↓reduceIte, Nat.reduceAdd, Nat.reduceMul, Nat.reduceEqDiff, Nat.reduceBEq, Nat.reduceLeDiff]; rfl) ?_
      | refine st_append (by simp (disch := omega) only [go_sem, wr_i64, if_yes, if_no, ↓reduceIte, Nat.reduceAdd, Nat.reduceMul, Nat.reduceEqDiff, Nat.reduceBEq, Nat.reduceLeDiff]; rfl) ?_
      | refine st_copy (by simp (disch := omega) only [go_sem, wr_i64, if_yes, if_no, ↓reduceIte, Nat.reduceAdd, Nat.reduceMul, Nat.reduceEqDiff, Nat.reduceBEq, Nat.reduceLeDiff]; rfl) ?_
      | refine st_gT rfl rfl rfl ?_
      | refine st_gF rfl rfl rfl ?_
      | refine st_dgT rfl rfl rfl rfl ?_
      | refine st_dgF rfl rfl rfl ?_
      | (refine st_gS rfl rfl ?_ ?_ <;> intro hg <;> (try simp only [decide_eq_true_eq, decide_eq_false_iff_not, Bool.not_eq_true', Bool.not_eq_false'] at hg))
      | (refine st_dgS rfl rfl ?_ ?_ <;> intro hg <;> (try simp only [decide_eq_true_eq, decide_eq_false_iff_not, Bool.not_eq_true', Bool.not_eq_false'] at hg))
      | refine st_condT rfl ?_
      | refine st_condF rfl ?_
      | (refine st_condS rfl ?_ ?_ <;> intro hg <;> (try simp only [decide_eq_true_eq, decide_eq_false_iff_not, Bool.not_eq_true', Bool.not_eq_false'] at hg))
      | refine st_nil ?_
      | refine st_dnil ?_
      | refine st_tN ?_
      | refine st_seq ?_
      | refine st_block ?_
      | refine st_skip ?_
      | refine st_exit ?_
      | refine st_ret ?_
      | refine st_tE ?_
      | refine st_tR ?_
      | refine st_bN ?_
      | refine st_bR ?_
      | refine st_bH ?_
      | refine st_noN ?_
      | refine st_noR ?_
      | refine st_noE ?_
      | refine st_label ?_
      | refine st_scope tab mixed (by decide) ?_
      | refine st_bM rfl ?_)
  refine st_loopC (α := Nat) tab mixed [] [] (by repeat (first | exact trivial | refine ⟨rfl, ?_⟩)) [] [] (by repeat (first | exact trivial | refine ⟨rfl, ?_⟩)) (fun i => [(5, .int .i64 (i : Nat))]) [(1, _), (2, _)] (fun _ => []) [] (fun i => i ≤ t.length) (fun i => t.length - i) (by decide) 0 (Nat.zero_le _) (by (try simp only [go_sem]); repeat' (first | exact trivial | refine And.intro ?_ ?_ | rfl | (simp (disch := omega) only [go_sem, if_yes, if_no, ↓reduceIte, Nat.reduceAdd, Nat.reduceMul, Nat.reduceEqDiff, Nat.reduceBEq, Nat.reduceLeDiff]; rfl) | (simp (disch := omega) only [go_sem, if_yes, if_no, ↓reduceIte, Nat.reduceAdd, Nat.reduceMul, Nat.reduceEqDiff, Nat.reduceBEq, Nat.reduceLeDiff]))) (by (try simp only [go_sem]); repeat' (first | exact trivial | refine And.intro ?_ ?_ | rfl | (simp (disch := omega) only [go_sem, if_yes, if_no, ↓reduceIte, Nat.reduceAdd, Nat.reduceMul, Nat.reduceEqDiff, Nat.reduceBEq, Nat.reduceLeDiff]; rfl) | (simp (disch := omega) only [go_sem, if_yes, if_no, ↓reduceIte, Nat.reduceAdd, Nat.reduceMul, Nat.reduceEqDiff, Nat.reduceBEq, Nat.reduceLeDiff]))) (by first | (simp only [go_sem]; rfl) | rfl) (by intro n; simp only [go_sem]; rfl) ?_
  rintro i c i1 hc
  have h2 := h2 i
  simp only [go_sem]
  repeat' (first
      | refine st_seq_reg rfl (by first | (simp only [go_sem, List.length_map]; rfl) | rfl) (by first | (simp only [go_sem, List.length_map]; rfl) | rfl) ?_
      | refine st_reg rfl (by first | (simp only [go_sem, List.length_map]; rfl) | rfl) (by first | (simp only [go_sem, List.length_map]; rfl) | rfl) ?_
      | refine st_seq_draw rfl (by first | (simp only [go_sem, List.length_map]; rfl) | rfl) (by first | (simp only [go_sem, List.length_map]; rfl) | rfl) ?_
      | refine st_draw rfl (by first | (simp only [go_sem, List.length_map]; rfl) | rfl) (by first | (simp only [go_sem, List.length_map]; rfl) | rfl) ?_
      | refine st_op ?_
      | refine st_det rfl (by simp (disch := omega) only [go_sem, wr_i64, if_yes, if_no, ↓reduceIte, Nat.reduceAdd, Nat.reduceMul, Nat.reduceEqDiff, Nat.reduceBEq, Nat.reduceLeDiff, List.length_map]; rfl) ?_
      | refine st_dop rfl ?_
      | refine st_loc rfl (by simp (disch := omega) only [go_sem, wr_i64, if_yes, if_no, ↓reduceIte, Nat.reduceAdd, Nat.reduceMul, Nat.reduceEqDiff, Nat.reduceBEq, Nat.reduceLeDiff, List.length_map]; rfl) ?_
      | refine st_heap rfl (by simp (disch := omega) only [go_sem, wr_i64, if_yes, if_no, ↓reduceIte, Nat.reduceAdd, Nat.reduceMul, Nat.reduceEqDiff, Nat.reduceBEq, Nat.reduceLeDiff, List.length_map]; rfl) ?_
      | refine st_store (by simp (disch := omega) only [go_sem, wr_i64, if_yes, if_no, ↓reduceIte, Nat.reduceAdd, Nat.reduceMul, Nat.reduceEqDiff, Nat.reduceBEq, Nat.reduceLeDiff, List.length_map]; rfl) ?_
      | refine st_append (by simp (disch := omega) only [go_sem, wr_i64, if_yes, if_no, ↓reduceIte, Nat.reduceAdd, Nat.reduceMul, Nat.reduceEqDiff, Nat.reduceBEq, Nat.reduceLeDiff, List.length_map]; rfl) ?_
      | refine st_copy (by simp (disch := omega) only [go_sem, wr_i64, if_yes, if_no, ↓reduceIte, Nat.reduceAdd, Nat.reduceMul, Nat.reduceEqDiff, Nat.reduceBEq, Nat.reduceLeDiff, List.length_map]; rfl) ?_
      | refine st_gT rfl rfl rfl ?_
      | refine st_gF rfl rfl rfl ?_
      | refine st_dgT rfl rfl rfl rfl ?_
      | refine st_dgF rfl rfl rfl ?_
      | (refine st_gS rfl rfl ?_ ?_ <;> intro hg <;> (try simp only [decide_eq_true_eq, decide_eq_false_iff_not, Bool.not_eq_true', Bool.not_eq_false'] at hg))
      | (refine st_dgS rfl rfl ?_ ?_ <;> intro hg <;> (try simp only [decide_eq_true_eq, decide_eq_false_iff_not, Bool.not_eq_true', Bool.not_eq_false'] at hg))
      | refine st_condT rfl ?_
      | refine st_condF rfl ?_
      | (refine st_condS rfl ?_ ?_ <;> intro hg <;> (try simp only [decide_eq_true_eq, decide_eq_false_iff_not, Bool.not_eq_true', Bool.not_eq_false'] at hg))
      | refine st_nil ?_
      | refine st_dnil ?_
      | refine st_tN ?_
      | refine st_seq ?_
      | refine st_block ?_
      | refine st_skip ?_
      | refine st_exit ?_
      | refine st_ret ?_
      | refine st_tE ?_
      | refine st_tR ?_
      | refine st_bN ?_
      | refine st_bR ?_
      | refine st_bH ?_
      | refine st_noN ?_
      | refine st_noR ?_
      | refine st_noE ?_
      | refine st_label ?_
      | refine st_scope tab mixed (by decide) ?_
      | refine st_bM rfl ?_)
  all_goals try (exfalso; omega)
  · refine ⟨i + 1, (by show i + 1 ≤ t.length; omega), by show t.length - (i + 1) < t.length - i; omega, (by repeat' (first | exact trivial | refine And.intro ?_ ?_ | rfl | (simp (disch := omega) only [go_sem, if_yes, if_no, ↓reduceIte, Nat.reduceAdd, Nat.reduceMul, Nat.reduceEqDiff, Nat.reduceBEq, Nat.reduceLeDiff]; rfl) | (simp (disch := omega) only [go_sem, if_yes, if_no, ↓reduceIte, Nat.reduceAdd, Nat.reduceMul, Nat.reduceEqDiff, Nat.reduceBEq, Nat.reduceLeDiff]))), (by repeat' (first | exact trivial | refine And.intro ?_ ?_ | rfl | (simp (disch := omega) only [go_sem, if_yes, if_no, ↓reduceIte, Nat.reduceAdd, Nat.reduceMul, Nat.reduceEqDiff, Nat.reduceBEq, Nat.reduceLeDiff]; rfl) | (simp (disch := omega) only [go_sem, if_yes, if_no, ↓reduceIte, Nat.reduceAdd, Nat.reduceMul, Nat.reduceEqDiff, Nat.reduceBEq, Nat.reduceLeDiff]))), rfl, HOld.of _ (by omega)⟩
  · obtain rfl : i = t.length := by omega
    simp (disch := omega) only [AEnd, Try.results35, aresK, fin, go_sem, ↓reduceIte, Nat.reduceEqDiff, Nat.reduceAdd, Nat.reduceLeDiff, if_yes, if_no, implies_true, true_and, and_true, List.reverse_cons, List.reverse_nil]
    rw [h1]; simp
/-- What is left of the funds, in a block. -/
def lfH (n : Nat) (bb : Nat × Nat) (q : List Int) : AH := (⟨fun _ => none, n, fun _ => none⟩ : AH).put bb (some ⟨1, q.map iv⟩)
theorem iv_set {q : List Int} {j : Nat} {v : Int} : (q.map iv).set j [.int .i64 v] = (q.set j v).map iv := by rw [List.map_set]; rfl
theorem iv_rep (n : Nat) : List.replicate n [AV.int .i64 0] = (List.replicate n (0 : Int)).map iv := by rw [List.map_replicate]; rfl
theorem lfH_hold {H' : AH} {n : Nat} {bb : Nat × Nat} {q : List Int} (h1 : H'.at_ bb = some ⟨1, q.map iv⟩) (h4 : n ≤ H'.clk) : HOld (lfH n bb q) H' := by
  refine ⟨fun b k hz => ?_, (fun x r hr => by cases hr), h4⟩
  simp only [lfH, AH.put, upd_apply] at hz
  split at hz
  · rename_i e; rw [e, h1]; exact hz
  · cases hz
theorem trL_len (l : Lg) : (traceL l).length = l.bs.length := by unfold traceL; simp
theorem trL_row (l : Lg) {i : Nat} (h : i < l.bs.length) : lel (traceL l) i = rowN l i := by
  unfold lel traceL
  simp [List.getD_eq_getElem?_getD, h]
theorem elt_take {l : List Int} {n j : Nat} (h : j < n) : elt (l.take n) j = elt l j := by
  unfold elt
  simp only [List.getD_eq_getElem?_getD, List.getElem?_take, h, if_true]
theorem sumL_sumF (l : List Int) : sumL l = sumF (elt l) l.length := rfl
theorem law5 (l : List Int) (hl : (l.length : Int) ≤ 9223372036854775807) (h : AH) : ACalls Try.prog 5 [.lst 1 (l.map iv)] h (fun v _ => v = .bool true) := by
  refine ACalls.of tab mixed Try.call5 Try.func5 rfl (fi := ⟨198, [4], [19], none, [(16, [0, 0, 3, 7, 15, 0, 32, 0, 224, 480, 992, 2047], [(0, false), (1, false), (2, false), (3, true), (5, false), (6, true), (7, false), (8, false), (9, false), (10, true), (4, false), (11, false)]), (21, [0, 0, 0, 0, 12, 28, 0, 0, 192, 448, 0, 1984, 4032, 8188, 16383, 32767], [(0, false), (1, false), (2, false), (3, false), (4, false), (5, false), (6, false), (7, false), (8, false), (9, true), (10, false), (11, false), (12, true), (13, false), (14, false), (15, false)]), (22, [0, 0, 3, 7, 0, 31, 63, 127, 255, 511, 511, 2047, 4095, 511, 16383, 32767, 65535, 131071, 262143, 524287, 262143, 2097151, 4194303, 262143, 8650751, 262143, 58982399, 126091263, 268435455, 536870911, 1073741823, 2147483647], [(0, false), (1, false), (2, false), (3, true), (4, false), (5, false), (6, true), (7, false), (8, false), (9, false), (10, false), (11, false), (12, true), (13, false), (14, false), (15, true), (16, false), (17, false), (18, false), (19, true), (20, false), (21, false), (22, true), (23, false), (24, true), (25, false), (26, false), (27, true), (28, false), (29, false), (30, false), (31, false)]), (38, [0, 0, 3, 7, 0, 31, 63, 127, 255, 511, 511, 2047, 4095, 8191, 16383, 32767, 65535, 131071, 65535, 524287, 1048575, 65535, 2162687, 65535, 14745599, 31522815, 67108863, 134217727], [(0, false), (1, false), (2, false), (3, true), (4, false), (5, false), (6, true), (7, false), (8, false), (9, false), (10, false), (11, false), (12, false), (13, false), (14, false), (15, false), (16, false), (17, true), (18, false), (19, false), (20, true), (21, false), (22, true), (23, false), (24, false), (25, true), (26, false), (27, false)])]⟩) rfl rfl (Nat.le_of_ble_eq_true rfl) (by decide) ?_
  unfold startA
  repeat' (first
      | refine st_seq_reg rfl (by first | (simp only [go_sem, List.length_map]; rfl) | rfl) (by first | (simp only [go_sem, List.length_map]; rfl) | rfl) ?_
      | refine st_reg rfl (by first | (simp only [go_sem, List.length_map]; rfl) | rfl) (by first | (simp only [go_sem, List.length_map]; rfl) | rfl) ?_
      | refine st_seq_draw rfl (by first | (simp only [go_sem, List.length_map]; rfl) | rfl) (by first | (simp only [go_sem, List.length_map]; rfl) | rfl) ?_
      | refine st_draw rfl (by first | (simp only [go_sem, List.length_map]; rfl) | rfl) (by first | (simp only [go_sem, List.length_map]; rfl) | rfl) ?_
      | refine st_op ?_
      | refine st_det rfl (by simp (disch := omega) only [go_sem, wr_i64, if_yes, if_no, ↓reduceIte, Nat.reduceAdd, Nat.reduceMul, Nat.reduceEqDiff, Nat.reduceBEq, Nat.reduceLeDiff, List.length_map]; rfl) ?_
      | refine st_dop rfl ?_
      | refine st_loc rfl (by simp (disch := omega) only [go_sem, wr_i64, if_yes, if_no, ↓reduceIte, Nat.reduceAdd, Nat.reduceMul, Nat.reduceEqDiff, Nat.reduceBEq, Nat.reduceLeDiff, List.length_map]; rfl) ?_
      | refine st_heap rfl (by simp (disch := omega) only [go_sem, wr_i64, if_yes, if_no, ↓reduceIte, Nat.reduceAdd, Nat.reduceMul, Nat.reduceEqDiff, Nat.reduceBEq, Nat.reduceLeDiff, List.length_map]; rfl) ?_
      | refine st_store (by simp (disch := omega) only [go_sem, wr_i64, if_yes, if_no, ↓reduceIte, Nat.reduceAdd, Nat.reduceMul, Nat.reduceEqDiff, Nat.reduceBEq, Nat.reduceLeDiff, List.length_map]; rfl) ?_
      | refine st_append (by simp (disch := omega) only [go_sem, wr_i64, if_yes, if_no, ↓reduceIte, Nat.reduceAdd, Nat.reduceMul, Nat.reduceEqDiff, Nat.reduceBEq, Nat.reduceLeDiff, List.length_map]; rfl) ?_
      | refine st_copy (by simp (disch := omega) only [go_sem, wr_i64, if_yes, if_no, ↓reduceIte, Nat.reduceAdd, Nat.reduceMul, Nat.reduceEqDiff, Nat.reduceBEq, Nat.reduceLeDiff, List.length_map]; rfl) ?_
      | (refine st_callf rfl rfl (c16 l hl _) ?_; rintro v h' ⟨b, x, n, rfl, hb1, hb2, hu0, rfl⟩)
      | (refine st_drum (by first | (simp (disch := omega) only [go_sem, List.length_map]; rfl) | rfl) rfl (c18c b 10 100 100000) (by first | (simp (disch := omega) only [go_sem, List.length_map]; rfl) | rfl) (by assumption) (by first | (simp only [go_sem, List.length_map]; rfl) | rfl) (by intro x' n; simp (disch := omega) only [go_sem]; rfl) ?_; rintro v x' n hu' ⟨r, rfl, hr⟩ hn)
      | (refine st_drum (by first | (simp (disch := omega) only [go_sem, List.length_map]; rfl) | rfl) rfl (c17 b 6 6 r (by omega) (by omega) (by omega)) (by first | (simp (disch := omega) only [go_sem, List.length_map]; rfl) | rfl) (by assumption) (by first | (simp only [go_sem, List.length_map]; rfl) | rfl) (by intro x' n; simp (disch := omega) only [go_sem]; rfl) ?_; rintro v x' n hu' ⟨lg, rfl, hlg⟩ hn)
      | refine st_gT rfl rfl rfl ?_
      | refine st_gF rfl rfl rfl ?_
      | refine st_dgT rfl rfl rfl rfl ?_
      | refine st_dgF rfl rfl rfl ?_
      | (refine st_gS rfl rfl ?_ ?_ <;> intro hg <;> (try simp only [decide_eq_true_eq, decide_eq_false_iff_not, Bool.not_eq_true', Bool.not_eq_false'] at hg))
      | (refine st_dgS rfl rfl ?_ ?_ <;> intro hg <;> (try simp only [decide_eq_true_eq, decide_eq_false_iff_not, Bool.not_eq_true', Bool.not_eq_false'] at hg))
      | refine st_condT rfl ?_
      | refine st_condF rfl ?_
      | (refine st_condS rfl ?_ ?_ <;> intro hg <;> (try simp only [decide_eq_true_eq, decide_eq_false_iff_not, Bool.not_eq_true', Bool.not_eq_false'] at hg))
      | refine st_nil ?_
      | refine st_dnil ?_
      | refine st_tN ?_
      | refine st_seq ?_
      | refine st_block ?_
      | refine st_skip ?_
      | refine st_exit ?_
      | refine st_ret ?_
      | refine st_tE ?_
      | refine st_tR ?_
      | refine st_bN ?_
      | refine st_bR ?_
      | refine st_bH ?_
      | refine st_noN ?_
      | refine st_noR ?_
      | refine st_noE ?_
      | refine st_label ?_
      | refine st_scope tab mixed (by decide) ?_
      | refine st_bM rfl ?_)
  have h0 := chkE_good hlg (by omega) (by omega) (by omega)
  have hk := ledgerOk h0
  have hfn : (lg.fs.length : Int) ≤ 6 := hlg.fn
  have hbn : (lg.bs.length : Int) ≤ 6 := hlg.bn
  by_cases hp : prf lg = none
  case neg =>
    have k21 := c21no h0 hp
    repeat' (first
        | refine st_seq_reg rfl (by first | (simp only [go_sem]; rfl) | rfl) (by first | (simp only [go_sem]; rfl) | rfl) ?_
        | refine st_reg rfl (by first | (simp only [go_sem]; rfl) | rfl) (by first | (simp only [go_sem]; rfl) | rfl) ?_
        | refine st_seq_draw rfl (by first | (simp only [go_sem]; rfl) | rfl) (by first | (simp only [go_sem]; rfl) | rfl) ?_
        | refine st_draw rfl (by first | (simp only [go_sem]; rfl) | rfl) (by first | (simp only [go_sem]; rfl) | rfl) ?_
        | refine st_op ?_
        | refine st_det rfl (by simp (disch := omega) only [go_sem, wr_i64, if_yes, if_no, ↓reduceIte, Nat.reduceAdd, Nat.reduceMul, Nat.reduceEqDiff, Nat.reduceBEq, Nat.reduceLeDiff]; rfl) ?_
        | refine st_dop rfl ?_
        | refine st_loc rfl (by simp (disch := omega) only [go_sem, wr_i64, if_yes, if_no, ↓reduceIte, Nat.reduceAdd, Nat.reduceMul, Nat.reduceEqDiff, Nat.reduceBEq, Nat.reduceLeDiff]; rfl) ?_
        | refine st_heap rfl (by simp (disch := omega) only [go_sem, wr_i64, if_yes, if_no, ↓reduceIte, Nat.reduceAdd, Nat.reduceMul, Nat.reduceEqDiff, Nat.reduceBEq, Nat.reduceLeDiff]; rfl) ?_
        | refine st_store (by simp (disch := omega) only [go_sem, wr_i64, if_yes, if_no, ↓reduceIte, Nat.reduceAdd, Nat.reduceMul, Nat.reduceEqDiff, Nat.reduceBEq, Nat.reduceLeDiff]; rfl) ?_
        | refine st_append (by simp (disch := omega) only [go_sem, wr_i64, if_yes, if_no, ↓reduceIte, Nat.reduceAdd, Nat.reduceMul, Nat.reduceEqDiff, Nat.reduceBEq, Nat.reduceLeDiff]; rfl) ?_
        | refine st_copy (by simp (disch := omega) only [go_sem, wr_i64, if_yes, if_no, ↓reduceIte, Nat.reduceAdd, Nat.reduceMul, Nat.reduceEqDiff, Nat.reduceBEq, Nat.reduceLeDiff]; rfl) ?_
        | (refine st_pureE (by first | (simp (disch := omega) only [go_sem]; rfl) | rfl) rfl (k21) (by first | (simp only [go_sem]; rfl) | rfl) (by intro n; simp (disch := omega) only [go_sem]; rfl) ?_; intro n hn)
        | (refine st_pureE (by first | (simp (disch := omega) only [go_sem]; rfl) | rfl) rfl (c15) (by first | (simp only [go_sem]; rfl) | rfl) (by intro n; simp (disch := omega) only [go_sem]; rfl) ?_; intro n hn)
        | refine st_gT rfl rfl rfl ?_
        | refine st_gF rfl rfl rfl ?_
        | refine st_dgT rfl rfl rfl rfl ?_
        | refine st_dgF rfl rfl rfl ?_
        | (refine st_gS rfl rfl ?_ ?_ <;> intro hg <;> (try simp only [decide_eq_true_eq, decide_eq_false_iff_not, Bool.not_eq_true', Bool.not_eq_false'] at hg))
        | (refine st_dgS rfl rfl ?_ ?_ <;> intro hg <;> (try simp only [decide_eq_true_eq, decide_eq_false_iff_not, Bool.not_eq_true', Bool.not_eq_false'] at hg))
        | refine st_condT rfl ?_
        | refine st_condF rfl ?_
        | (refine st_condS rfl ?_ ?_ <;> intro hg <;> (try simp only [decide_eq_true_eq, decide_eq_false_iff_not, Bool.not_eq_true', Bool.not_eq_false'] at hg))
        | refine st_nil ?_
        | refine st_dnil ?_
        | refine st_tN ?_
        | refine st_seq ?_
        | refine st_block ?_
        | refine st_skip ?_
        | refine st_exit ?_
        | refine st_ret ?_
        | refine st_tE ?_
        | refine st_tR ?_
        | refine st_bN ?_
        | refine st_bR ?_
        | refine st_bH ?_
        | refine st_noN ?_
        | refine st_noR ?_
        | refine st_noE ?_
        | refine st_label ?_
        | refine st_scope tab mixed (by decide) ?_
        | refine st_bM rfl ?_)
    simp (disch := omega) only [AEnd, Try.results5, aresK, fin, go_sem, ↓reduceIte, Nat.reduceEqDiff, Nat.reduceAdd, Nat.reduceLeDiff, if_yes, if_no, implies_true, true_and, and_true, List.reverse_cons, List.reverse_nil]
  have k21 := c21ok h0 hp
  have t0 := trL_len lg
  have t1 : ∀ i, i < lg.bs.length → lel (traceL lg) i = rowN lg i := fun i hi => trL_row lg hi
  have t2 : ∀ i, i < lg.bs.length → (rowN lg i).length = lg.fs.length := fun i hi => by
    have := (row_all hk hp hi)
    obtain ⟨h1, h2⟩ := rsN_ok hk hp i (by omega)
    have h3 := (tsN_ok hk hi h1 h2 lg.fs.length (Nat.le_refl _)).len
    unfold rowN; rw [List.length_take]; omega
  have t3 : ∀ i f, f < lg.fs.length → elt (rowN lg i) f = elt (rowW lg i) f := fun i f hf => elt_take hf
  have k35 := c35 lg (traceL lg) hk t0 (fun i hi => by rw [t1 i (by omega), t2 i (by omega)])
  have t4 : ∀ f, f < lg.fs.length → elt (rsN lg 0) f = (fd lg.fs f).amt := fun f hf => amts_get (by omega)
  have t6 : ∀ i f, i < lg.bs.length → f < lg.fs.length → 0 ≤ elt (rowW lg i) f ∧ elt (rowW lg i) f ≤ 1000000000 := fun i f hi hf => by
    have a := row_nn hk hp hi
    have b := sumF_term (F := elt (rowW lg i)) (n := lg.fs.length) hf (fun j _ => a j)
    rw [row_sum hk hp hi] at b
    have := (hk.b _ (bl_mem hi)).amt
    exact ⟨a f, by omega⟩
  have t5 : ∀ i, i < lg.bs.length → sumL (rowN lg i) = (bl lg.bs i).amt := fun i hi => by
    rw [sumL_sumF, t2 i hi, sumF_congr (G := elt (rowW lg i)) (fun f hf => t3 i f hf)]; exact row_sum hk hp hi
  have t7 : ∀ i f, i ≤ lg.bs.length → f < lg.fs.length → 0 ≤ elt (rsN lg i) f ∧ elt (rsN lg i) f ≤ 1000000000 := fun i f hi hf => (rsN_ok hk hp i hi).1.2 f (by omega)
  have t8 : ∀ i f, i < lg.bs.length → elt (rsN lg (i + 1)) f = elt (rsN lg i) f - elt (rowW lg i) f := fun i f hi => rest_step hk hp hi f
  have tcf : ∀ i f, i < lg.bs.length → 0 < elt (rowW lg i) f → payB (fd lg.fs f) (bl lg.bs i) = true := fun i f hi h => (row_can hk hp hi h).2
  have tg : ∀ i f g, i < lg.bs.length → f < g → g < lg.fs.length → 0 < elt (rowW lg i) g → 0 < elt (rsN lg lg.bs.length) f → payB (fd lg.fs f) (bl lg.bs i) = true → False := fun i f g hi hf hg h1 h2 h3 => greedy hk hp hi hf hg h1 h2 h3
  have kc : ∀ f i, f < lg.fs.length → i < lg.bs.length → Pure Try.prog 37 [.agg (fd lg.fs f).row, .agg (bl lg.bs i).row] (fun v => v = .bool (payB (fd lg.fs f) (bl lg.bs i))) := fun f i hf hi => c37o hk hf hi
  have ks : ∀ i, i < lg.bs.length → Pure Try.prog 36 [.lst 1 ((rowN lg i).map iv)] (fun v => v = .int .i64 (bl lg.bs i).amt) := fun i hi => by
    have := c36 (rowN lg i) (by rw [t2 i hi]; omega) (fun f hf => by rw [t2 i hi] at hf; rw [t3 i f hf]; have := t6 i f hi hf; omega)
    rw [t5 i hi] at this; exact this
  have hrow : ∀ i, i < lg.bs.length → ((traceL lg).map rowA).getD i [] = [.lst 1 ((rowN lg i).map iv)] := fun i hi => by rw [rowA_getD (by omega), t1 i hi]
  generalize hF : lg.fs.length = nF at *
  generalize hB : lg.bs.length = nB at *
  repeat' (first
      | refine st_seq_reg rfl (by first | (simp only [go_sem, List.length_map, iv_rep, hF, hB, big]; rfl) | rfl) (by first | (simp only [go_sem, List.length_map, iv_rep, hF, hB, big]; rfl) | rfl) ?_
      | refine st_reg rfl (by first | (simp only [go_sem, List.length_map, iv_rep, hF, hB, big]; rfl) | rfl) (by first | (simp only [go_sem, List.length_map, iv_rep, hF, hB, big]; rfl) | rfl) ?_
      | refine st_seq_draw rfl (by first | (simp only [go_sem, List.length_map, iv_rep, hF, hB, big]; rfl) | rfl) (by first | (simp only [go_sem, List.length_map, iv_rep, hF, hB, big]; rfl) | rfl) ?_
      | refine st_draw rfl (by first | (simp only [go_sem, List.length_map, iv_rep, hF, hB, big]; rfl) | rfl) (by first | (simp only [go_sem, List.length_map, iv_rep, hF, hB, big]; rfl) | rfl) ?_
      | refine st_op ?_
      | refine st_det rfl (by simp (disch := omega) only [go_sem, wr_i64, if_yes, if_no, ↓reduceIte, Nat.reduceAdd, Nat.reduceMul, Nat.reduceEqDiff, Nat.reduceBEq, Nat.reduceLeDiff, List.length_map, iv_rep, hF, hB, big]; rfl) ?_
      | refine st_dop rfl ?_
      | refine st_loc rfl (by simp (disch := omega) only [go_sem, wr_i64, if_yes, if_no, ↓reduceIte, Nat.reduceAdd, Nat.reduceMul, Nat.reduceEqDiff, Nat.reduceBEq, Nat.reduceLeDiff, List.length_map, iv_rep, hF, hB, big]; rfl) ?_
      | refine st_heap rfl (by simp (disch := omega) only [go_sem, wr_i64, if_yes, if_no, ↓reduceIte, Nat.reduceAdd, Nat.reduceMul, Nat.reduceEqDiff, Nat.reduceBEq, Nat.reduceLeDiff, List.length_map, iv_rep, hF, hB, big]; rfl) ?_
      | refine st_store (by simp (disch := omega) only [go_sem, wr_i64, if_yes, if_no, ↓reduceIte, Nat.reduceAdd, Nat.reduceMul, Nat.reduceEqDiff, Nat.reduceBEq, Nat.reduceLeDiff, List.length_map, iv_rep, hF, hB, big]; rfl) ?_
      | refine st_append (by simp (disch := omega) only [go_sem, wr_i64, if_yes, if_no, ↓reduceIte, Nat.reduceAdd, Nat.reduceMul, Nat.reduceEqDiff, Nat.reduceBEq, Nat.reduceLeDiff, List.length_map, iv_rep, hF, hB, big]; rfl) ?_
      | refine st_copy (by simp (disch := omega) only [go_sem, wr_i64, if_yes, if_no, ↓reduceIte, Nat.reduceAdd, Nat.reduceMul, Nat.reduceEqDiff, Nat.reduceBEq, Nat.reduceLeDiff, List.length_map, iv_rep, hF, hB, big]; rfl) ?_
      | (refine st_pureE (by first | (simp (disch := omega) only [go_sem, List.length_map, iv_rep, hF, hB, big]; rfl) | rfl) rfl (k21) (by first | (simp only [go_sem, List.length_map, iv_rep, hF, hB, big]; rfl) | rfl) (by intro n; simp (disch := omega) only [go_sem]; rfl) ?_; intro n hn)
      | (refine st_pureE (by first | (simp (disch := omega) only [go_sem, List.length_map, iv_rep, hF, hB, big]; rfl) | rfl) rfl (k35) (by first | (simp only [go_sem, List.length_map, iv_rep, hF, hB, big]; rfl) | rfl) (by intro n; simp (disch := omega) only [go_sem]; rfl) ?_; intro n hn)
      | refine st_gT rfl rfl rfl ?_
      | refine st_gF rfl rfl rfl ?_
      | refine st_dgT rfl rfl rfl rfl ?_
      | refine st_dgF rfl rfl rfl ?_
      | (refine st_gS rfl rfl ?_ ?_ <;> intro hg <;> (try simp only [decide_eq_true_eq, decide_eq_false_iff_not, Bool.not_eq_true', Bool.not_eq_false'] at hg))
      | (refine st_dgS rfl rfl ?_ ?_ <;> intro hg <;> (try simp only [decide_eq_true_eq, decide_eq_false_iff_not, Bool.not_eq_true', Bool.not_eq_false'] at hg))
      | refine st_condT rfl ?_
      | refine st_condF rfl ?_
      | (refine st_condS rfl ?_ ?_ <;> intro hg <;> (try simp only [decide_eq_true_eq, decide_eq_false_iff_not, Bool.not_eq_true', Bool.not_eq_false'] at hg))
      | refine st_nil ?_
      | refine st_dnil ?_
      | refine st_tN ?_
      | refine st_seq ?_
      | refine st_block ?_
      | refine st_skip ?_
      | refine st_exit ?_
      | refine st_ret ?_
      | refine st_tE ?_
      | refine st_tR ?_
      | refine st_bN ?_
      | refine st_bR ?_
      | refine st_bH ?_
      | refine st_noN ?_
      | refine st_noR ?_
      | refine st_noE ?_
      | refine st_label ?_
      | refine st_scope tab mixed (by decide) ?_
      | refine st_bM rfl ?_)
  revert n
  intro K hnK
  refine st_loopH (α := Nat × List Int) tab mixed [] [] (by repeat (first | exact trivial | refine ⟨rfl, ?_⟩)) [4] [_] (by repeat (first | exact trivial | refine ⟨rfl, ?_⟩)) (fun a => [(8, .int .i64 (a.1 : Nat))]) [(2, _), (4, _), (5, _), (7, _)] (fun _ => []) [_] (fun a => lfH K (K, 41) a.2) (fun a => a.1 ≤ nF ∧ a.2.length = nF ∧ ∀ j, j < a.1 → elt a.2 j = elt (rsN lg 0) j) (fun a => nF - a.1) (by decide) (0, List.replicate nF 0) ⟨Nat.zero_le _, by simp, fun j hj => absurd hj (Nat.not_lt_zero _)⟩ (by (try simp only [go_sem]); repeat' (first | exact trivial | refine And.intro ?_ ?_ | rfl | (simp (disch := omega) only [go_sem, if_yes, if_no, ↓reduceIte, Nat.reduceAdd, Nat.reduceMul, Nat.reduceEqDiff, Nat.reduceBEq, Nat.reduceLeDiff]; rfl) | (simp (disch := omega) only [go_sem, if_yes, if_no, ↓reduceIte, Nat.reduceAdd, Nat.reduceMul, Nat.reduceEqDiff, Nat.reduceBEq, Nat.reduceLeDiff]))) (by (try simp only [go_sem]); repeat' (first | exact trivial | refine And.intro ?_ ?_ | rfl | (simp (disch := omega) only [go_sem, if_yes, if_no, ↓reduceIte, Nat.reduceAdd, Nat.reduceMul, Nat.reduceEqDiff, Nat.reduceBEq, Nat.reduceLeDiff]; rfl) | (simp (disch := omega) only [go_sem, if_yes, if_no, ↓reduceIte, Nat.reduceAdd, Nat.reduceMul, Nat.reduceEqDiff, Nat.reduceBEq, Nat.reduceLeDiff]))) (lfH_hold (by simp only [go_sem, ↓reduceIte] <;> rfl) (by simp only [go_sem]; omega)) ?_
  rintro ⟨f, q⟩ c ⟨f1, f2, f3⟩ hc
  dsimp only at f1 f2 f3
  have t4 := t4 f
  simp only [lfH, go_sem] at hc ⊢
  repeat' (first
      | refine st_seq_reg rfl (by first | (simp only [go_sem, List.length_map, hF, f2]; rfl) | rfl) (by first | (simp only [go_sem, List.length_map, hF, f2]; rfl) | rfl) ?_
      | refine st_reg rfl (by first | (simp only [go_sem, List.length_map, hF, f2]; rfl) | rfl) (by first | (simp only [go_sem, List.length_map, hF, f2]; rfl) | rfl) ?_
      | refine st_seq_draw rfl (by first | (simp only [go_sem, List.length_map, hF, f2]; rfl) | rfl) (by first | (simp only [go_sem, List.length_map, hF, f2]; rfl) | rfl) ?_
      | refine st_draw rfl (by first | (simp only [go_sem, List.length_map, hF, f2]; rfl) | rfl) (by first | (simp only [go_sem, List.length_map, hF, f2]; rfl) | rfl) ?_
      | refine st_op ?_
      | refine st_det rfl (by simp (disch := omega) only [go_sem, wr_i64, if_yes, if_no, ↓reduceIte, Nat.reduceAdd, Nat.reduceMul, Nat.reduceEqDiff, Nat.reduceBEq, Nat.reduceLeDiff, List.length_map, hF, f2]; rfl) ?_
      | refine st_dop rfl ?_
      | refine st_loc rfl (by simp (disch := omega) only [go_sem, wr_i64, if_yes, if_no, ↓reduceIte, Nat.reduceAdd, Nat.reduceMul, Nat.reduceEqDiff, Nat.reduceBEq, Nat.reduceLeDiff, List.length_map, hF, f2]; rfl) ?_
      | refine st_heap rfl (by simp (disch := omega) only [go_sem, wr_i64, if_yes, if_no, ↓reduceIte, Nat.reduceAdd, Nat.reduceMul, Nat.reduceEqDiff, Nat.reduceBEq, Nat.reduceLeDiff, List.length_map, hF, f2]; rfl) ?_
      | refine st_store (by simp (disch := omega) only [go_sem, wr_i64, if_yes, if_no, ↓reduceIte, Nat.reduceAdd, Nat.reduceMul, Nat.reduceEqDiff, Nat.reduceBEq, Nat.reduceLeDiff, List.length_map, hF, f2]; rfl) ?_
      | refine st_append (by simp (disch := omega) only [go_sem, wr_i64, if_yes, if_no, ↓reduceIte, Nat.reduceAdd, Nat.reduceMul, Nat.reduceEqDiff, Nat.reduceBEq, Nat.reduceLeDiff, List.length_map, hF, f2]; rfl) ?_
      | refine st_copy (by simp (disch := omega) only [go_sem, wr_i64, if_yes, if_no, ↓reduceIte, Nat.reduceAdd, Nat.reduceMul, Nat.reduceEqDiff, Nat.reduceBEq, Nat.reduceLeDiff, List.length_map, hF, f2]; rfl) ?_
      | refine st_gT rfl rfl rfl ?_
      | refine st_gF rfl rfl rfl ?_
      | refine st_dgT rfl rfl rfl rfl ?_
      | refine st_dgF rfl rfl rfl ?_
      | (refine st_gS rfl rfl ?_ ?_ <;> intro hg <;> (try simp only [decide_eq_true_eq, decide_eq_false_iff_not, Bool.not_eq_true', Bool.not_eq_false'] at hg))
      | (refine st_dgS rfl rfl ?_ ?_ <;> intro hg <;> (try simp only [decide_eq_true_eq, decide_eq_false_iff_not, Bool.not_eq_true', Bool.not_eq_false'] at hg))
      | refine st_condT rfl ?_
      | refine st_condF rfl ?_
      | (refine st_condS rfl ?_ ?_ <;> intro hg <;> (try simp only [decide_eq_true_eq, decide_eq_false_iff_not, Bool.not_eq_true', Bool.not_eq_false'] at hg))
      | refine st_nil ?_
      | refine st_dnil ?_
      | refine st_tN ?_
      | refine st_seq ?_
      | refine st_block ?_
      | refine st_skip ?_
      | refine st_exit ?_
      | refine st_ret ?_
      | refine st_tE ?_
      | refine st_tR ?_
      | refine st_bN ?_
      | refine st_bR ?_
      | refine st_bH ?_
      | refine st_noN ?_
      | refine st_noR ?_
      | refine st_noE ?_
      | refine st_label ?_
      | refine st_scope tab mixed (by decide) ?_
      | refine st_bM rfl ?_)
  · have t4 := t4 (by omega)
    refine ⟨(f + 1, q.set f (fd lg.fs f).amt), ⟨by show f + 1 ≤ nF; omega, by show (q.set f _).length = nF; rw [List.length_set]; exact f2, fun j hj => (by have hj' : j < f + 1 := hj; show elt (q.set f (fd lg.fs f).amt) j = _; rw [elt_set (by omega)]; split; exact (by rename_i e; rw [e, t4]); exact f3 j (by omega))⟩, by show nF - (f + 1) < nF - f; omega, (by repeat' (first | exact trivial | refine And.intro ?_ ?_ | rfl | (simp (disch := omega) only [go_sem, if_yes, if_no, ↓reduceIte, Nat.reduceAdd, Nat.reduceMul, Nat.reduceEqDiff, Nat.reduceBEq, Nat.reduceLeDiff]; rfl) | (simp (disch := omega) only [go_sem, if_yes, if_no, ↓reduceIte, Nat.reduceAdd, Nat.reduceMul, Nat.reduceEqDiff, Nat.reduceBEq, Nat.reduceLeDiff]))), (by repeat' (first | exact trivial | refine And.intro ?_ ?_ | rfl | (simp (disch := omega) only [go_sem, if_yes, if_no, ↓reduceIte, Nat.reduceAdd, Nat.reduceMul, Nat.reduceEqDiff, Nat.reduceBEq, Nat.reduceLeDiff]; rfl) | (simp (disch := omega) only [go_sem, if_yes, if_no, ↓reduceIte, Nat.reduceAdd, Nat.reduceMul, Nat.reduceEqDiff, Nat.reduceBEq, Nat.reduceLeDiff]))), rfl, lfH_hold (by simp only [go_sem, ↓reduceIte, Nat.zero_add, iv_set]) (by simp only [go_sem]; omega)⟩
  have f3' : ∀ j, j < nF → elt q j = elt (rsN lg 0) j := fun j hj => f3 j (by omega)
  refine st_loopH (α := Nat × List Int) tab mixed [] [] (by repeat (first | exact trivial | refine ⟨rfl, ?_⟩)) [4] [_] (by repeat (first | exact trivial | refine ⟨rfl, ?_⟩)) (fun a => [(9, .int .i64 (a.1 : Nat))]) [(2, _), (4, _), (5, _), (7, _)] (fun _ => []) [_] (fun a => lfH K (K, 41) a.2) (fun a => a.1 ≤ nB ∧ a.2.length = nF ∧ ∀ j, j < nF → elt a.2 j = elt (rsN lg a.1) j) (fun a => nB - a.1) (by decide) (0, q) ⟨Nat.zero_le _, f2, f3'⟩ (by (try simp only [go_sem]); repeat' (first | exact trivial | refine And.intro ?_ ?_ | rfl | (simp (disch := omega) only [go_sem, if_yes, if_no, ↓reduceIte, Nat.reduceAdd, Nat.reduceMul, Nat.reduceEqDiff, Nat.reduceBEq, Nat.reduceLeDiff]; rfl) | (simp (disch := omega) only [go_sem, if_yes, if_no, ↓reduceIte, Nat.reduceAdd, Nat.reduceMul, Nat.reduceEqDiff, Nat.reduceBEq, Nat.reduceLeDiff]))) (by (try simp only [go_sem]); repeat' (first | exact trivial | refine And.intro ?_ ?_ | rfl | (simp (disch := omega) only [go_sem, if_yes, if_no, ↓reduceIte, Nat.reduceAdd, Nat.reduceMul, Nat.reduceEqDiff, Nat.reduceBEq, Nat.reduceLeDiff]; rfl) | (simp (disch := omega) only [go_sem, if_yes, if_no, ↓reduceIte, Nat.reduceAdd, Nat.reduceMul, Nat.reduceEqDiff, Nat.reduceBEq, Nat.reduceLeDiff]))) (lfH_hold (by simp only [go_sem, ↓reduceIte]) (by simp only [go_sem]; omega)) ?_
  clear f1 f2 f3 f3' t4 hc hg
  clear q f c
  rintro ⟨i, q⟩ c ⟨i1, i2, i3⟩ hc
  dsimp only at i1 i2 i3
  simp only [lfH, go_sem] at hc ⊢
  by_cases hi : i < nB
  case pos =>
    have a1 := t1 i hi
    have a2 := t2 i hi
    have k1 := ks i hi
    repeat' (first
        | refine st_seq_reg rfl (by first | (simp only [go_sem, List.length_map, hB, t0, a1]; rfl) | rfl) (by first | (simp only [go_sem, List.length_map, hB, t0, a1]; rfl) | rfl) ?_
        | refine st_reg rfl (by first | (simp only [go_sem, List.length_map, hB, t0, a1]; rfl) | rfl) (by first | (simp only [go_sem, List.length_map, hB, t0, a1]; rfl) | rfl) ?_
        | refine st_seq_draw rfl (by first | (simp only [go_sem, List.length_map, hB, t0, a1]; rfl) | rfl) (by first | (simp only [go_sem, List.length_map, hB, t0, a1]; rfl) | rfl) ?_
        | refine st_draw rfl (by first | (simp only [go_sem, List.length_map, hB, t0, a1]; rfl) | rfl) (by first | (simp only [go_sem, List.length_map, hB, t0, a1]; rfl) | rfl) ?_
        | refine st_op ?_
        | refine st_det rfl (by simp (disch := omega) only [go_sem, wr_i64, if_yes, if_no, ↓reduceIte, Nat.reduceAdd, Nat.reduceMul, Nat.reduceEqDiff, Nat.reduceBEq, Nat.reduceLeDiff, List.length_map, hB, t0, a1]; rfl) ?_
        | refine st_dop rfl ?_
        | refine st_loc rfl (by simp (disch := omega) only [go_sem, wr_i64, if_yes, if_no, ↓reduceIte, Nat.reduceAdd, Nat.reduceMul, Nat.reduceEqDiff, Nat.reduceBEq, Nat.reduceLeDiff, List.length_map, hB, t0, a1]; rfl) ?_
        | refine st_heap rfl (by simp (disch := omega) only [go_sem, wr_i64, if_yes, if_no, ↓reduceIte, Nat.reduceAdd, Nat.reduceMul, Nat.reduceEqDiff, Nat.reduceBEq, Nat.reduceLeDiff, List.length_map, hB, t0, a1]; rfl) ?_
        | refine st_store (by simp (disch := omega) only [go_sem, wr_i64, if_yes, if_no, ↓reduceIte, Nat.reduceAdd, Nat.reduceMul, Nat.reduceEqDiff, Nat.reduceBEq, Nat.reduceLeDiff, List.length_map, hB, t0, a1]; rfl) ?_
        | refine st_append (by simp (disch := omega) only [go_sem, wr_i64, if_yes, if_no, ↓reduceIte, Nat.reduceAdd, Nat.reduceMul, Nat.reduceEqDiff, Nat.reduceBEq, Nat.reduceLeDiff, List.length_map, hB, t0, a1]; rfl) ?_
        | refine st_copy (by simp (disch := omega) only [go_sem, wr_i64, if_yes, if_no, ↓reduceIte, Nat.reduceAdd, Nat.reduceMul, Nat.reduceEqDiff, Nat.reduceBEq, Nat.reduceLeDiff, List.length_map, hB, t0, a1]; rfl) ?_
        | (refine st_pureE (by first | (simp (disch := omega) only [go_sem, List.length_map, hB, t0, a1]; rfl) | rfl) rfl (k1) (by first | (simp only [go_sem, List.length_map, hB, t0, a1]; rfl) | rfl) (by intro n; simp (disch := omega) only [go_sem]; rfl) ?_; intro n hn)
        | refine st_gT rfl rfl rfl ?_
        | refine st_gF rfl rfl rfl ?_
        | refine st_dgT rfl rfl rfl rfl ?_
        | refine st_dgF rfl rfl rfl ?_
        | (refine st_gS rfl rfl ?_ ?_ <;> intro hg <;> (try simp only [decide_eq_true_eq, decide_eq_false_iff_not, Bool.not_eq_true', Bool.not_eq_false'] at hg))
        | (refine st_dgS rfl rfl ?_ ?_ <;> intro hg <;> (try simp only [decide_eq_true_eq, decide_eq_false_iff_not, Bool.not_eq_true', Bool.not_eq_false'] at hg))
        | refine st_condT rfl ?_
        | refine st_condF rfl ?_
        | (refine st_condS rfl ?_ ?_ <;> intro hg <;> (try simp only [decide_eq_true_eq, decide_eq_false_iff_not, Bool.not_eq_true', Bool.not_eq_false'] at hg))
        | refine st_nil ?_
        | refine st_dnil ?_
        | refine st_tN ?_
        | refine st_seq ?_
        | refine st_block ?_
        | refine st_skip ?_
        | refine st_exit ?_
        | refine st_ret ?_
        | refine st_tE ?_
        | refine st_tR ?_
        | refine st_bN ?_
        | refine st_bR ?_
        | refine st_bH ?_
        | refine st_noN ?_
        | refine st_noR ?_
        | refine st_noE ?_
        | refine st_label ?_
        | refine st_scope tab mixed (by decide) ?_
        | refine st_bM rfl ?_)
    all_goals try (exfalso; omega)
    refine st_loopH (α := Nat × List Int) tab mixed [] [] (by repeat (first | exact trivial | refine ⟨rfl, ?_⟩)) [4] [_] (by repeat (first | exact trivial | refine ⟨rfl, ?_⟩)) (fun a => [(10, .int .i64 (a.1 : Nat))]) [(2, _), (4, _), (5, _), (7, _), (9, _)] (fun _ => []) [_] (fun a => lfH K (K, 41) a.2) (fun a => a.1 ≤ nF ∧ a.2.length = nF ∧ ∀ j, j < nF → elt a.2 j = if j < a.1 then elt (rsN lg (i + 1)) j else elt (rsN lg i) j) (fun a => nF - a.1) (by decide) (0, q) ⟨Nat.zero_le _, i2, fun j hj => by rw [if_neg (Nat.not_lt_zero _)]; exact i3 j hj⟩ (by (try simp only [go_sem]); repeat' (first | exact trivial | refine And.intro ?_ ?_ | rfl | (simp (disch := omega) only [go_sem, if_yes, if_no, ↓reduceIte, Nat.reduceAdd, Nat.reduceMul, Nat.reduceEqDiff, Nat.reduceBEq, Nat.reduceLeDiff]; rfl) | (simp (disch := omega) only [go_sem, if_yes, if_no, ↓reduceIte, Nat.reduceAdd, Nat.reduceMul, Nat.reduceEqDiff, Nat.reduceBEq, Nat.reduceLeDiff]))) (by (try simp only [go_sem]); repeat' (first | exact trivial | refine And.intro ?_ ?_ | rfl | (simp (disch := omega) only [go_sem, if_yes, if_no, ↓reduceIte, Nat.reduceAdd, Nat.reduceMul, Nat.reduceEqDiff, Nat.reduceBEq, Nat.reduceLeDiff]; rfl) | (simp (disch := omega) only [go_sem, if_yes, if_no, ↓reduceIte, Nat.reduceAdd, Nat.reduceMul, Nat.reduceEqDiff, Nat.reduceBEq, Nat.reduceLeDiff]))) (lfH_hold (by simp only [go_sem, ↓reduceIte]) (by simp only [go_sem]; omega)) ?_
    rintro ⟨f, q⟩ c ⟨f1, f2, f3⟩ hc
    dsimp only at f1 f2 f3
    simp only [lfH, go_sem] at hc ⊢
    by_cases hf : f < nF
    case neg =>
      repeat' (first
          | refine st_seq_reg rfl (by first | (simp only [go_sem, List.length_map, t0, a1, a2]; rfl) | rfl) (by first | (simp only [go_sem, List.length_map, t0, a1, a2]; rfl) | rfl) ?_
          | refine st_reg rfl (by first | (simp only [go_sem, List.length_map, t0, a1, a2]; rfl) | rfl) (by first | (simp only [go_sem, List.length_map, t0, a1, a2]; rfl) | rfl) ?_
          | refine st_seq_draw rfl (by first | (simp only [go_sem, List.length_map, t0, a1, a2]; rfl) | rfl) (by first | (simp only [go_sem, List.length_map, t0, a1, a2]; rfl) | rfl) ?_
          | refine st_draw rfl (by first | (simp only [go_sem, List.length_map, t0, a1, a2]; rfl) | rfl) (by first | (simp only [go_sem, List.length_map, t0, a1, a2]; rfl) | rfl) ?_
          | refine st_op ?_
          | refine st_det rfl (by simp (disch := omega) only [go_sem, wr_i64, if_yes, if_no, ↓reduceIte, Nat.reduceAdd, Nat.reduceMul, Nat.reduceEqDiff, Nat.reduceBEq, Nat.reduceLeDiff, List.length_map, t0, a1, a2]; rfl) ?_
          | refine st_dop rfl ?_
          | refine st_loc rfl (by simp (disch := omega) only [go_sem, wr_i64, if_yes, if_no, ↓reduceIte, Nat.reduceAdd, Nat.reduceMul, Nat.reduceEqDiff, Nat.reduceBEq, Nat.reduceLeDiff, List.length_map, t0, a1, a2]; rfl) ?_
          | refine st_heap rfl (by simp (disch := omega) only [go_sem, wr_i64, if_yes, if_no, ↓reduceIte, Nat.reduceAdd, Nat.reduceMul, Nat.reduceEqDiff, Nat.reduceBEq, Nat.reduceLeDiff, List.length_map, t0, a1, a2]; rfl) ?_
          | refine st_store (by simp (disch := omega) only [go_sem, wr_i64, if_yes, if_no, ↓reduceIte, Nat.reduceAdd, Nat.reduceMul, Nat.reduceEqDiff, Nat.reduceBEq, Nat.reduceLeDiff, List.length_map, t0, a1, a2]; rfl) ?_
          | refine st_append (by simp (disch := omega) only [go_sem, wr_i64, if_yes, if_no, ↓reduceIte, Nat.reduceAdd, Nat.reduceMul, Nat.reduceEqDiff, Nat.reduceBEq, Nat.reduceLeDiff, List.length_map, t0, a1, a2]; rfl) ?_
          | refine st_copy (by simp (disch := omega) only [go_sem, wr_i64, if_yes, if_no, ↓reduceIte, Nat.reduceAdd, Nat.reduceMul, Nat.reduceEqDiff, Nat.reduceBEq, Nat.reduceLeDiff, List.length_map, t0, a1, a2]; rfl) ?_
          | refine st_gT rfl rfl rfl ?_
          | refine st_gF rfl rfl rfl ?_
          | refine st_dgT rfl rfl rfl rfl ?_
          | refine st_dgF rfl rfl rfl ?_
          | (refine st_gS rfl rfl ?_ ?_ <;> intro hg <;> (try simp only [decide_eq_true_eq, decide_eq_false_iff_not, Bool.not_eq_true', Bool.not_eq_false'] at hg))
          | (refine st_dgS rfl rfl ?_ ?_ <;> intro hg <;> (try simp only [decide_eq_true_eq, decide_eq_false_iff_not, Bool.not_eq_true', Bool.not_eq_false'] at hg))
          | refine st_condT rfl ?_
          | refine st_condF rfl ?_
          | (refine st_condS rfl ?_ ?_ <;> intro hg <;> (try simp only [decide_eq_true_eq, decide_eq_false_iff_not, Bool.not_eq_true', Bool.not_eq_false'] at hg))
          | refine st_nil ?_
          | refine st_dnil ?_
          | refine st_tN ?_
          | refine st_seq ?_
          | refine st_block ?_
          | refine st_skip ?_
          | refine st_exit ?_
          | refine st_ret ?_
          | refine st_tE ?_
          | refine st_tR ?_
          | refine st_bN ?_
          | refine st_bR ?_
          | refine st_bH ?_
          | refine st_noN ?_
          | refine st_noR ?_
          | refine st_noE ?_
          | refine st_label ?_
          | refine st_scope tab mixed (by decide) ?_
          | refine st_bM rfl ?_)
      all_goals try (exfalso; omega)
      refine ⟨(i + 1, q), ⟨by show i + 1 ≤ nB; omega, f2, fun j hj => by rw [f3 j hj, if_pos (by omega)]⟩, by show nB - (i + 1) < nB - i; omega, (by repeat' (first | exact trivial | refine And.intro ?_ ?_ | rfl | (simp (disch := omega) only [go_sem, if_yes, if_no, ↓reduceIte, Nat.reduceAdd, Nat.reduceMul, Nat.reduceEqDiff, Nat.reduceBEq, Nat.reduceLeDiff]; rfl) | (simp (disch := omega) only [go_sem, if_yes, if_no, ↓reduceIte, Nat.reduceAdd, Nat.reduceMul, Nat.reduceEqDiff, Nat.reduceBEq, Nat.reduceLeDiff]))), (by repeat' (first | exact trivial | refine And.intro ?_ ?_ | rfl | (simp (disch := omega) only [go_sem, if_yes, if_no, ↓reduceIte, Nat.reduceAdd, Nat.reduceMul, Nat.reduceEqDiff, Nat.reduceBEq, Nat.reduceLeDiff]; rfl) | (simp (disch := omega) only [go_sem, if_yes, if_no, ↓reduceIte, Nat.reduceAdd, Nat.reduceMul, Nat.reduceEqDiff, Nat.reduceBEq, Nat.reduceLeDiff]))), rfl, lfH_hold (by simp only [go_sem, ↓reduceIte]) (by simp only [go_sem]; omega)⟩
    have b1 : (rowN lg i).getD f 0 = elt (rowW lg i) f := t3 i f hf
    have b2 : q.getD f 0 = elt (rsN lg i) f := by have := f3 f hf; rw [if_neg (Nat.lt_irrefl _)] at this; exact this
    have b3 := t6 i f hi hf
    have b4 := t7 i f (by omega) hf
    have b5 := t8 i f hi
    have kcf := kc f i hf hi
    have tcf := tcf i f hi
    repeat' (first
        | refine st_seq_reg rfl (by first | (simp only [go_sem, List.length_map, t0, a1, a2, f2, b1, b2, hF, hB, Nat.zero_add]; rfl) | rfl) (by first | (simp only [go_sem, List.length_map, t0, a1, a2, f2, b1, b2, hF, hB, Nat.zero_add]; rfl) | rfl) ?_
        | refine st_reg rfl (by first | (simp only [go_sem, List.length_map, t0, a1, a2, f2, b1, b2, hF, hB, Nat.zero_add]; rfl) | rfl) (by first | (simp only [go_sem, List.length_map, t0, a1, a2, f2, b1, b2, hF, hB, Nat.zero_add]; rfl) | rfl) ?_
        | refine st_seq_draw rfl (by first | (simp only [go_sem, List.length_map, t0, a1, a2, f2, b1, b2, hF, hB, Nat.zero_add]; rfl) | rfl) (by first | (simp only [go_sem, List.length_map, t0, a1, a2, f2, b1, b2, hF, hB, Nat.zero_add]; rfl) | rfl) ?_
        | refine st_draw rfl (by first | (simp only [go_sem, List.length_map, t0, a1, a2, f2, b1, b2, hF, hB, Nat.zero_add]; rfl) | rfl) (by first | (simp only [go_sem, List.length_map, t0, a1, a2, f2, b1, b2, hF, hB, Nat.zero_add]; rfl) | rfl) ?_
        | refine st_op ?_
        | refine st_det rfl (by simp (disch := omega) only [go_sem, wr_i64, if_yes, if_no, ↓reduceIte, Nat.reduceAdd, Nat.reduceMul, Nat.reduceEqDiff, Nat.reduceBEq, Nat.reduceLeDiff, List.length_map, t0, a1, a2, f2, b1, b2, hF, hB, Nat.zero_add]; rfl) ?_
        | refine st_dop rfl ?_
        | refine st_loc rfl (by simp (disch := omega) only [go_sem, wr_i64, if_yes, if_no, ↓reduceIte, Nat.reduceAdd, Nat.reduceMul, Nat.reduceEqDiff, Nat.reduceBEq, Nat.reduceLeDiff, List.length_map, t0, a1, a2, f2, b1, b2, hF, hB, Nat.zero_add]; rfl) ?_
        | refine st_heap rfl (by simp (disch := omega) only [go_sem, wr_i64, if_yes, if_no, ↓reduceIte, Nat.reduceAdd, Nat.reduceMul, Nat.reduceEqDiff, Nat.reduceBEq, Nat.reduceLeDiff, List.length_map, t0, a1, a2, f2, b1, b2, hF, hB, Nat.zero_add]; rfl) ?_
        | refine st_store (by simp (disch := omega) only [go_sem, wr_i64, if_yes, if_no, ↓reduceIte, Nat.reduceAdd, Nat.reduceMul, Nat.reduceEqDiff, Nat.reduceBEq, Nat.reduceLeDiff, List.length_map, t0, a1, a2, f2, b1, b2, hF, hB, Nat.zero_add]; rfl) ?_
        | refine st_append (by simp (disch := omega) only [go_sem, wr_i64, if_yes, if_no, ↓reduceIte, Nat.reduceAdd, Nat.reduceMul, Nat.reduceEqDiff, Nat.reduceBEq, Nat.reduceLeDiff, List.length_map, t0, a1, a2, f2, b1, b2, hF, hB, Nat.zero_add]; rfl) ?_
        | refine st_copy (by simp (disch := omega) only [go_sem, wr_i64, if_yes, if_no, ↓reduceIte, Nat.reduceAdd, Nat.reduceMul, Nat.reduceEqDiff, Nat.reduceBEq, Nat.reduceLeDiff, List.length_map, t0, a1, a2, f2, b1, b2, hF, hB, Nat.zero_add]; rfl) ?_
        | (refine st_pureE (by first | (simp (disch := omega) only [go_sem, List.length_map, t0, a1, a2, f2, b1, b2, hF, hB, Nat.zero_add]; rfl) | rfl) rfl (kcf) (by first | (simp only [go_sem, List.length_map, t0, a1, a2, f2, b1, b2, hF, hB, Nat.zero_add]; rfl) | rfl) (by intro n; simp (disch := omega) only [go_sem]; rfl) ?_; intro n hn)
        | refine st_gT rfl rfl rfl ?_
        | refine st_gF rfl rfl rfl ?_
        | refine st_dgT rfl rfl rfl rfl ?_
        | refine st_dgF rfl rfl rfl ?_
        | (refine st_gS rfl rfl ?_ ?_ <;> intro hg <;> (try simp only [decide_eq_true_eq, decide_eq_false_iff_not, Bool.not_eq_true', Bool.not_eq_false'] at hg))
        | (refine st_dgS rfl rfl ?_ ?_ <;> intro hg <;> (try simp only [decide_eq_true_eq, decide_eq_false_iff_not, Bool.not_eq_true', Bool.not_eq_false'] at hg))
        | refine st_condT rfl ?_
        | refine st_condF rfl ?_
        | (refine st_condS rfl ?_ ?_ <;> intro hg <;> (try simp only [decide_eq_true_eq, decide_eq_false_iff_not, Bool.not_eq_true', Bool.not_eq_false'] at hg))
        | refine st_nil ?_
        | refine st_dnil ?_
        | refine st_tN ?_
        | refine st_seq ?_
        | refine st_block ?_
        | refine st_skip ?_
        | refine st_exit ?_
        | refine st_ret ?_
        | refine st_tE ?_
        | refine st_tR ?_
        | refine st_bN ?_
        | refine st_bR ?_
        | refine st_bH ?_
        | refine st_noN ?_
        | refine st_noR ?_
        | refine st_noE ?_
        | refine st_label ?_
        | refine st_scope tab mixed (by decide) ?_
        | refine st_bM rfl ?_)
    all_goals try (exfalso; omega)
    all_goals try (exfalso; have := tcf (by assumption); simp_all; done)
    all_goals
      refine ⟨(f + 1, q.set f (elt (rsN lg i) f - elt (rowW lg i) f)), ⟨by show f + 1 ≤ nF; omega, by show (q.set f _).length = nF; rw [List.length_set]; exact f2, fun j hj => (by show elt (q.set f (elt (rsN lg i) f - elt (rowW lg i) f)) j = if j < f + 1 then _ else _; rw [elt_set (by omega), f3 j hj]; by_cases e : j = f; (rw [if_pos e, if_pos (by omega), e, b5]); (rw [if_neg e]; by_cases e2 : j < f; (rw [if_pos e2, if_pos (by omega)]); (rw [if_neg e2, if_neg (by omega)])))⟩, by show nF - (f + 1) < nF - f; omega, (by repeat' (first | exact trivial | refine And.intro ?_ ?_ | rfl | (simp (disch := omega) only [go_sem, if_yes, if_no, ↓reduceIte, Nat.reduceAdd, Nat.reduceMul, Nat.reduceEqDiff, Nat.reduceBEq, Nat.reduceLeDiff]; rfl) | (simp (disch := omega) only [go_sem, if_yes, if_no, ↓reduceIte, Nat.reduceAdd, Nat.reduceMul, Nat.reduceEqDiff, Nat.reduceBEq, Nat.reduceLeDiff]))), (by repeat' (first | exact trivial | refine And.intro ?_ ?_ | rfl | (simp (disch := omega) only [go_sem, if_yes, if_no, ↓reduceIte, Nat.reduceAdd, Nat.reduceMul, Nat.reduceEqDiff, Nat.reduceBEq, Nat.reduceLeDiff]; rfl) | (simp (disch := omega) only [go_sem, if_yes, if_no, ↓reduceIte, Nat.reduceAdd, Nat.reduceMul, Nat.reduceEqDiff, Nat.reduceBEq, Nat.reduceLeDiff]))), rfl, lfH_hold (by simp only [go_sem, ↓reduceIte, iv_set]) (by simp only [go_sem]; omega)⟩
  have i3 : ∀ j, j < nF → elt q j = elt (rsN lg nB) j := fun j hj => by rw [i3 j hj, show i = nB by omega]
  repeat' (first
      | refine st_seq_reg rfl (by first | (simp only [go_sem, List.length_map, t0]; rfl) | rfl) (by first | (simp only [go_sem, List.length_map, t0]; rfl) | rfl) ?_
      | refine st_reg rfl (by first | (simp only [go_sem, List.length_map, t0]; rfl) | rfl) (by first | (simp only [go_sem, List.length_map, t0]; rfl) | rfl) ?_
      | refine st_seq_draw rfl (by first | (simp only [go_sem, List.length_map, t0]; rfl) | rfl) (by first | (simp only [go_sem, List.length_map, t0]; rfl) | rfl) ?_
      | refine st_draw rfl (by first | (simp only [go_sem, List.length_map, t0]; rfl) | rfl) (by first | (simp only [go_sem, List.length_map, t0]; rfl) | rfl) ?_
      | refine st_op ?_
      | refine st_det rfl (by simp (disch := omega) only [go_sem, wr_i64, if_yes, if_no, ↓reduceIte, Nat.reduceAdd, Nat.reduceMul, Nat.reduceEqDiff, Nat.reduceBEq, Nat.reduceLeDiff, List.length_map, t0]; rfl) ?_
      | refine st_dop rfl ?_
      | refine st_loc rfl (by simp (disch := omega) only [go_sem, wr_i64, if_yes, if_no, ↓reduceIte, Nat.reduceAdd, Nat.reduceMul, Nat.reduceEqDiff, Nat.reduceBEq, Nat.reduceLeDiff, List.length_map, t0]; rfl) ?_
      | refine st_heap rfl (by simp (disch := omega) only [go_sem, wr_i64, if_yes, if_no, ↓reduceIte, Nat.reduceAdd, Nat.reduceMul, Nat.reduceEqDiff, Nat.reduceBEq, Nat.reduceLeDiff, List.length_map, t0]; rfl) ?_
      | refine st_store (by simp (disch := omega) only [go_sem, wr_i64, if_yes, if_no, ↓reduceIte, Nat.reduceAdd, Nat.reduceMul, Nat.reduceEqDiff, Nat.reduceBEq, Nat.reduceLeDiff, List.length_map, t0]; rfl) ?_
      | refine st_append (by simp (disch := omega) only [go_sem, wr_i64, if_yes, if_no, ↓reduceIte, Nat.reduceAdd, Nat.reduceMul, Nat.reduceEqDiff, Nat.reduceBEq, Nat.reduceLeDiff, List.length_map, t0]; rfl) ?_
      | refine st_copy (by simp (disch := omega) only [go_sem, wr_i64, if_yes, if_no, ↓reduceIte, Nat.reduceAdd, Nat.reduceMul, Nat.reduceEqDiff, Nat.reduceBEq, Nat.reduceLeDiff, List.length_map, t0]; rfl) ?_
      | refine st_gT rfl rfl rfl ?_
      | refine st_gF rfl rfl rfl ?_
      | refine st_dgT rfl rfl rfl rfl ?_
      | refine st_dgF rfl rfl rfl ?_
      | (refine st_gS rfl rfl ?_ ?_ <;> intro hg <;> (try simp only [decide_eq_true_eq, decide_eq_false_iff_not, Bool.not_eq_true', Bool.not_eq_false'] at hg))
      | (refine st_dgS rfl rfl ?_ ?_ <;> intro hg <;> (try simp only [decide_eq_true_eq, decide_eq_false_iff_not, Bool.not_eq_true', Bool.not_eq_false'] at hg))
      | refine st_condT rfl ?_
      | refine st_condF rfl ?_
      | (refine st_condS rfl ?_ ?_ <;> intro hg <;> (try simp only [decide_eq_true_eq, decide_eq_false_iff_not, Bool.not_eq_true', Bool.not_eq_false'] at hg))
      | refine st_nil ?_
      | refine st_dnil ?_
      | refine st_tN ?_
      | refine st_seq ?_
      | refine st_block ?_
      | refine st_skip ?_
      | refine st_exit ?_
      | refine st_ret ?_
      | refine st_tE ?_
      | refine st_tR ?_
      | refine st_bN ?_
      | refine st_bR ?_
      | refine st_bH ?_
      | refine st_noN ?_
      | refine st_noR ?_
      | refine st_noE ?_
      | refine st_label ?_
      | refine st_scope tab mixed (by decide) ?_
      | refine st_bM rfl ?_)
  all_goals try (exfalso; omega)
  refine st_loopH (α := Nat) tab mixed [] [] (by repeat (first | exact trivial | refine ⟨rfl, ?_⟩)) [4] [_] (by repeat (first | exact trivial | refine ⟨rfl, ?_⟩)) (fun a => [(11, .int .i64 (a : Nat))]) [(2, _), (4, _), (5, _), (7, _)] (fun _ => []) [_] (fun _ => lfH K (K, 41) q) (fun a => a ≤ nF) (fun a => nF - a) (by decide) 0 (Nat.zero_le _) (by (try simp only [go_sem]); repeat' (first | exact trivial | refine And.intro ?_ ?_ | rfl | (simp (disch := omega) only [go_sem, if_yes, if_no, ↓reduceIte, Nat.reduceAdd, Nat.reduceMul, Nat.reduceEqDiff, Nat.reduceBEq, Nat.reduceLeDiff]; rfl) | (simp (disch := omega) only [go_sem, if_yes, if_no, ↓reduceIte, Nat.reduceAdd, Nat.reduceMul, Nat.reduceEqDiff, Nat.reduceBEq, Nat.reduceLeDiff]))) (by (try simp only [go_sem]); repeat' (first | exact trivial | refine And.intro ?_ ?_ | rfl | (simp (disch := omega) only [go_sem, if_yes, if_no, ↓reduceIte, Nat.reduceAdd, Nat.reduceMul, Nat.reduceEqDiff, Nat.reduceBEq, Nat.reduceLeDiff]; rfl) | (simp (disch := omega) only [go_sem, if_yes, if_no, ↓reduceIte, Nat.reduceAdd, Nat.reduceMul, Nat.reduceEqDiff, Nat.reduceBEq, Nat.reduceLeDiff]))) (lfH_hold (by simp only [go_sem, ↓reduceIte]) (by simp only [go_sem]; omega)) ?_
  rintro f c2 f1 hc2
  simp only [lfH, go_sem] at hc2 ⊢
  have b2 : f < nF → q.getD f 0 = elt (rsN lg nB) f := fun hf => i3 f hf
  have b4 := t7 nB f (Nat.le_refl _)
  by_cases hf : f < nF
  case pos =>
    have b2 := b2 hf
    have b4 := b4 hf
    repeat' (first
        | refine st_seq_reg rfl (by first | (simp only [go_sem, List.length_map, i2, b2, Nat.zero_add]; rfl) | rfl) (by first | (simp only [go_sem, List.length_map, i2, b2, Nat.zero_add]; rfl) | rfl) ?_
        | refine st_reg rfl (by first | (simp only [go_sem, List.length_map, i2, b2, Nat.zero_add]; rfl) | rfl) (by first | (simp only [go_sem, List.length_map, i2, b2, Nat.zero_add]; rfl) | rfl) ?_
        | refine st_seq_draw rfl (by first | (simp only [go_sem, List.length_map, i2, b2, Nat.zero_add]; rfl) | rfl) (by first | (simp only [go_sem, List.length_map, i2, b2, Nat.zero_add]; rfl) | rfl) ?_
        | refine st_draw rfl (by first | (simp only [go_sem, List.length_map, i2, b2, Nat.zero_add]; rfl) | rfl) (by first | (simp only [go_sem, List.length_map, i2, b2, Nat.zero_add]; rfl) | rfl) ?_
        | refine st_op ?_
        | refine st_det rfl (by simp (disch := omega) only [go_sem, wr_i64, if_yes, if_no, ↓reduceIte, Nat.reduceAdd, Nat.reduceMul, Nat.reduceEqDiff, Nat.reduceBEq, Nat.reduceLeDiff, List.length_map, i2, b2, Nat.zero_add]; rfl) ?_
        | refine st_dop rfl ?_
        | refine st_loc rfl (by simp (disch := omega) only [go_sem, wr_i64, if_yes, if_no, ↓reduceIte, Nat.reduceAdd, Nat.reduceMul, Nat.reduceEqDiff, Nat.reduceBEq, Nat.reduceLeDiff, List.length_map, i2, b2, Nat.zero_add]; rfl) ?_
        | refine st_heap rfl (by simp (disch := omega) only [go_sem, wr_i64, if_yes, if_no, ↓reduceIte, Nat.reduceAdd, Nat.reduceMul, Nat.reduceEqDiff, Nat.reduceBEq, Nat.reduceLeDiff, List.length_map, i2, b2, Nat.zero_add]; rfl) ?_
        | refine st_store (by simp (disch := omega) only [go_sem, wr_i64, if_yes, if_no, ↓reduceIte, Nat.reduceAdd, Nat.reduceMul, Nat.reduceEqDiff, Nat.reduceBEq, Nat.reduceLeDiff, List.length_map, i2, b2, Nat.zero_add]; rfl) ?_
        | refine st_append (by simp (disch := omega) only [go_sem, wr_i64, if_yes, if_no, ↓reduceIte, Nat.reduceAdd, Nat.reduceMul, Nat.reduceEqDiff, Nat.reduceBEq, Nat.reduceLeDiff, List.length_map, i2, b2, Nat.zero_add]; rfl) ?_
        | refine st_copy (by simp (disch := omega) only [go_sem, wr_i64, if_yes, if_no, ↓reduceIte, Nat.reduceAdd, Nat.reduceMul, Nat.reduceEqDiff, Nat.reduceBEq, Nat.reduceLeDiff, List.length_map, i2, b2, Nat.zero_add]; rfl) ?_
        | refine st_gT rfl rfl rfl ?_
        | refine st_gF rfl rfl rfl ?_
        | refine st_dgT rfl rfl rfl rfl ?_
        | refine st_dgF rfl rfl rfl ?_
        | (refine st_gS rfl rfl ?_ ?_ <;> intro hg <;> (try simp only [decide_eq_true_eq, decide_eq_false_iff_not, Bool.not_eq_true', Bool.not_eq_false'] at hg))
        | (refine st_dgS rfl rfl ?_ ?_ <;> intro hg <;> (try simp only [decide_eq_true_eq, decide_eq_false_iff_not, Bool.not_eq_true', Bool.not_eq_false'] at hg))
        | refine st_condT rfl ?_
        | refine st_condF rfl ?_
        | (refine st_condS rfl ?_ ?_ <;> intro hg <;> (try simp only [decide_eq_true_eq, decide_eq_false_iff_not, Bool.not_eq_true', Bool.not_eq_false'] at hg))
        | refine st_nil ?_
        | refine st_dnil ?_
        | refine st_tN ?_
        | refine st_seq ?_
        | refine st_block ?_
        | refine st_skip ?_
        | refine st_exit ?_
        | refine st_ret ?_
        | refine st_tE ?_
        | refine st_tR ?_
        | refine st_bN ?_
        | refine st_bR ?_
        | refine st_bH ?_
        | refine st_noN ?_
        | refine st_noR ?_
        | refine st_noE ?_
        | refine st_label ?_
        | refine st_scope tab mixed (by decide) ?_
        | refine st_bM rfl ?_)
    all_goals try (exfalso; omega)
    refine ⟨f + 1, (by show f + 1 ≤ nF; omega), by show nF - (f + 1) < nF - f; omega, (by repeat' (first | exact trivial | refine And.intro ?_ ?_ | rfl | (simp (disch := omega) only [go_sem, if_yes, if_no, ↓reduceIte, Nat.reduceAdd, Nat.reduceMul, Nat.reduceEqDiff, Nat.reduceBEq, Nat.reduceLeDiff]; rfl) | (simp (disch := omega) only [go_sem, if_yes, if_no, ↓reduceIte, Nat.reduceAdd, Nat.reduceMul, Nat.reduceEqDiff, Nat.reduceBEq, Nat.reduceLeDiff]))), (by repeat' (first | exact trivial | refine And.intro ?_ ?_ | rfl | (simp (disch := omega) only [go_sem, if_yes, if_no, ↓reduceIte, Nat.reduceAdd, Nat.reduceMul, Nat.reduceEqDiff, Nat.reduceBEq, Nat.reduceLeDiff]; rfl) | (simp (disch := omega) only [go_sem, if_yes, if_no, ↓reduceIte, Nat.reduceAdd, Nat.reduceMul, Nat.reduceEqDiff, Nat.reduceBEq, Nat.reduceLeDiff]))), rfl, lfH_hold (by simp only [go_sem, ↓reduceIte]) (by simp only [go_sem]; omega)⟩
  repeat' (first
      | refine st_seq_reg rfl (by first | (simp only [go_sem, List.length_map, i2]; rfl) | rfl) (by first | (simp only [go_sem, List.length_map, i2]; rfl) | rfl) ?_
      | refine st_reg rfl (by first | (simp only [go_sem, List.length_map, i2]; rfl) | rfl) (by first | (simp only [go_sem, List.length_map, i2]; rfl) | rfl) ?_
      | refine st_seq_draw rfl (by first | (simp only [go_sem, List.length_map, i2]; rfl) | rfl) (by first | (simp only [go_sem, List.length_map, i2]; rfl) | rfl) ?_
      | refine st_draw rfl (by first | (simp only [go_sem, List.length_map, i2]; rfl) | rfl) (by first | (simp only [go_sem, List.length_map, i2]; rfl) | rfl) ?_
      | refine st_op ?_
      | refine st_det rfl (by simp (disch := omega) only [go_sem, wr_i64, if_yes, if_no, ↓reduceIte, Nat.reduceAdd, Nat.reduceMul, Nat.reduceEqDiff, Nat.reduceBEq, Nat.reduceLeDiff, List.length_map, i2]; rfl) ?_
      | refine st_dop rfl ?_
      | refine st_loc rfl (by simp (disch := omega) only [go_sem, wr_i64, if_yes, if_no, ↓reduceIte, Nat.reduceAdd, Nat.reduceMul, Nat.reduceEqDiff, Nat.reduceBEq, Nat.reduceLeDiff, List.length_map, i2]; rfl) ?_
      | refine st_heap rfl (by simp (disch := omega) only [go_sem, wr_i64, if_yes, if_no, ↓reduceIte, Nat.reduceAdd, Nat.reduceMul, Nat.reduceEqDiff, Nat.reduceBEq, Nat.reduceLeDiff, List.length_map, i2]; rfl) ?_
      | refine st_store (by simp (disch := omega) only [go_sem, wr_i64, if_yes, if_no, ↓reduceIte, Nat.reduceAdd, Nat.reduceMul, Nat.reduceEqDiff, Nat.reduceBEq, Nat.reduceLeDiff, List.length_map, i2]; rfl) ?_
      | refine st_append (by simp (disch := omega) only [go_sem, wr_i64, if_yes, if_no, ↓reduceIte, Nat.reduceAdd, Nat.reduceMul, Nat.reduceEqDiff, Nat.reduceBEq, Nat.reduceLeDiff, List.length_map, i2]; rfl) ?_
      | refine st_copy (by simp (disch := omega) only [go_sem, wr_i64, if_yes, if_no, ↓reduceIte, Nat.reduceAdd, Nat.reduceMul, Nat.reduceEqDiff, Nat.reduceBEq, Nat.reduceLeDiff, List.length_map, i2]; rfl) ?_
      | refine st_gT rfl rfl rfl ?_
      | refine st_gF rfl rfl rfl ?_
      | refine st_dgT rfl rfl rfl rfl ?_
      | refine st_dgF rfl rfl rfl ?_
      | (refine st_gS rfl rfl ?_ ?_ <;> intro hg <;> (try simp only [decide_eq_true_eq, decide_eq_false_iff_not, Bool.not_eq_true', Bool.not_eq_false'] at hg))
      | (refine st_dgS rfl rfl ?_ ?_ <;> intro hg <;> (try simp only [decide_eq_true_eq, decide_eq_false_iff_not, Bool.not_eq_true', Bool.not_eq_false'] at hg))
      | refine st_condT rfl ?_
      | refine st_condF rfl ?_
      | (refine st_condS rfl ?_ ?_ <;> intro hg <;> (try simp only [decide_eq_true_eq, decide_eq_false_iff_not, Bool.not_eq_true', Bool.not_eq_false'] at hg))
      | refine st_nil ?_
      | refine st_dnil ?_
      | refine st_tN ?_
      | refine st_seq ?_
      | refine st_block ?_
      | refine st_skip ?_
      | refine st_exit ?_
      | refine st_ret ?_
      | refine st_tE ?_
      | refine st_tR ?_
      | refine st_bN ?_
      | refine st_bR ?_
      | refine st_bH ?_
      | refine st_noN ?_
      | refine st_noR ?_
      | refine st_noE ?_
      | refine st_label ?_
      | refine st_scope tab mixed (by decide) ?_
      | refine st_bM rfl ?_)
  all_goals try (exfalso; omega)
  refine st_loopH (α := Nat) tab mixed [] [] (by repeat (first | exact trivial | refine ⟨rfl, ?_⟩)) [4] [_] (by repeat (first | exact trivial | refine ⟨rfl, ?_⟩)) (fun a => [(12, .int .i64 (a : Nat))]) [(2, _), (4, _), (5, _), (7, _)] (fun _ => []) [_] (fun _ => lfH K (K, 41) q) (fun a => a ≤ nB) (fun a => nB - a) (by decide) 0 (Nat.zero_le _) (by (try simp only [go_sem]); repeat' (first | exact trivial | refine And.intro ?_ ?_ | rfl | (simp (disch := omega) only [go_sem, if_yes, if_no, ↓reduceIte, Nat.reduceAdd, Nat.reduceMul, Nat.reduceEqDiff, Nat.reduceBEq, Nat.reduceLeDiff]; rfl) | (simp (disch := omega) only [go_sem, if_yes, if_no, ↓reduceIte, Nat.reduceAdd, Nat.reduceMul, Nat.reduceEqDiff, Nat.reduceBEq, Nat.reduceLeDiff]))) (by (try simp only [go_sem]); repeat' (first | exact trivial | refine And.intro ?_ ?_ | rfl | (simp (disch := omega) only [go_sem, if_yes, if_no, ↓reduceIte, Nat.reduceAdd, Nat.reduceMul, Nat.reduceEqDiff, Nat.reduceBEq, Nat.reduceLeDiff]; rfl) | (simp (disch := omega) only [go_sem, if_yes, if_no, ↓reduceIte, Nat.reduceAdd, Nat.reduceMul, Nat.reduceEqDiff, Nat.reduceBEq, Nat.reduceLeDiff]))) (lfH_hold (by simp only [go_sem, ↓reduceIte]) (by simp only [go_sem]; omega)) ?_
  rintro i c3 i1 hc3
  simp only [lfH, go_sem] at hc3 ⊢
  by_cases hi : i < nB
  case neg =>
    repeat' (first
        | refine st_seq_reg rfl (by first | (simp only [go_sem, List.length_map, t0]; rfl) | rfl) (by first | (simp only [go_sem, List.length_map, t0]; rfl) | rfl) ?_
        | refine st_reg rfl (by first | (simp only [go_sem, List.length_map, t0]; rfl) | rfl) (by first | (simp only [go_sem, List.length_map, t0]; rfl) | rfl) ?_
        | refine st_seq_draw rfl (by first | (simp only [go_sem, List.length_map, t0]; rfl) | rfl) (by first | (simp only [go_sem, List.length_map, t0]; rfl) | rfl) ?_
        | refine st_draw rfl (by first | (simp only [go_sem, List.length_map, t0]; rfl) | rfl) (by first | (simp only [go_sem, List.length_map, t0]; rfl) | rfl) ?_
        | refine st_op ?_
        | refine st_det rfl (by simp (disch := omega) only [go_sem, wr_i64, if_yes, if_no, ↓reduceIte, Nat.reduceAdd, Nat.reduceMul, Nat.reduceEqDiff, Nat.reduceBEq, Nat.reduceLeDiff, List.length_map, t0]; rfl) ?_
        | refine st_dop rfl ?_
        | refine st_loc rfl (by simp (disch := omega) only [go_sem, wr_i64, if_yes, if_no, ↓reduceIte, Nat.reduceAdd, Nat.reduceMul, Nat.reduceEqDiff, Nat.reduceBEq, Nat.reduceLeDiff, List.length_map, t0]; rfl) ?_
        | refine st_heap rfl (by simp (disch := omega) only [go_sem, wr_i64, if_yes, if_no, ↓reduceIte, Nat.reduceAdd, Nat.reduceMul, Nat.reduceEqDiff, Nat.reduceBEq, Nat.reduceLeDiff, List.length_map, t0]; rfl) ?_
        | refine st_store (by simp (disch := omega) only [go_sem, wr_i64, if_yes, if_no, ↓reduceIte, Nat.reduceAdd, Nat.reduceMul, Nat.reduceEqDiff, Nat.reduceBEq, Nat.reduceLeDiff, List.length_map, t0]; rfl) ?_
        | refine st_append (by simp (disch := omega) only [go_sem, wr_i64, if_yes, if_no, ↓reduceIte, Nat.reduceAdd, Nat.reduceMul, Nat.reduceEqDiff, Nat.reduceBEq, Nat.reduceLeDiff, List.length_map, t0]; rfl) ?_
        | refine st_copy (by simp (disch := omega) only [go_sem, wr_i64, if_yes, if_no, ↓reduceIte, Nat.reduceAdd, Nat.reduceMul, Nat.reduceEqDiff, Nat.reduceBEq, Nat.reduceLeDiff, List.length_map, t0]; rfl) ?_
        | (refine st_pureE (by first | (simp (disch := omega) only [go_sem, List.length_map, t0]; rfl) | rfl) rfl (c15) (by first | (simp only [go_sem, List.length_map, t0]; rfl) | rfl) (by intro n; simp (disch := omega) only [go_sem]; rfl) ?_; intro n hn)
        | refine st_gT rfl rfl rfl ?_
        | refine st_gF rfl rfl rfl ?_
        | refine st_dgT rfl rfl rfl rfl ?_
        | refine st_dgF rfl rfl rfl ?_
        | (refine st_gS rfl rfl ?_ ?_ <;> intro hg <;> (try simp only [decide_eq_true_eq, decide_eq_false_iff_not, Bool.not_eq_true', Bool.not_eq_false'] at hg))
        | (refine st_dgS rfl rfl ?_ ?_ <;> intro hg <;> (try simp only [decide_eq_true_eq, decide_eq_false_iff_not, Bool.not_eq_true', Bool.not_eq_false'] at hg))
        | refine st_condT rfl ?_
        | refine st_condF rfl ?_
        | (refine st_condS rfl ?_ ?_ <;> intro hg <;> (try simp only [decide_eq_true_eq, decide_eq_false_iff_not, Bool.not_eq_true', Bool.not_eq_false'] at hg))
        | refine st_nil ?_
        | refine st_dnil ?_
        | refine st_tN ?_
        | refine st_seq ?_
        | refine st_block ?_
        | refine st_skip ?_
        | refine st_exit ?_
        | refine st_ret ?_
        | refine st_tE ?_
        | refine st_tR ?_
        | refine st_bN ?_
        | refine st_bR ?_
        | refine st_bH ?_
        | refine st_noN ?_
        | refine st_noR ?_
        | refine st_noE ?_
        | refine st_label ?_
        | refine st_scope tab mixed (by decide) ?_
        | refine st_bM rfl ?_)
    all_goals try (exfalso; omega)
    simp (disch := omega) only [AEnd, Try.results5, aresK, fin, go_sem, ↓reduceIte, Nat.reduceEqDiff, Nat.reduceAdd, Nat.reduceLeDiff, if_yes, if_no, implies_true, true_and, and_true, List.reverse_cons, List.reverse_nil]
  have a1 := t1 i hi
  have a2 := t2 i hi
  repeat' (first
      | refine st_seq_reg rfl (by first | (simp only [go_sem, List.length_map, t0]; rfl) | rfl) (by first | (simp only [go_sem, List.length_map, t0]; rfl) | rfl) ?_
      | refine st_reg rfl (by first | (simp only [go_sem, List.length_map, t0]; rfl) | rfl) (by first | (simp only [go_sem, List.length_map, t0]; rfl) | rfl) ?_
      | refine st_seq_draw rfl (by first | (simp only [go_sem, List.length_map, t0]; rfl) | rfl) (by first | (simp only [go_sem, List.length_map, t0]; rfl) | rfl) ?_
      | refine st_draw rfl (by first | (simp only [go_sem, List.length_map, t0]; rfl) | rfl) (by first | (simp only [go_sem, List.length_map, t0]; rfl) | rfl) ?_
      | refine st_op ?_
      | refine st_det rfl (by simp (disch := omega) only [go_sem, wr_i64, if_yes, if_no, ↓reduceIte, Nat.reduceAdd, Nat.reduceMul, Nat.reduceEqDiff, Nat.reduceBEq, Nat.reduceLeDiff, List.length_map, t0]; rfl) ?_
      | refine st_dop rfl ?_
      | refine st_loc rfl (by simp (disch := omega) only [go_sem, wr_i64, if_yes, if_no, ↓reduceIte, Nat.reduceAdd, Nat.reduceMul, Nat.reduceEqDiff, Nat.reduceBEq, Nat.reduceLeDiff, List.length_map, t0]; rfl) ?_
      | refine st_heap rfl (by simp (disch := omega) only [go_sem, wr_i64, if_yes, if_no, ↓reduceIte, Nat.reduceAdd, Nat.reduceMul, Nat.reduceEqDiff, Nat.reduceBEq, Nat.reduceLeDiff, List.length_map, t0]; rfl) ?_
      | refine st_store (by simp (disch := omega) only [go_sem, wr_i64, if_yes, if_no, ↓reduceIte, Nat.reduceAdd, Nat.reduceMul, Nat.reduceEqDiff, Nat.reduceBEq, Nat.reduceLeDiff, List.length_map, t0]; rfl) ?_
      | refine st_append (by simp (disch := omega) only [go_sem, wr_i64, if_yes, if_no, ↓reduceIte, Nat.reduceAdd, Nat.reduceMul, Nat.reduceEqDiff, Nat.reduceBEq, Nat.reduceLeDiff, List.length_map, t0]; rfl) ?_
      | refine st_copy (by simp (disch := omega) only [go_sem, wr_i64, if_yes, if_no, ↓reduceIte, Nat.reduceAdd, Nat.reduceMul, Nat.reduceEqDiff, Nat.reduceBEq, Nat.reduceLeDiff, List.length_map, t0]; rfl) ?_
      | refine st_gT rfl rfl rfl ?_
      | refine st_gF rfl rfl rfl ?_
      | refine st_dgT rfl rfl rfl rfl ?_
      | refine st_dgF rfl rfl rfl ?_
      | (refine st_gS rfl rfl ?_ ?_ <;> intro hg <;> (try simp only [decide_eq_true_eq, decide_eq_false_iff_not, Bool.not_eq_true', Bool.not_eq_false'] at hg))
      | (refine st_dgS rfl rfl ?_ ?_ <;> intro hg <;> (try simp only [decide_eq_true_eq, decide_eq_false_iff_not, Bool.not_eq_true', Bool.not_eq_false'] at hg))
      | refine st_condT rfl ?_
      | refine st_condF rfl ?_
      | (refine st_condS rfl ?_ ?_ <;> intro hg <;> (try simp only [decide_eq_true_eq, decide_eq_false_iff_not, Bool.not_eq_true', Bool.not_eq_false'] at hg))
      | refine st_nil ?_
      | refine st_dnil ?_
      | refine st_tN ?_
      | refine st_seq ?_
      | refine st_block ?_
      | refine st_skip ?_
      | refine st_exit ?_
      | refine st_ret ?_
      | refine st_tE ?_
      | refine st_tR ?_
      | refine st_bN ?_
      | refine st_bR ?_
      | refine st_bH ?_
      | refine st_noN ?_
      | refine st_noR ?_
      | refine st_noE ?_
      | refine st_label ?_
      | refine st_scope tab mixed (by decide) ?_
      | refine st_bM rfl ?_)
  all_goals try (exfalso; omega)
  refine st_loopH (α := Nat) tab mixed [] [] (by repeat (first | exact trivial | refine ⟨rfl, ?_⟩)) [4] [_] (by repeat (first | exact trivial | refine ⟨rfl, ?_⟩)) (fun a => [(13, .int .i64 (a : Nat))]) [(2, _), (4, _), (5, _), (7, _), (12, _)] (fun _ => []) [_] (fun _ => lfH K (K, 41) q) (fun a => a ≤ nF) (fun a => nF - a) (by decide) 0 (Nat.zero_le _) (by (try simp only [go_sem]); repeat' (first | exact trivial | refine And.intro ?_ ?_ | rfl | (simp (disch := omega) only [go_sem, if_yes, if_no, ↓reduceIte, Nat.reduceAdd, Nat.reduceMul, Nat.reduceEqDiff, Nat.reduceBEq, Nat.reduceLeDiff]; rfl) | (simp (disch := omega) only [go_sem, if_yes, if_no, ↓reduceIte, Nat.reduceAdd, Nat.reduceMul, Nat.reduceEqDiff, Nat.reduceBEq, Nat.reduceLeDiff]))) (by (try simp only [go_sem]); repeat' (first | exact trivial | refine And.intro ?_ ?_ | rfl | (simp (disch := omega) only [go_sem, if_yes, if_no, ↓reduceIte, Nat.reduceAdd, Nat.reduceMul, Nat.reduceEqDiff, Nat.reduceBEq, Nat.reduceLeDiff]; rfl) | (simp (disch := omega) only [go_sem, if_yes, if_no, ↓reduceIte, Nat.reduceAdd, Nat.reduceMul, Nat.reduceEqDiff, Nat.reduceBEq, Nat.reduceLeDiff]))) (lfH_hold (by simp only [go_sem, ↓reduceIte]) (by simp only [go_sem]; omega)) ?_
  rintro f c4 f1 hc4
  simp only [lfH, go_sem] at hc4 ⊢
  by_cases hf : f < nF
  case neg =>
    repeat' (first
        | refine st_seq_reg rfl (by first | (simp only [go_sem, List.length_map, t0, a1, a2]; rfl) | rfl) (by first | (simp only [go_sem, List.length_map, t0, a1, a2]; rfl) | rfl) ?_
        | refine st_reg rfl (by first | (simp only [go_sem, List.length_map, t0, a1, a2]; rfl) | rfl) (by first | (simp only [go_sem, List.length_map, t0, a1, a2]; rfl) | rfl) ?_
        | refine st_seq_draw rfl (by first | (simp only [go_sem, List.length_map, t0, a1, a2]; rfl) | rfl) (by first | (simp only [go_sem, List.length_map, t0, a1, a2]; rfl) | rfl) ?_
        | refine st_draw rfl (by first | (simp only [go_sem, List.length_map, t0, a1, a2]; rfl) | rfl) (by first | (simp only [go_sem, List.length_map, t0, a1, a2]; rfl) | rfl) ?_
        | refine st_op ?_
        | refine st_det rfl (by simp (disch := omega) only [go_sem, wr_i64, if_yes, if_no, ↓reduceIte, Nat.reduceAdd, Nat.reduceMul, Nat.reduceEqDiff, Nat.reduceBEq, Nat.reduceLeDiff, List.length_map, t0, a1, a2]; rfl) ?_
        | refine st_dop rfl ?_
        | refine st_loc rfl (by simp (disch := omega) only [go_sem, wr_i64, if_yes, if_no, ↓reduceIte, Nat.reduceAdd, Nat.reduceMul, Nat.reduceEqDiff, Nat.reduceBEq, Nat.reduceLeDiff, List.length_map, t0, a1, a2]; rfl) ?_
        | refine st_heap rfl (by simp (disch := omega) only [go_sem, wr_i64, if_yes, if_no, ↓reduceIte, Nat.reduceAdd, Nat.reduceMul, Nat.reduceEqDiff, Nat.reduceBEq, Nat.reduceLeDiff, List.length_map, t0, a1, a2]; rfl) ?_
        | refine st_store (by simp (disch := omega) only [go_sem, wr_i64, if_yes, if_no, ↓reduceIte, Nat.reduceAdd, Nat.reduceMul, Nat.reduceEqDiff, Nat.reduceBEq, Nat.reduceLeDiff, List.length_map, t0, a1, a2]; rfl) ?_
        | refine st_append (by simp (disch := omega) only [go_sem, wr_i64, if_yes, if_no, ↓reduceIte, Nat.reduceAdd, Nat.reduceMul, Nat.reduceEqDiff, Nat.reduceBEq, Nat.reduceLeDiff, List.length_map, t0, a1, a2]; rfl) ?_
        | refine st_copy (by simp (disch := omega) only [go_sem, wr_i64, if_yes, if_no, ↓reduceIte, Nat.reduceAdd, Nat.reduceMul, Nat.reduceEqDiff, Nat.reduceBEq, Nat.reduceLeDiff, List.length_map, t0, a1, a2]; rfl) ?_
        | refine st_gT rfl rfl rfl ?_
        | refine st_gF rfl rfl rfl ?_
        | refine st_dgT rfl rfl rfl rfl ?_
        | refine st_dgF rfl rfl rfl ?_
        | (refine st_gS rfl rfl ?_ ?_ <;> intro hg <;> (try simp only [decide_eq_true_eq, decide_eq_false_iff_not, Bool.not_eq_true', Bool.not_eq_false'] at hg))
        | (refine st_dgS rfl rfl ?_ ?_ <;> intro hg <;> (try simp only [decide_eq_true_eq, decide_eq_false_iff_not, Bool.not_eq_true', Bool.not_eq_false'] at hg))
        | refine st_condT rfl ?_
        | refine st_condF rfl ?_
        | (refine st_condS rfl ?_ ?_ <;> intro hg <;> (try simp only [decide_eq_true_eq, decide_eq_false_iff_not, Bool.not_eq_true', Bool.not_eq_false'] at hg))
        | refine st_nil ?_
        | refine st_dnil ?_
        | refine st_tN ?_
        | refine st_seq ?_
        | refine st_block ?_
        | refine st_skip ?_
        | refine st_exit ?_
        | refine st_ret ?_
        | refine st_tE ?_
        | refine st_tR ?_
        | refine st_bN ?_
        | refine st_bR ?_
        | refine st_bH ?_
        | refine st_noN ?_
        | refine st_noR ?_
        | refine st_noE ?_
        | refine st_label ?_
        | refine st_scope tab mixed (by decide) ?_
        | refine st_bM rfl ?_)
    all_goals try (exfalso; omega)
    refine ⟨i + 1, (by show i + 1 ≤ nB; omega), by show nB - (i + 1) < nB - i; omega, (by repeat' (first | exact trivial | refine And.intro ?_ ?_ | rfl | (simp (disch := omega) only [go_sem, if_yes, if_no, ↓reduceIte, Nat.reduceAdd, Nat.reduceMul, Nat.reduceEqDiff, Nat.reduceBEq, Nat.reduceLeDiff]; rfl) | (simp (disch := omega) only [go_sem, if_yes, if_no, ↓reduceIte, Nat.reduceAdd, Nat.reduceMul, Nat.reduceEqDiff, Nat.reduceBEq, Nat.reduceLeDiff]))), (by repeat' (first | exact trivial | refine And.intro ?_ ?_ | rfl | (simp (disch := omega) only [go_sem, if_yes, if_no, ↓reduceIte, Nat.reduceAdd, Nat.reduceMul, Nat.reduceEqDiff, Nat.reduceBEq, Nat.reduceLeDiff]; rfl) | (simp (disch := omega) only [go_sem, if_yes, if_no, ↓reduceIte, Nat.reduceAdd, Nat.reduceMul, Nat.reduceEqDiff, Nat.reduceBEq, Nat.reduceLeDiff]))), rfl, lfH_hold (by simp only [go_sem, ↓reduceIte]) (by simp only [go_sem]; omega)⟩
  repeat' (first
      | refine st_seq_reg rfl (by first | (simp only [go_sem, List.length_map, t0, a1, a2]; rfl) | rfl) (by first | (simp only [go_sem, List.length_map, t0, a1, a2]; rfl) | rfl) ?_
      | refine st_reg rfl (by first | (simp only [go_sem, List.length_map, t0, a1, a2]; rfl) | rfl) (by first | (simp only [go_sem, List.length_map, t0, a1, a2]; rfl) | rfl) ?_
      | refine st_seq_draw rfl (by first | (simp only [go_sem, List.length_map, t0, a1, a2]; rfl) | rfl) (by first | (simp only [go_sem, List.length_map, t0, a1, a2]; rfl) | rfl) ?_
      | refine st_draw rfl (by first | (simp only [go_sem, List.length_map, t0, a1, a2]; rfl) | rfl) (by first | (simp only [go_sem, List.length_map, t0, a1, a2]; rfl) | rfl) ?_
      | refine st_op ?_
      | refine st_det rfl (by simp (disch := omega) only [go_sem, wr_i64, if_yes, if_no, ↓reduceIte, Nat.reduceAdd, Nat.reduceMul, Nat.reduceEqDiff, Nat.reduceBEq, Nat.reduceLeDiff, List.length_map, t0, a1, a2]; rfl) ?_
      | refine st_dop rfl ?_
      | refine st_loc rfl (by simp (disch := omega) only [go_sem, wr_i64, if_yes, if_no, ↓reduceIte, Nat.reduceAdd, Nat.reduceMul, Nat.reduceEqDiff, Nat.reduceBEq, Nat.reduceLeDiff, List.length_map, t0, a1, a2]; rfl) ?_
      | refine st_heap rfl (by simp (disch := omega) only [go_sem, wr_i64, if_yes, if_no, ↓reduceIte, Nat.reduceAdd, Nat.reduceMul, Nat.reduceEqDiff, Nat.reduceBEq, Nat.reduceLeDiff, List.length_map, t0, a1, a2]; rfl) ?_
      | refine st_store (by simp (disch := omega) only [go_sem, wr_i64, if_yes, if_no, ↓reduceIte, Nat.reduceAdd, Nat.reduceMul, Nat.reduceEqDiff, Nat.reduceBEq, Nat.reduceLeDiff, List.length_map, t0, a1, a2]; rfl) ?_
      | refine st_append (by simp (disch := omega) only [go_sem, wr_i64, if_yes, if_no, ↓reduceIte, Nat.reduceAdd, Nat.reduceMul, Nat.reduceEqDiff, Nat.reduceBEq, Nat.reduceLeDiff, List.length_map, t0, a1, a2]; rfl) ?_
      | refine st_copy (by simp (disch := omega) only [go_sem, wr_i64, if_yes, if_no, ↓reduceIte, Nat.reduceAdd, Nat.reduceMul, Nat.reduceEqDiff, Nat.reduceBEq, Nat.reduceLeDiff, List.length_map, t0, a1, a2]; rfl) ?_
      | refine st_gT rfl rfl rfl ?_
      | refine st_gF rfl rfl rfl ?_
      | refine st_dgT rfl rfl rfl rfl ?_
      | refine st_dgF rfl rfl rfl ?_
      | (refine st_gS rfl rfl ?_ ?_ <;> intro hg <;> (try simp only [decide_eq_true_eq, decide_eq_false_iff_not, Bool.not_eq_true', Bool.not_eq_false'] at hg))
      | (refine st_dgS rfl rfl ?_ ?_ <;> intro hg <;> (try simp only [decide_eq_true_eq, decide_eq_false_iff_not, Bool.not_eq_true', Bool.not_eq_false'] at hg))
      | refine st_condT rfl ?_
      | refine st_condF rfl ?_
      | (refine st_condS rfl ?_ ?_ <;> intro hg <;> (try simp only [decide_eq_true_eq, decide_eq_false_iff_not, Bool.not_eq_true', Bool.not_eq_false'] at hg))
      | refine st_nil ?_
      | refine st_dnil ?_
      | refine st_tN ?_
      | refine st_seq ?_
      | refine st_block ?_
      | refine st_skip ?_
      | refine st_exit ?_
      | refine st_ret ?_
      | refine st_tE ?_
      | refine st_tR ?_
      | refine st_bN ?_
      | refine st_bR ?_
      | refine st_bH ?_
      | refine st_noN ?_
      | refine st_noR ?_
      | refine st_noE ?_
      | refine st_label ?_
      | refine st_scope tab mixed (by decide) ?_
      | refine st_bM rfl ?_)
  all_goals try (exfalso; omega)
  refine st_loopH (α := Nat) tab mixed [] [] (by repeat (first | exact trivial | refine ⟨rfl, ?_⟩)) [4] [_] (by repeat (first | exact trivial | refine ⟨rfl, ?_⟩)) (fun a => [(14, .int .i64 (a : Nat))]) [(2, _), (4, _), (5, _), (7, _), (12, _), (13, _)] (fun _ => []) [_] (fun _ => lfH K (K, 41) q) (fun a => f + 1 ≤ a ∧ a ≤ nF) (fun a => nF - a) (by decide) (f + 1) ⟨Nat.le_refl _, by omega⟩ (by (try simp only [go_sem]); repeat' (first | exact trivial | refine And.intro ?_ ?_ | rfl | (simp (disch := omega) only [go_sem, if_yes, if_no, ↓reduceIte, Nat.reduceAdd, Nat.reduceMul, Nat.reduceEqDiff, Nat.reduceBEq, Nat.reduceLeDiff]; rfl) | (simp (disch := omega) only [go_sem, if_yes, if_no, ↓reduceIte, Nat.reduceAdd, Nat.reduceMul, Nat.reduceEqDiff, Nat.reduceBEq, Nat.reduceLeDiff]))) (by (try simp only [go_sem]); repeat' (first | exact trivial | refine And.intro ?_ ?_ | rfl | (simp (disch := omega) only [go_sem, if_yes, if_no, ↓reduceIte, Nat.reduceAdd, Nat.reduceMul, Nat.reduceEqDiff, Nat.reduceBEq, Nat.reduceLeDiff]; rfl) | (simp (disch := omega) only [go_sem, if_yes, if_no, ↓reduceIte, Nat.reduceAdd, Nat.reduceMul, Nat.reduceEqDiff, Nat.reduceBEq, Nat.reduceLeDiff]))) (lfH_hold (by simp only [go_sem, ↓reduceIte]) (by simp only [go_sem]; omega)) ?_
  rintro g c5 ⟨g1, g2⟩ hc5
  simp only [lfH, go_sem] at hc5 ⊢
  by_cases hg0 : g < nF
  case neg =>
    repeat' (first
        | refine st_seq_reg rfl (by first | (simp only [go_sem, List.length_map, t0, a1, a2]; rfl) | rfl) (by first | (simp only [go_sem, List.length_map, t0, a1, a2]; rfl) | rfl) ?_
        | refine st_reg rfl (by first | (simp only [go_sem, List.length_map, t0, a1, a2]; rfl) | rfl) (by first | (simp only [go_sem, List.length_map, t0, a1, a2]; rfl) | rfl) ?_
        | refine st_seq_draw rfl (by first | (simp only [go_sem, List.length_map, t0, a1, a2]; rfl) | rfl) (by first | (simp only [go_sem, List.length_map, t0, a1, a2]; rfl) | rfl) ?_
        | refine st_draw rfl (by first | (simp only [go_sem, List.length_map, t0, a1, a2]; rfl) | rfl) (by first | (simp only [go_sem, List.length_map, t0, a1, a2]; rfl) | rfl) ?_
        | refine st_op ?_
        | refine st_det rfl (by simp (disch := omega) only [go_sem, wr_i64, if_yes, if_no, ↓reduceIte, Nat.reduceAdd, Nat.reduceMul, Nat.reduceEqDiff, Nat.reduceBEq, Nat.reduceLeDiff, List.length_map, t0, a1, a2]; rfl) ?_
        | refine st_dop rfl ?_
        | refine st_loc rfl (by simp (disch := omega) only [go_sem, wr_i64, if_yes, if_no, ↓reduceIte, Nat.reduceAdd, Nat.reduceMul, Nat.reduceEqDiff, Nat.reduceBEq, Nat.reduceLeDiff, List.length_map, t0, a1, a2]; rfl) ?_
        | refine st_heap rfl (by simp (disch := omega) only [go_sem, wr_i64, if_yes, if_no, ↓reduceIte, Nat.reduceAdd, Nat.reduceMul, Nat.reduceEqDiff, Nat.reduceBEq, Nat.reduceLeDiff, List.length_map, t0, a1, a2]; rfl) ?_
        | refine st_store (by simp (disch := omega) only [go_sem, wr_i64, if_yes, if_no, ↓reduceIte, Nat.reduceAdd, Nat.reduceMul, Nat.reduceEqDiff, Nat.reduceBEq, Nat.reduceLeDiff, List.length_map, t0, a1, a2]; rfl) ?_
        | refine st_append (by simp (disch := omega) only [go_sem, wr_i64, if_yes, if_no, ↓reduceIte, Nat.reduceAdd, Nat.reduceMul, Nat.reduceEqDiff, Nat.reduceBEq, Nat.reduceLeDiff, List.length_map, t0, a1, a2]; rfl) ?_
        | refine st_copy (by simp (disch := omega) only [go_sem, wr_i64, if_yes, if_no, ↓reduceIte, Nat.reduceAdd, Nat.reduceMul, Nat.reduceEqDiff, Nat.reduceBEq, Nat.reduceLeDiff, List.length_map, t0, a1, a2]; rfl) ?_
        | refine st_gT rfl rfl rfl ?_
        | refine st_gF rfl rfl rfl ?_
        | refine st_dgT rfl rfl rfl rfl ?_
        | refine st_dgF rfl rfl rfl ?_
        | (refine st_gS rfl rfl ?_ ?_ <;> intro hg <;> (try simp only [decide_eq_true_eq, decide_eq_false_iff_not, Bool.not_eq_true', Bool.not_eq_false'] at hg))
        | (refine st_dgS rfl rfl ?_ ?_ <;> intro hg <;> (try simp only [decide_eq_true_eq, decide_eq_false_iff_not, Bool.not_eq_true', Bool.not_eq_false'] at hg))
        | refine st_condT rfl ?_
        | refine st_condF rfl ?_
        | (refine st_condS rfl ?_ ?_ <;> intro hg <;> (try simp only [decide_eq_true_eq, decide_eq_false_iff_not, Bool.not_eq_true', Bool.not_eq_false'] at hg))
        | refine st_nil ?_
        | refine st_dnil ?_
        | refine st_tN ?_
        | refine st_seq ?_
        | refine st_block ?_
        | refine st_skip ?_
        | refine st_exit ?_
        | refine st_ret ?_
        | refine st_tE ?_
        | refine st_tR ?_
        | refine st_bN ?_
        | refine st_bR ?_
        | refine st_bH ?_
        | refine st_noN ?_
        | refine st_noR ?_
        | refine st_noE ?_
        | refine st_label ?_
        | refine st_scope tab mixed (by decide) ?_
        | refine st_bM rfl ?_)
    all_goals try (exfalso; omega)
    refine ⟨f + 1, (by show f + 1 ≤ nF; omega), by show nF - (f + 1) < nF - f; omega, (by repeat' (first | exact trivial | refine And.intro ?_ ?_ | rfl | (simp (disch := omega) only [go_sem, if_yes, if_no, ↓reduceIte, Nat.reduceAdd, Nat.reduceMul, Nat.reduceEqDiff, Nat.reduceBEq, Nat.reduceLeDiff]; rfl) | (simp (disch := omega) only [go_sem, if_yes, if_no, ↓reduceIte, Nat.reduceAdd, Nat.reduceMul, Nat.reduceEqDiff, Nat.reduceBEq, Nat.reduceLeDiff]))), (by repeat' (first | exact trivial | refine And.intro ?_ ?_ | rfl | (simp (disch := omega) only [go_sem, if_yes, if_no, ↓reduceIte, Nat.reduceAdd, Nat.reduceMul, Nat.reduceEqDiff, Nat.reduceBEq, Nat.reduceLeDiff]; rfl) | (simp (disch := omega) only [go_sem, if_yes, if_no, ↓reduceIte, Nat.reduceAdd, Nat.reduceMul, Nat.reduceEqDiff, Nat.reduceBEq, Nat.reduceLeDiff]))), rfl, lfH_hold (by simp only [go_sem, ↓reduceIte]) (by simp only [go_sem]; omega)⟩
  have b1 : (rowN lg i).getD g 0 = elt (rowW lg i) g := t3 i g hg0
  have b2 : q.getD f 0 = elt (rsN lg nB) f := i3 f hf
  have kcf := kc f i hf hi
  have tg := tg i f g hi (by omega) hg0
  repeat' (first
      | refine st_seq_reg rfl (by first | (simp only [go_sem, List.length_map, t0, a1, a2, b1, b2, i2, hF, hB, Nat.zero_add]; rfl) | rfl) (by first | (simp only [go_sem, List.length_map, t0, a1, a2, b1, b2, i2, hF, hB, Nat.zero_add]; rfl) | rfl) ?_
      | refine st_reg rfl (by first | (simp only [go_sem, List.length_map, t0, a1, a2, b1, b2, i2, hF, hB, Nat.zero_add]; rfl) | rfl) (by first | (simp only [go_sem, List.length_map, t0, a1, a2, b1, b2, i2, hF, hB, Nat.zero_add]; rfl) | rfl) ?_
      | refine st_seq_draw rfl (by first | (simp only [go_sem, List.length_map, t0, a1, a2, b1, b2, i2, hF, hB, Nat.zero_add]; rfl) | rfl) (by first | (simp only [go_sem, List.length_map, t0, a1, a2, b1, b2, i2, hF, hB, Nat.zero_add]; rfl) | rfl) ?_
      | refine st_draw rfl (by first | (simp only [go_sem, List.length_map, t0, a1, a2, b1, b2, i2, hF, hB, Nat.zero_add]; rfl) | rfl) (by first | (simp only [go_sem, List.length_map, t0, a1, a2, b1, b2, i2, hF, hB, Nat.zero_add]; rfl) | rfl) ?_
      | refine st_op ?_
      | refine st_det rfl (by simp (disch := omega) only [go_sem, wr_i64, if_yes, if_no, ↓reduceIte, Nat.reduceAdd, Nat.reduceMul, Nat.reduceEqDiff, Nat.reduceBEq, Nat.reduceLeDiff, List.length_map, t0, a1, a2, b1, b2, i2, hF, hB, Nat.zero_add]; rfl) ?_
      | refine st_dop rfl ?_
      | refine st_loc rfl (by simp (disch := omega) only [go_sem, wr_i64, if_yes, if_no, ↓reduceIte, Nat.reduceAdd, Nat.reduceMul, Nat.reduceEqDiff, Nat.reduceBEq, Nat.reduceLeDiff, List.length_map, t0, a1, a2, b1, b2, i2, hF, hB, Nat.zero_add]; rfl) ?_
      | refine st_heap rfl (by simp (disch := omega) only [go_sem, wr_i64, if_yes, if_no, ↓reduceIte, Nat.reduceAdd, Nat.reduceMul, Nat.reduceEqDiff, Nat.reduceBEq, Nat.reduceLeDiff, List.length_map, t0, a1, a2, b1, b2, i2, hF, hB, Nat.zero_add]; rfl) ?_
      | refine st_store (by simp (disch := omega) only [go_sem, wr_i64, if_yes, if_no, ↓reduceIte, Nat.reduceAdd, Nat.reduceMul, Nat.reduceEqDiff, Nat.reduceBEq, Nat.reduceLeDiff, List.length_map, t0, a1, a2, b1, b2, i2, hF, hB, Nat.zero_add]; rfl) ?_
      | refine st_append (by simp (disch := omega) only [go_sem, wr_i64, if_yes, if_no, ↓reduceIte, Nat.reduceAdd, Nat.reduceMul, Nat.reduceEqDiff, Nat.reduceBEq, Nat.reduceLeDiff, List.length_map, t0, a1, a2, b1, b2, i2, hF, hB, Nat.zero_add]; rfl) ?_
      | refine st_copy (by simp (disch := omega) only [go_sem, wr_i64, if_yes, if_no, ↓reduceIte, Nat.reduceAdd, Nat.reduceMul, Nat.reduceEqDiff, Nat.reduceBEq, Nat.reduceLeDiff, List.length_map, t0, a1, a2, b1, b2, i2, hF, hB, Nat.zero_add]; rfl) ?_
      | (refine st_pureE (by first | (simp (disch := omega) only [go_sem, List.length_map, t0, a1, a2, b1, b2, i2, hF, hB, Nat.zero_add]; rfl) | rfl) rfl (kcf) (by first | (simp only [go_sem, List.length_map, t0, a1, a2, b1, b2, i2, hF, hB, Nat.zero_add]; rfl) | rfl) (by intro n; simp (disch := omega) only [go_sem]; rfl) ?_; intro n hn)
      | refine st_gT rfl rfl rfl ?_
      | refine st_gF rfl rfl rfl ?_
      | refine st_dgT rfl rfl rfl rfl ?_
      | refine st_dgF rfl rfl rfl ?_
      | (refine st_gS rfl rfl ?_ ?_ <;> intro hg <;> (try simp only [decide_eq_true_eq, decide_eq_false_iff_not, Bool.not_eq_true', Bool.not_eq_false'] at hg))
      | (refine st_dgS rfl rfl ?_ ?_ <;> intro hg <;> (try simp only [decide_eq_true_eq, decide_eq_false_iff_not, Bool.not_eq_true', Bool.not_eq_false'] at hg))
      | refine st_condT rfl ?_
      | refine st_condF rfl ?_
      | (refine st_condS rfl ?_ ?_ <;> intro hg <;> (try simp only [decide_eq_true_eq, decide_eq_false_iff_not, Bool.not_eq_true', Bool.not_eq_false'] at hg))
      | refine st_nil ?_
      | refine st_dnil ?_
      | refine st_tN ?_
      | refine st_seq ?_
      | refine st_block ?_
      | refine st_skip ?_
      | refine st_exit ?_
      | refine st_ret ?_
      | refine st_tE ?_
      | refine st_tR ?_
      | refine st_bN ?_
      | refine st_bR ?_
      | refine st_bH ?_
      | refine st_noN ?_
      | refine st_noR ?_
      | refine st_noE ?_
      | refine st_label ?_
      | refine st_scope tab mixed (by decide) ?_
      | refine st_bM rfl ?_)
  all_goals try (exfalso; omega)
  all_goals try (exfalso; exact tg (by assumption) (by assumption) (by assumption))
  all_goals
    refine ⟨g + 1, ⟨by show f + 1 ≤ g + 1; omega, by show g + 1 ≤ nF; omega⟩, by show nF - (g + 1) < nF - g; omega, (by repeat' (first | exact trivial | refine And.intro ?_ ?_ | rfl | (simp (disch := omega) only [go_sem, if_yes, if_no, ↓reduceIte, Nat.reduceAdd, Nat.reduceMul, Nat.reduceEqDiff, Nat.reduceBEq, Nat.reduceLeDiff]; rfl) | (simp (disch := omega) only [go_sem, if_yes, if_no, ↓reduceIte, Nat.reduceAdd, Nat.reduceMul, Nat.reduceEqDiff, Nat.reduceBEq, Nat.reduceLeDiff]))), (by repeat' (first | exact trivial | refine And.intro ?_ ?_ | rfl | (simp (disch := omega) only [go_sem, if_yes, if_no, ↓reduceIte, Nat.reduceAdd, Nat.reduceMul, Nat.reduceEqDiff, Nat.reduceBEq, Nat.reduceLeDiff]; rfl) | (simp (disch := omega) only [go_sem, if_yes, if_no, ↓reduceIte, Nat.reduceAdd, Nat.reduceMul, Nat.reduceEqDiff, Nat.reduceBEq, Nat.reduceLeDiff]))), rfl, lfH_hold (by simp only [go_sem, ↓reduceIte]) (by simp only [go_sem]; omega)⟩
end Go.Proofs.Ytbbkeakbomngoaa
