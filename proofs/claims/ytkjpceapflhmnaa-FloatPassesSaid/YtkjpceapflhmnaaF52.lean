/- Contracts of functions that the claim reaches: what each call gives, told in our own logic. Conditions: those of each theorem. -/
import Derived.Test.YtkjpceapflhmnaaF51
import Derived.Test.YtkjpceapflhmnaaF48a
import Derived.Test.YtkjpceapflhmnaaF27
set_option linter.all false
set_option linter.unusedSimpArgs false
set_option linter.unusedVariables false
namespace Go.Proofs.Ytkjpceapflhmnaa
open Go.Av
attribute [local irreducible] thenA blockA awp awpOps awpD awp1
set_option maxHeartbeats 8000000
set_option maxRecDepth 20000
def rl (rs : List (List Hu)) (i : Nat) : List Hu := rs.getD i []
def rcell (r : List Hu) : List AV := [.lst 3 (r.map Hu.row)]
theorem rl_getD {rs : List (List Hu)} {i : Nat} (h : i < rs.length) : (rs.map rcell).getD i [] = [.lst 3 ((rl rs i).map Hu.row)] := by
  simp [rl, List.getD_eq_getElem?_getD, h, rcell]
theorem rl_mem {rs : List (List Hu)} {i : Nat} (h : i < rs.length) : rl rs i ∈ rs := by
  unfold rl; rw [List.getD_eq_getElem?_getD, List.getElem?_eq_getElem h]; exact List.getElem_mem h
theorem c32s (l : List Int) (hl : (l.length : Int) < 1000000) : Pure Try.prog 32 [.lst 1 (l.map iv), .lst 1 (l.map iv)] (fun v => v = .bool true) := by
  have h := c32 l l hl hl
  simpa using h
theorem pasL_len (f : Fl) (r : List Hu) (hl : r.length ≤ 1000) : ((pasL f r).length : Int) < 1000000 := by
  unfold pasL
  split
  · rw [pVs_len]; omega
  · simp
theorem law4 (fx : Fl) (rx : List Hu) (z : Hu) (p : Int) (l : List Int) (hfx : (fx.loads.length : Int) ≤ 9223372036854775807) (hrx : (rx.length : Int) ≤ 9223372036854775807) (hp : -9223372036854775808 ≤ p ∧ p ≤ 9223372036854775807) (hl : (l.length : Int) ≤ 9223372036854775807) (h : AH) :
    ACalls Try.prog 4 [fx.av, .lst 3 (rx.map Hu.row), .agg z.row, .int .i64 p, .lst 1 (l.map iv)] h (fun v _ => v = .bool true) := by
  refine ACalls.old Try.call4 fun hall => ?_
  refine ACalls.ofS tab Try.call4 Try.func4 rfl (fi := ⟨211, [12, 19, 29, 31], [5, 7, 53, 59, 64, 74], none, [(6, [0, 1, 0, 4, 15, 31], [(0, false), (2, true), (3, false), (1, false), (4, false), (5, false)]), (7, [0, 0, 0, 0, 15, 0, 0, 0, 0, 480, 0, 0, 0, 4096, 0, 16384, 63488, 0, 0, 523264, 129055, 1178623, 4194303], [(0, true), (1, true), (2, true), (3, true), (4, false), (5, false), (6, false), (7, false), (8, false), (9, false), (10, false), (11, false), (12, false), (13, true), (14, false), (15, true), (17, false), (18, false), (16, false), (19, false), (20, false), (21, false), (22, false)]), (11, [0, 0, 3, 7, 15, 0, 0, 96, 224, 511, 0, 2047, 4095], [(0, false), (1, false), (2, false), (3, true), (5, false), (6, false), (7, false), (8, true), (10, false), (4, false), (9, false), (11, false), (12, false)]), (13, [0, 0, 3, 7, 0, 0, 48, 112, 255, 511, 1023, 1023, 2047, 8191], [(0, false), (1, false), (2, false), (3, true), (4, false), (5, false), (6, false), (7, true), (8, false), (9, false), (10, false), (11, false), (12, false), (13, false)]), (15, [0, 0, 3, 7, 0, 0, 48, 112, 255, 511, 1023, 1023, 2047, 8191], [(0, false), (1, false), (2, false), (3, true), (4, false), (5, false), (6, false), (7, true), (8, false), (9, false), (10, false), (11, false), (12, false), (13, false)]), (16, [0, 0, 0, 0, 12, 28, 63, 127, 255, 255, 0, 1535, 4095], [(0, true), (1, false), (2, false), (3, false), (4, false), (5, true), (10, false), (6, false), (7, false), (8, false), (9, false), (11, false), (12, false)]), (17, [0, 0, 3, 7, 0, 0, 48, 112, 0, 0, 768, 1792, 4095, 8191, 16383, 16383, 0, 98303, 262143], [(0, false), (1, false), (2, false), (3, true), (4, false), (5, false), (6, false), (7, true), (8, false), (9, false), (10, false), (11, true), (16, false), (12, false), (13, false), (14, false), (15, false), (17, false), (18, false)]), (18, [0, 1, 0, 0, 12, 28, 63, 127, 255, 511, 511, 2047, 4095, 8191, 16383, 16383, 65535, 131071, 262143, 524287, 524287, 2097151, 4194303, 8388607, 16777215, 16777215, 67108863, 134217727, 268435455, 536870911, 536870911, 2147483647, 4294967295, 8589934591, 17179869183, 17179869183, 68719476735, 137438953471, 274877906943, 549755813887, 1099511627775, 1099511627775, 1099511627775, 7696581394431, 16492674416639, 35184372088831, 70368744177663, 140737488355327, 281474976710655, 562949953421311, 562949953421311, 562949953421311, 3940649673949183, 8444249301319679, 18014398509481983, 36028797018963967, 72057594037927935], [(0, false), (2, false), (3, false), (4, false), (5, true), (1, false), (6, false), (7, false), (8, false), (9, false), (10, false), (11, false), (12, false), (13, false), (14, false), (15, false), (16, false), (17, false), (18, false), (19, false), (20, false), (21, false), (22, false), (23, false), (24, true), (25, true), (26, false), (27, false), (28, false), (29, false), (30, false), (31, false), (32, false), (33, false), (34, false), (35, false), (36, false), (37, false), (38, false), (39, false), (40, true), (41, false), (42, false), (43, false), (44, true), (45, false), (46, false), (47, false), (48, false), (49, false), (50, false), (51, false), (52, false), (53, true), (54, false), (55, false), (56, false)])]⟩) rfl rfl (Nat.le_of_ble_eq_true rfl) ?_
  unfold startA
  simp only [go_sem]
  refine asem_seq (fi := ⟨211, [12, 19, 29, 31], [5, 7, 53, 59, 64, 74], none, [(6, [0, 1, 0, 4, 15, 31], [(0, false), (2, true), (3, false), (1, false), (4, false), (5, false)]), (7, [0, 0, 0, 0, 15, 0, 0, 0, 0, 480, 0, 0, 0, 4096, 0, 16384, 63488, 0, 0, 523264, 129055, 1178623, 4194303], [(0, true), (1, true), (2, true), (3, true), (4, false), (5, false), (6, false), (7, false), (8, false), (9, false), (10, false), (11, false), (12, false), (13, true), (14, false), (15, true), (17, false), (18, false), (16, false), (19, false), (20, false), (21, false), (22, false)]), (11, [0, 0, 3, 7, 15, 0, 0, 96, 224, 511, 0, 2047, 4095], [(0, false), (1, false), (2, false), (3, true), (5, false), (6, false), (7, false), (8, true), (10, false), (4, false), (9, false), (11, false), (12, false)]), (13, [0, 0, 3, 7, 0, 0, 48, 112, 255, 511, 1023, 1023, 2047, 8191], [(0, false), (1, false), (2, false), (3, true), (4, false), (5, false), (6, false), (7, true), (8, false), (9, false), (10, false), (11, false), (12, false), (13, false)]), (15, [0, 0, 3, 7, 0, 0, 48, 112, 255, 511, 1023, 1023, 2047, 8191], [(0, false), (1, false), (2, false), (3, true), (4, false), (5, false), (6, false), (7, true), (8, false), (9, false), (10, false), (11, false), (12, false), (13, false)]), (16, [0, 0, 0, 0, 12, 28, 63, 127, 255, 255, 0, 1535, 4095], [(0, true), (1, false), (2, false), (3, false), (4, false), (5, true), (10, false), (6, false), (7, false), (8, false), (9, false), (11, false), (12, false)]), (17, [0, 0, 3, 7, 0, 0, 48, 112, 0, 0, 768, 1792, 4095, 8191, 16383, 16383, 0, 98303, 262143], [(0, false), (1, false), (2, false), (3, true), (4, false), (5, false), (6, false), (7, true), (8, false), (9, false), (10, false), (11, true), (16, false), (12, false), (13, false), (14, false), (15, false), (17, false), (18, false)]), (18, [0, 1, 0, 0, 12, 28, 63, 127, 255, 511, 511, 2047, 4095, 8191, 16383, 16383, 65535, 131071, 262143, 524287, 524287, 2097151, 4194303, 8388607, 16777215, 16777215, 67108863, 134217727, 268435455, 536870911, 536870911, 2147483647, 4294967295, 8589934591, 17179869183, 17179869183, 68719476735, 137438953471, 274877906943, 549755813887, 1099511627775, 1099511627775, 1099511627775, 7696581394431, 16492674416639, 35184372088831, 70368744177663, 140737488355327, 281474976710655, 562949953421311, 562949953421311, 562949953421311, 3940649673949183, 8444249301319679, 18014398509481983, 36028797018963967, 72057594037927935], [(0, false), (2, false), (3, false), (4, false), (5, true), (1, false), (6, false), (7, false), (8, false), (9, false), (10, false), (11, false), (12, false), (13, false), (14, false), (15, false), (16, false), (17, false), (18, false), (19, false), (20, false), (21, false), (22, false), (23, false), (24, true), (25, true), (26, false), (27, false), (28, false), (29, false), (30, false), (31, false), (32, false), (33, false), (34, false), (35, false), (36, false), (37, false), (38, false), (39, false), (40, true), (41, false), (42, false), (43, false), (44, true), (45, false), (46, false), (47, false), (48, false), (49, false), (50, false), (51, false), (52, false), (53, true), (54, false), (55, false), (56, false)])]⟩) tab mixed (by decide) ?_
  repeat' (first
      | refine st_seq_reg rfl (by first | (simp only [go_sem]; rfl) | rfl) (by first | (simp only [go_sem]; rfl) | rfl) ?_
      | refine st_reg rfl (by first | (simp only [go_sem]; rfl) | rfl) (by first | (simp only [go_sem]; rfl) | rfl) ?_
      | refine st_seq_draw rfl (by first | (simp only [go_sem]; rfl) | rfl) (by first | (simp only [go_sem]; rfl) | rfl) ?_
      | refine st_draw rfl (by first | (simp only [go_sem]; rfl) | rfl) (by first | (simp only [go_sem]; rfl) | rfl) ?_
      | refine st_op ?_
      | refine st_det rfl (by simp (disch := omega) only [go_sem, wr_i64, if_yes, if_no, ↓reduceIte, Nat.reduceAdd, Nat.reduceMul, Nat.reduceEqDiff, Nat.reduceBEq, Nat.reduceLeDiff]; rfl) ?_
      | refine st_dop rfl ?_
      | refine st_loc rfl (by simp (disch := omega) only [go_sem, wr_i64, if_yes, if_no, ↓reduceIte, Nat.reduceAdd, Nat.reduceMul, Nat.reduceEqDiff, Nat.reduceBEq, Nat.reduceLeDiff]; rfl) ?_
      | refine st_heap rfl (by simp (disch := omega) only [go_sem, wr_i64, if_yes, if_no, ↓reduceIte, Nat.reduceAdd, Nat.reduceMul, Nat.reduceEqDiff, Nat.reduceBEq, Nat.reduceLeDiff]; rfl) ?_
      | refine st_store (by simp (disch := omega) only [go_sem, wr_i64, if_yes, if_no, ↓reduceIte, Nat.reduceAdd, Nat.reduceMul, Nat.reduceEqDiff, Nat.reduceBEq, Nat.reduceLeDiff]; rfl) ?_
      | refine st_append (by simp (disch := omega) only [go_sem, wr_i64, if_yes, if_no, ↓reduceIte, Nat.reduceAdd, Nat.reduceMul, Nat.reduceEqDiff, Nat.reduceBEq, Nat.reduceLeDiff]; rfl) ?_
      | refine st_gT rfl rfl rfl ?_
      | refine st_gF rfl rfl rfl ?_
      | refine st_dgT rfl rfl rfl rfl ?_
      | refine st_dgF rfl rfl rfl ?_
      | (refine st_gS rfl rfl ?_ ?_ <;> intro hg <;> (try simp only [decide_eq_true_eq, decide_eq_false_iff_not, Bool.not_eq_true', Bool.not_eq_false'] at hg))
      | (refine st_dgS rfl rfl ?_ ?_ <;> intro hg <;> (try simp only [decide_eq_true_eq, decide_eq_false_iff_not, Bool.not_eq_true', Bool.not_eq_false'] at hg))
      | refine st_condT rfl ?_
      | refine st_condF rfl ?_
      | (refine st_condS rfl ?_ ?_ <;> intro hg <;> (try simp only [decide_eq_true_eq, decide_eq_false_iff_not, Bool.not_eq_true', Bool.not_eq_false'] at hg))
      | refine st_nil ?_
      | refine st_dnil ?_
      | refine st_tN ?_
      | refine st_seq ?_
      | refine st_block ?_
      | refine st_skip ?_
      | refine st_exit ?_
      | refine st_ret ?_
      | refine st_tE ?_
      | refine st_tR ?_
      | refine st_bN ?_
      | refine st_bR ?_
      | refine st_bH ?_
      | refine st_bM rfl ?_)
  refine asem_seq (fi := ⟨211, [12, 19, 29, 31], [5, 7, 53, 59, 64, 74], none, [(6, [0, 1, 0, 4, 15, 31], [(0, false), (2, true), (3, false), (1, false), (4, false), (5, false)]), (7, [0, 0, 0, 0, 15, 0, 0, 0, 0, 480, 0, 0, 0, 4096, 0, 16384, 63488, 0, 0, 523264, 129055, 1178623, 4194303], [(0, true), (1, true), (2, true), (3, true), (4, false), (5, false), (6, false), (7, false), (8, false), (9, false), (10, false), (11, false), (12, false), (13, true), (14, false), (15, true), (17, false), (18, false), (16, false), (19, false), (20, false), (21, false), (22, false)]), (11, [0, 0, 3, 7, 15, 0, 0, 96, 224, 511, 0, 2047, 4095], [(0, false), (1, false), (2, false), (3, true), (5, false), (6, false), (7, false), (8, true), (10, false), (4, false), (9, false), (11, false), (12, false)]), (13, [0, 0, 3, 7, 0, 0, 48, 112, 255, 511, 1023, 1023, 2047, 8191], [(0, false), (1, false), (2, false), (3, true), (4, false), (5, false), (6, false), (7, true), (8, false), (9, false), (10, false), (11, false), (12, false), (13, false)]), (15, [0, 0, 3, 7, 0, 0, 48, 112, 255, 511, 1023, 1023, 2047, 8191], [(0, false), (1, false), (2, false), (3, true), (4, false), (5, false), (6, false), (7, true), (8, false), (9, false), (10, false), (11, false), (12, false), (13, false)]), (16, [0, 0, 0, 0, 12, 28, 63, 127, 255, 255, 0, 1535, 4095], [(0, true), (1, false), (2, false), (3, false), (4, false), (5, true), (10, false), (6, false), (7, false), (8, false), (9, false), (11, false), (12, false)]), (17, [0, 0, 3, 7, 0, 0, 48, 112, 0, 0, 768, 1792, 4095, 8191, 16383, 16383, 0, 98303, 262143], [(0, false), (1, false), (2, false), (3, true), (4, false), (5, false), (6, false), (7, true), (8, false), (9, false), (10, false), (11, true), (16, false), (12, false), (13, false), (14, false), (15, false), (17, false), (18, false)]), (18, [0, 1, 0, 0, 12, 28, 63, 127, 255, 511, 511, 2047, 4095, 8191, 16383, 16383, 65535, 131071, 262143, 524287, 524287, 2097151, 4194303, 8388607, 16777215, 16777215, 67108863, 134217727, 268435455, 536870911, 536870911, 2147483647, 4294967295, 8589934591, 17179869183, 17179869183, 68719476735, 137438953471, 274877906943, 549755813887, 1099511627775, 1099511627775, 1099511627775, 7696581394431, 16492674416639, 35184372088831, 70368744177663, 140737488355327, 281474976710655, 562949953421311, 562949953421311, 562949953421311, 3940649673949183, 8444249301319679, 18014398509481983, 36028797018963967, 72057594037927935], [(0, false), (2, false), (3, false), (4, false), (5, true), (1, false), (6, false), (7, false), (8, false), (9, false), (10, false), (11, false), (12, false), (13, false), (14, false), (15, false), (16, false), (17, false), (18, false), (19, false), (20, false), (21, false), (22, false), (23, false), (24, true), (25, true), (26, false), (27, false), (28, false), (29, false), (30, false), (31, false), (32, false), (33, false), (34, false), (35, false), (36, false), (37, false), (38, false), (39, false), (40, true), (41, false), (42, false), (43, false), (44, true), (45, false), (46, false), (47, false), (48, false), (49, false), (50, false), (51, false), (52, false), (53, true), (54, false), (55, false), (56, false)])]⟩) tab mixed (by decide) ?_
  repeat' (first
      | refine st_seq_reg rfl (by first | (simp only [go_sem, List.length_map]; rfl) | rfl) (by first | (simp only [go_sem, List.length_map]; rfl) | rfl) ?_
      | refine st_reg rfl (by first | (simp only [go_sem, List.length_map]; rfl) | rfl) (by first | (simp only [go_sem, List.length_map]; rfl) | rfl) ?_
      | refine st_seq_draw rfl (by first | (simp only [go_sem, List.length_map]; rfl) | rfl) (by first | (simp only [go_sem, List.length_map]; rfl) | rfl) ?_
      | refine st_draw rfl (by first | (simp only [go_sem, List.length_map]; rfl) | rfl) (by first | (simp only [go_sem, List.length_map]; rfl) | rfl) ?_
      | refine st_op ?_
      | refine st_det rfl (by simp (disch := omega) only [go_sem, wr_i64, if_yes, if_no, ↓reduceIte, Nat.reduceAdd, Nat.reduceMul, Nat.reduceEqDiff, Nat.reduceBEq, Nat.reduceLeDiff, List.length_map]; rfl) ?_
      | refine st_dop rfl ?_
      | refine st_loc rfl (by simp (disch := omega) only [go_sem, wr_i64, if_yes, if_no, ↓reduceIte, Nat.reduceAdd, Nat.reduceMul, Nat.reduceEqDiff, Nat.reduceBEq, Nat.reduceLeDiff, List.length_map]; rfl) ?_
      | refine st_heap rfl (by simp (disch := omega) only [go_sem, wr_i64, if_yes, if_no, ↓reduceIte, Nat.reduceAdd, Nat.reduceMul, Nat.reduceEqDiff, Nat.reduceBEq, Nat.reduceLeDiff, List.length_map]; rfl) ?_
      | refine st_store (by simp (disch := omega) only [go_sem, wr_i64, if_yes, if_no, ↓reduceIte, Nat.reduceAdd, Nat.reduceMul, Nat.reduceEqDiff, Nat.reduceBEq, Nat.reduceLeDiff, List.length_map]; rfl) ?_
      | refine st_append (by simp (disch := omega) only [go_sem, wr_i64, if_yes, if_no, ↓reduceIte, Nat.reduceAdd, Nat.reduceMul, Nat.reduceEqDiff, Nat.reduceBEq, Nat.reduceLeDiff, List.length_map]; rfl) ?_
      | (refine st_pureE (by first | (simp (disch := omega) only [go_sem, List.length_map]; rfl) | rfl) rfl (c21) (by first | (simp only [go_sem, List.length_map]; rfl) | rfl) (by intro n; simp (disch := omega) only [go_sem]; rfl) ?_; intro n hn)
      | refine st_gT rfl rfl rfl ?_
      | refine st_gF rfl rfl rfl ?_
      | refine st_dgT rfl rfl rfl rfl ?_
      | refine st_dgF rfl rfl rfl ?_
      | (refine st_gS rfl rfl ?_ ?_ <;> intro hg <;> (try simp only [decide_eq_true_eq, decide_eq_false_iff_not, Bool.not_eq_true', Bool.not_eq_false'] at hg))
      | (refine st_dgS rfl rfl ?_ ?_ <;> intro hg <;> (try simp only [decide_eq_true_eq, decide_eq_false_iff_not, Bool.not_eq_true', Bool.not_eq_false'] at hg))
      | refine st_condT rfl ?_
      | refine st_condF rfl ?_
      | (refine st_condS rfl ?_ ?_ <;> intro hg <;> (try simp only [decide_eq_true_eq, decide_eq_false_iff_not, Bool.not_eq_true', Bool.not_eq_false'] at hg))
      | refine st_nil ?_
      | refine st_dnil ?_
      | refine st_tN ?_
      | refine st_seq ?_
      | refine st_block ?_
      | refine st_skip ?_
      | refine st_exit ?_
      | refine st_ret ?_
      | refine st_tE ?_
      | refine st_tR ?_
      | refine st_bN ?_
      | refine st_bR ?_
      | refine st_bH ?_
      | refine st_bM rfl ?_)
  · simp (disch := omega) only [AEnd, Try.results4, aresK, fin, go_sem, ↓reduceIte, Nat.reduceEqDiff, Nat.reduceAdd, Nat.reduceLeDiff, if_yes, if_no, implies_true, true_and, and_true, List.reverse_cons, List.reverse_nil]
  · simp (disch := omega) only [AEnd, Try.results4, aresK, fin, go_sem, ↓reduceIte, Nat.reduceEqDiff, Nat.reduceAdd, Nat.reduceLeDiff, if_yes, if_no, implies_true, true_and, and_true, List.reverse_cons, List.reverse_nil]
  refine asem_seq (fi := ⟨211, [12, 19, 29, 31], [5, 7, 53, 59, 64, 74], none, [(6, [0, 1, 0, 4, 15, 31], [(0, false), (2, true), (3, false), (1, false), (4, false), (5, false)]), (7, [0, 0, 0, 0, 15, 0, 0, 0, 0, 480, 0, 0, 0, 4096, 0, 16384, 63488, 0, 0, 523264, 129055, 1178623, 4194303], [(0, true), (1, true), (2, true), (3, true), (4, false), (5, false), (6, false), (7, false), (8, false), (9, false), (10, false), (11, false), (12, false), (13, true), (14, false), (15, true), (17, false), (18, false), (16, false), (19, false), (20, false), (21, false), (22, false)]), (11, [0, 0, 3, 7, 15, 0, 0, 96, 224, 511, 0, 2047, 4095], [(0, false), (1, false), (2, false), (3, true), (5, false), (6, false), (7, false), (8, true), (10, false), (4, false), (9, false), (11, false), (12, false)]), (13, [0, 0, 3, 7, 0, 0, 48, 112, 255, 511, 1023, 1023, 2047, 8191], [(0, false), (1, false), (2, false), (3, true), (4, false), (5, false), (6, false), (7, true), (8, false), (9, false), (10, false), (11, false), (12, false), (13, false)]), (15, [0, 0, 3, 7, 0, 0, 48, 112, 255, 511, 1023, 1023, 2047, 8191], [(0, false), (1, false), (2, false), (3, true), (4, false), (5, false), (6, false), (7, true), (8, false), (9, false), (10, false), (11, false), (12, false), (13, false)]), (16, [0, 0, 0, 0, 12, 28, 63, 127, 255, 255, 0, 1535, 4095], [(0, true), (1, false), (2, false), (3, false), (4, false), (5, true), (10, false), (6, false), (7, false), (8, false), (9, false), (11, false), (12, false)]), (17, [0, 0, 3, 7, 0, 0, 48, 112, 0, 0, 768, 1792, 4095, 8191, 16383, 16383, 0, 98303, 262143], [(0, false), (1, false), (2, false), (3, true), (4, false), (5, false), (6, false), (7, true), (8, false), (9, false), (10, false), (11, true), (16, false), (12, false), (13, false), (14, false), (15, false), (17, false), (18, false)]), (18, [0, 1, 0, 0, 12, 28, 63, 127, 255, 511, 511, 2047, 4095, 8191, 16383, 16383, 65535, 131071, 262143, 524287, 524287, 2097151, 4194303, 8388607, 16777215, 16777215, 67108863, 134217727, 268435455, 536870911, 536870911, 2147483647, 4294967295, 8589934591, 17179869183, 17179869183, 68719476735, 137438953471, 274877906943, 549755813887, 1099511627775, 1099511627775, 1099511627775, 7696581394431, 16492674416639, 35184372088831, 70368744177663, 140737488355327, 281474976710655, 562949953421311, 562949953421311, 562949953421311, 3940649673949183, 8444249301319679, 18014398509481983, 36028797018963967, 72057594037927935], [(0, false), (2, false), (3, false), (4, false), (5, true), (1, false), (6, false), (7, false), (8, false), (9, false), (10, false), (11, false), (12, false), (13, false), (14, false), (15, false), (16, false), (17, false), (18, false), (19, false), (20, false), (21, false), (22, false), (23, false), (24, true), (25, true), (26, false), (27, false), (28, false), (29, false), (30, false), (31, false), (32, false), (33, false), (34, false), (35, false), (36, false), (37, false), (38, false), (39, false), (40, true), (41, false), (42, false), (43, false), (44, true), (45, false), (46, false), (47, false), (48, false), (49, false), (50, false), (51, false), (52, false), (53, true), (54, false), (55, false), (56, false)])]⟩) tab mixed (by decide) ?_
  repeat' (first
      | refine st_seq_reg rfl (by first | (simp only [go_sem]; rfl) | rfl) (by first | (simp only [go_sem]; rfl) | rfl) ?_
      | refine st_reg rfl (by first | (simp only [go_sem]; rfl) | rfl) (by first | (simp only [go_sem]; rfl) | rfl) ?_
      | refine st_seq_draw rfl (by first | (simp only [go_sem]; rfl) | rfl) (by first | (simp only [go_sem]; rfl) | rfl) ?_
      | refine st_draw rfl (by first | (simp only [go_sem]; rfl) | rfl) (by first | (simp only [go_sem]; rfl) | rfl) ?_
      | refine st_op ?_
      | refine st_det rfl (by simp (disch := omega) only [go_sem, wr_i64, if_yes, if_no, ↓reduceIte, Nat.reduceAdd, Nat.reduceMul, Nat.reduceEqDiff, Nat.reduceBEq, Nat.reduceLeDiff]; rfl) ?_
      | refine st_dop rfl ?_
      | refine st_loc rfl (by simp (disch := omega) only [go_sem, wr_i64, if_yes, if_no, ↓reduceIte, Nat.reduceAdd, Nat.reduceMul, Nat.reduceEqDiff, Nat.reduceBEq, Nat.reduceLeDiff]; rfl) ?_
      | refine st_heap rfl (by simp (disch := omega) only [go_sem, wr_i64, if_yes, if_no, ↓reduceIte, Nat.reduceAdd, Nat.reduceMul, Nat.reduceEqDiff, Nat.reduceBEq, Nat.reduceLeDiff]; rfl) ?_
      | refine st_store (by simp (disch := omega) only [go_sem, wr_i64, if_yes, if_no, ↓reduceIte, Nat.reduceAdd, Nat.reduceMul, Nat.reduceEqDiff, Nat.reduceBEq, Nat.reduceLeDiff]; rfl) ?_
      | refine st_append (by simp (disch := omega) only [go_sem, wr_i64, if_yes, if_no, ↓reduceIte, Nat.reduceAdd, Nat.reduceMul, Nat.reduceEqDiff, Nat.reduceBEq, Nat.reduceLeDiff]; rfl) ?_
      | (refine st_callf rfl rfl (c14 l hl _) ?_; rintro v h' ⟨b, x, n, rfl, hb1, hb2, hu0, rfl⟩)
      | refine st_gT rfl rfl rfl ?_
      | refine st_gF rfl rfl rfl ?_
      | refine st_dgT rfl rfl rfl rfl ?_
      | refine st_dgF rfl rfl rfl ?_
      | (refine st_gS rfl rfl ?_ ?_ <;> intro hg <;> (try simp only [decide_eq_true_eq, decide_eq_false_iff_not, Bool.not_eq_true', Bool.not_eq_false'] at hg))
      | (refine st_dgS rfl rfl ?_ ?_ <;> intro hg <;> (try simp only [decide_eq_true_eq, decide_eq_false_iff_not, Bool.not_eq_true', Bool.not_eq_false'] at hg))
      | refine st_condT rfl ?_
      | refine st_condF rfl ?_
      | (refine st_condS rfl ?_ ?_ <;> intro hg <;> (try simp only [decide_eq_true_eq, decide_eq_false_iff_not, Bool.not_eq_true', Bool.not_eq_false'] at hg))
      | refine st_nil ?_
      | refine st_dnil ?_
      | refine st_tN ?_
      | refine st_seq ?_
      | refine st_block ?_
      | refine st_skip ?_
      | refine st_exit ?_
      | refine st_ret ?_
      | refine st_tE ?_
      | refine st_tR ?_
      | refine st_bN ?_
      | refine st_bR ?_
      | refine st_bH ?_
      | refine st_bM rfl ?_)
  refine asem_seq (fi := ⟨211, [12, 19, 29, 31], [5, 7, 53, 59, 64, 74], none, [(6, [0, 1, 0, 4, 15, 31], [(0, false), (2, true), (3, false), (1, false), (4, false), (5, false)]), (7, [0, 0, 0, 0, 15, 0, 0, 0, 0, 480, 0, 0, 0, 4096, 0, 16384, 63488, 0, 0, 523264, 129055, 1178623, 4194303], [(0, true), (1, true), (2, true), (3, true), (4, false), (5, false), (6, false), (7, false), (8, false), (9, false), (10, false), (11, false), (12, false), (13, true), (14, false), (15, true), (17, false), (18, false), (16, false), (19, false), (20, false), (21, false), (22, false)]), (11, [0, 0, 3, 7, 15, 0, 0, 96, 224, 511, 0, 2047, 4095], [(0, false), (1, false), (2, false), (3, true), (5, false), (6, false), (7, false), (8, true), (10, false), (4, false), (9, false), (11, false), (12, false)]), (13, [0, 0, 3, 7, 0, 0, 48, 112, 255, 511, 1023, 1023, 2047, 8191], [(0, false), (1, false), (2, false), (3, true), (4, false), (5, false), (6, false), (7, true), (8, false), (9, false), (10, false), (11, false), (12, false), (13, false)]), (15, [0, 0, 3, 7, 0, 0, 48, 112, 255, 511, 1023, 1023, 2047, 8191], [(0, false), (1, false), (2, false), (3, true), (4, false), (5, false), (6, false), (7, true), (8, false), (9, false), (10, false), (11, false), (12, false), (13, false)]), (16, [0, 0, 0, 0, 12, 28, 63, 127, 255, 255, 0, 1535, 4095], [(0, true), (1, false), (2, false), (3, false), (4, false), (5, true), (10, false), (6, false), (7, false), (8, false), (9, false), (11, false), (12, false)]), (17, [0, 0, 3, 7, 0, 0, 48, 112, 0, 0, 768, 1792, 4095, 8191, 16383, 16383, 0, 98303, 262143], [(0, false), (1, false), (2, false), (3, true), (4, false), (5, false), (6, false), (7, true), (8, false), (9, false), (10, false), (11, true), (16, false), (12, false), (13, false), (14, false), (15, false), (17, false), (18, false)]), (18, [0, 1, 0, 0, 12, 28, 63, 127, 255, 511, 511, 2047, 4095, 8191, 16383, 16383, 65535, 131071, 262143, 524287, 524287, 2097151, 4194303, 8388607, 16777215, 16777215, 67108863, 134217727, 268435455, 536870911, 536870911, 2147483647, 4294967295, 8589934591, 17179869183, 17179869183, 68719476735, 137438953471, 274877906943, 549755813887, 1099511627775, 1099511627775, 1099511627775, 7696581394431, 16492674416639, 35184372088831, 70368744177663, 140737488355327, 281474976710655, 562949953421311, 562949953421311, 562949953421311, 3940649673949183, 8444249301319679, 18014398509481983, 36028797018963967, 72057594037927935], [(0, false), (2, false), (3, false), (4, false), (5, true), (1, false), (6, false), (7, false), (8, false), (9, false), (10, false), (11, false), (12, false), (13, false), (14, false), (15, false), (16, false), (17, false), (18, false), (19, false), (20, false), (21, false), (22, false), (23, false), (24, true), (25, true), (26, false), (27, false), (28, false), (29, false), (30, false), (31, false), (32, false), (33, false), (34, false), (35, false), (36, false), (37, false), (38, false), (39, false), (40, true), (41, false), (42, false), (43, false), (44, true), (45, false), (46, false), (47, false), (48, false), (49, false), (50, false), (51, false), (52, false), (53, true), (54, false), (55, false), (56, false)])]⟩) tab mixed (by decide) ?_
  repeat' (first
      | refine st_seq_reg rfl (by first | (simp only [go_sem]; rfl) | rfl) (by first | (simp only [go_sem]; rfl) | rfl) ?_
      | refine st_reg rfl (by first | (simp only [go_sem]; rfl) | rfl) (by first | (simp only [go_sem]; rfl) | rfl) ?_
      | refine st_seq_draw rfl (by first | (simp only [go_sem]; rfl) | rfl) (by first | (simp only [go_sem]; rfl) | rfl) ?_
      | refine st_draw rfl (by first | (simp only [go_sem]; rfl) | rfl) (by first | (simp only [go_sem]; rfl) | rfl) ?_
      | refine st_op ?_
      | refine st_det rfl (by simp (disch := omega) only [go_sem, wr_i64, if_yes, if_no, ↓reduceIte, Nat.reduceAdd, Nat.reduceMul, Nat.reduceEqDiff, Nat.reduceBEq, Nat.reduceLeDiff]; rfl) ?_
      | refine st_dop rfl ?_
      | refine st_loc rfl (by simp (disch := omega) only [go_sem, wr_i64, if_yes, if_no, ↓reduceIte, Nat.reduceAdd, Nat.reduceMul, Nat.reduceEqDiff, Nat.reduceBEq, Nat.reduceLeDiff]; rfl) ?_
      | refine st_heap rfl (by simp (disch := omega) only [go_sem, wr_i64, if_yes, if_no, ↓reduceIte, Nat.reduceAdd, Nat.reduceMul, Nat.reduceEqDiff, Nat.reduceBEq, Nat.reduceLeDiff]; rfl) ?_
      | refine st_store (by simp (disch := omega) only [go_sem, wr_i64, if_yes, if_no, ↓reduceIte, Nat.reduceAdd, Nat.reduceMul, Nat.reduceEqDiff, Nat.reduceBEq, Nat.reduceLeDiff]; rfl) ?_
      | refine st_append (by simp (disch := omega) only [go_sem, wr_i64, if_yes, if_no, ↓reduceIte, Nat.reduceAdd, Nat.reduceMul, Nat.reduceEqDiff, Nat.reduceBEq, Nat.reduceLeDiff]; rfl) ?_
      | (refine st_drum (by first | (simp (disch := omega) only [go_sem]; rfl) | rfl) rfl (c15 b 5 (by omega)) (by first | (simp (disch := omega) only [go_sem]; rfl) | rfl) (by assumption) (by first | (simp only [go_sem]; rfl) | rfl) (by intro x' n; simp (disch := omega) only [go_sem]; rfl) ?_; rintro v x' n hu' ⟨f, rfl, hf⟩ hn)
      | refine st_gT rfl rfl rfl ?_
      | refine st_gF rfl rfl rfl ?_
      | refine st_dgT rfl rfl rfl rfl ?_
      | refine st_dgF rfl rfl rfl ?_
      | (refine st_gS rfl rfl ?_ ?_ <;> intro hg <;> (try simp only [decide_eq_true_eq, decide_eq_false_iff_not, Bool.not_eq_true', Bool.not_eq_false'] at hg))
      | (refine st_dgS rfl rfl ?_ ?_ <;> intro hg <;> (try simp only [decide_eq_true_eq, decide_eq_false_iff_not, Bool.not_eq_true', Bool.not_eq_false'] at hg))
      | refine st_condT rfl ?_
      | refine st_condF rfl ?_
      | (refine st_condS rfl ?_ ?_ <;> intro hg <;> (try simp only [decide_eq_true_eq, decide_eq_false_iff_not, Bool.not_eq_true', Bool.not_eq_false'] at hg))
      | refine st_nil ?_
      | refine st_dnil ?_
      | refine st_tN ?_
      | refine st_seq ?_
      | refine st_block ?_
      | refine st_skip ?_
      | refine st_exit ?_
      | refine st_ret ?_
      | refine st_tE ?_
      | refine st_tR ?_
      | refine st_bN ?_
      | refine st_bR ?_
      | refine st_bH ?_
      | refine st_bM rfl ?_)
  refine asem_seq (fi := ⟨211, [12, 19, 29, 31], [5, 7, 53, 59, 64, 74], none, [(6, [0, 1, 0, 4, 15, 31], [(0, false), (2, true), (3, false), (1, false), (4, false), (5, false)]), (7, [0, 0, 0, 0, 15, 0, 0, 0, 0, 480, 0, 0, 0, 4096, 0, 16384, 63488, 0, 0, 523264, 129055, 1178623, 4194303], [(0, true), (1, true), (2, true), (3, true), (4, false), (5, false), (6, false), (7, false), (8, false), (9, false), (10, false), (11, false), (12, false), (13, true), (14, false), (15, true), (17, false), (18, false), (16, false), (19, false), (20, false), (21, false), (22, false)]), (11, [0, 0, 3, 7, 15, 0, 0, 96, 224, 511, 0, 2047, 4095], [(0, false), (1, false), (2, false), (3, true), (5, false), (6, false), (7, false), (8, true), (10, false), (4, false), (9, false), (11, false), (12, false)]), (13, [0, 0, 3, 7, 0, 0, 48, 112, 255, 511, 1023, 1023, 2047, 8191], [(0, false), (1, false), (2, false), (3, true), (4, false), (5, false), (6, false), (7, true), (8, false), (9, false), (10, false), (11, false), (12, false), (13, false)]), (15, [0, 0, 3, 7, 0, 0, 48, 112, 255, 511, 1023, 1023, 2047, 8191], [(0, false), (1, false), (2, false), (3, true), (4, false), (5, false), (6, false), (7, true), (8, false), (9, false), (10, false), (11, false), (12, false), (13, false)]), (16, [0, 0, 0, 0, 12, 28, 63, 127, 255, 255, 0, 1535, 4095], [(0, true), (1, false), (2, false), (3, false), (4, false), (5, true), (10, false), (6, false), (7, false), (8, false), (9, false), (11, false), (12, false)]), (17, [0, 0, 3, 7, 0, 0, 48, 112, 0, 0, 768, 1792, 4095, 8191, 16383, 16383, 0, 98303, 262143], [(0, false), (1, false), (2, false), (3, true), (4, false), (5, false), (6, false), (7, true), (8, false), (9, false), (10, false), (11, true), (16, false), (12, false), (13, false), (14, false), (15, false), (17, false), (18, false)]), (18, [0, 1, 0, 0, 12, 28, 63, 127, 255, 511, 511, 2047, 4095, 8191, 16383, 16383, 65535, 131071, 262143, 524287, 524287, 2097151, 4194303, 8388607, 16777215, 16777215, 67108863, 134217727, 268435455, 536870911, 536870911, 2147483647, 4294967295, 8589934591, 17179869183, 17179869183, 68719476735, 137438953471, 274877906943, 549755813887, 1099511627775, 1099511627775, 1099511627775, 7696581394431, 16492674416639, 35184372088831, 70368744177663, 140737488355327, 281474976710655, 562949953421311, 562949953421311, 562949953421311, 3940649673949183, 8444249301319679, 18014398509481983, 36028797018963967, 72057594037927935], [(0, false), (2, false), (3, false), (4, false), (5, true), (1, false), (6, false), (7, false), (8, false), (9, false), (10, false), (11, false), (12, false), (13, false), (14, false), (15, false), (16, false), (17, false), (18, false), (19, false), (20, false), (21, false), (22, false), (23, false), (24, true), (25, true), (26, false), (27, false), (28, false), (29, false), (30, false), (31, false), (32, false), (33, false), (34, false), (35, false), (36, false), (37, false), (38, false), (39, false), (40, true), (41, false), (42, false), (43, false), (44, true), (45, false), (46, false), (47, false), (48, false), (49, false), (50, false), (51, false), (52, false), (53, true), (54, false), (55, false), (56, false)])]⟩) tab mixed (by decide) ?_
  repeat' (first
      | refine st_seq_reg rfl (by first | (simp only [go_sem]; rfl) | rfl) (by first | (simp only [go_sem]; rfl) | rfl) ?_
      | refine st_reg rfl (by first | (simp only [go_sem]; rfl) | rfl) (by first | (simp only [go_sem]; rfl) | rfl) ?_
      | refine st_seq_draw rfl (by first | (simp only [go_sem]; rfl) | rfl) (by first | (simp only [go_sem]; rfl) | rfl) ?_
      | refine st_draw rfl (by first | (simp only [go_sem]; rfl) | rfl) (by first | (simp only [go_sem]; rfl) | rfl) ?_
      | refine st_op ?_
      | refine st_det rfl (by simp (disch := omega) only [go_sem, wr_i64, if_yes, if_no, ↓reduceIte, Nat.reduceAdd, Nat.reduceMul, Nat.reduceEqDiff, Nat.reduceBEq, Nat.reduceLeDiff]; rfl) ?_
      | refine st_dop rfl ?_
      | refine st_loc rfl (by simp (disch := omega) only [go_sem, wr_i64, if_yes, if_no, ↓reduceIte, Nat.reduceAdd, Nat.reduceMul, Nat.reduceEqDiff, Nat.reduceBEq, Nat.reduceLeDiff]; rfl) ?_
      | refine st_heap rfl (by simp (disch := omega) only [go_sem, wr_i64, if_yes, if_no, ↓reduceIte, Nat.reduceAdd, Nat.reduceMul, Nat.reduceEqDiff, Nat.reduceBEq, Nat.reduceLeDiff]; rfl) ?_
      | refine st_store (by simp (disch := omega) only [go_sem, wr_i64, if_yes, if_no, ↓reduceIte, Nat.reduceAdd, Nat.reduceMul, Nat.reduceEqDiff, Nat.reduceBEq, Nat.reduceLeDiff]; rfl) ?_
      | refine st_append (by simp (disch := omega) only [go_sem, wr_i64, if_yes, if_no, ↓reduceIte, Nat.reduceAdd, Nat.reduceMul, Nat.reduceEqDiff, Nat.reduceBEq, Nat.reduceLeDiff]; rfl) ?_
      | (refine st_drum (by first | (simp (disch := omega) only [go_sem]; rfl) | rfl) rfl (c22 b f 5 5 hf (by omega) (by omega)) (by first | (simp (disch := omega) only [go_sem]; rfl) | rfl) (by assumption) (by first | (simp only [go_sem]; rfl) | rfl) (by intro x' n; simp (disch := omega) only [go_sem]; rfl) ?_; rintro v x' n hu' ⟨r, rfl, hrl, hr⟩ hn)
      | refine st_gT rfl rfl rfl ?_
      | refine st_gF rfl rfl rfl ?_
      | refine st_dgT rfl rfl rfl rfl ?_
      | refine st_dgF rfl rfl rfl ?_
      | (refine st_gS rfl rfl ?_ ?_ <;> intro hg <;> (try simp only [decide_eq_true_eq, decide_eq_false_iff_not, Bool.not_eq_true', Bool.not_eq_false'] at hg))
      | (refine st_dgS rfl rfl ?_ ?_ <;> intro hg <;> (try simp only [decide_eq_true_eq, decide_eq_false_iff_not, Bool.not_eq_true', Bool.not_eq_false'] at hg))
      | refine st_condT rfl ?_
      | refine st_condF rfl ?_
      | (refine st_condS rfl ?_ ?_ <;> intro hg <;> (try simp only [decide_eq_true_eq, decide_eq_false_iff_not, Bool.not_eq_true', Bool.not_eq_false'] at hg))
      | refine st_nil ?_
      | refine st_dnil ?_
      | refine st_tN ?_
      | refine st_seq ?_
      | refine st_block ?_
      | refine st_skip ?_
      | refine st_exit ?_
      | refine st_ret ?_
      | refine st_tE ?_
      | refine st_tR ?_
      | refine st_bN ?_
      | refine st_bR ?_
      | refine st_bH ?_
      | refine st_bM rfl ?_)
  refine asem_seq (fi := ⟨211, [12, 19, 29, 31], [5, 7, 53, 59, 64, 74], none, [(6, [0, 1, 0, 4, 15, 31], [(0, false), (2, true), (3, false), (1, false), (4, false), (5, false)]), (7, [0, 0, 0, 0, 15, 0, 0, 0, 0, 480, 0, 0, 0, 4096, 0, 16384, 63488, 0, 0, 523264, 129055, 1178623, 4194303], [(0, true), (1, true), (2, true), (3, true), (4, false), (5, false), (6, false), (7, false), (8, false), (9, false), (10, false), (11, false), (12, false), (13, true), (14, false), (15, true), (17, false), (18, false), (16, false), (19, false), (20, false), (21, false), (22, false)]), (11, [0, 0, 3, 7, 15, 0, 0, 96, 224, 511, 0, 2047, 4095], [(0, false), (1, false), (2, false), (3, true), (5, false), (6, false), (7, false), (8, true), (10, false), (4, false), (9, false), (11, false), (12, false)]), (13, [0, 0, 3, 7, 0, 0, 48, 112, 255, 511, 1023, 1023, 2047, 8191], [(0, false), (1, false), (2, false), (3, true), (4, false), (5, false), (6, false), (7, true), (8, false), (9, false), (10, false), (11, false), (12, false), (13, false)]), (15, [0, 0, 3, 7, 0, 0, 48, 112, 255, 511, 1023, 1023, 2047, 8191], [(0, false), (1, false), (2, false), (3, true), (4, false), (5, false), (6, false), (7, true), (8, false), (9, false), (10, false), (11, false), (12, false), (13, false)]), (16, [0, 0, 0, 0, 12, 28, 63, 127, 255, 255, 0, 1535, 4095], [(0, true), (1, false), (2, false), (3, false), (4, false), (5, true), (10, false), (6, false), (7, false), (8, false), (9, false), (11, false), (12, false)]), (17, [0, 0, 3, 7, 0, 0, 48, 112, 0, 0, 768, 1792, 4095, 8191, 16383, 16383, 0, 98303, 262143], [(0, false), (1, false), (2, false), (3, true), (4, false), (5, false), (6, false), (7, true), (8, false), (9, false), (10, false), (11, true), (16, false), (12, false), (13, false), (14, false), (15, false), (17, false), (18, false)]), (18, [0, 1, 0, 0, 12, 28, 63, 127, 255, 511, 511, 2047, 4095, 8191, 16383, 16383, 65535, 131071, 262143, 524287, 524287, 2097151, 4194303, 8388607, 16777215, 16777215, 67108863, 134217727, 268435455, 536870911, 536870911, 2147483647, 4294967295, 8589934591, 17179869183, 17179869183, 68719476735, 137438953471, 274877906943, 549755813887, 1099511627775, 1099511627775, 1099511627775, 7696581394431, 16492674416639, 35184372088831, 70368744177663, 140737488355327, 281474976710655, 562949953421311, 562949953421311, 562949953421311, 3940649673949183, 8444249301319679, 18014398509481983, 36028797018963967, 72057594037927935], [(0, false), (2, false), (3, false), (4, false), (5, true), (1, false), (6, false), (7, false), (8, false), (9, false), (10, false), (11, false), (12, false), (13, false), (14, false), (15, false), (16, false), (17, false), (18, false), (19, false), (20, false), (21, false), (22, false), (23, false), (24, true), (25, true), (26, false), (27, false), (28, false), (29, false), (30, false), (31, false), (32, false), (33, false), (34, false), (35, false), (36, false), (37, false), (38, false), (39, false), (40, true), (41, false), (42, false), (43, false), (44, true), (45, false), (46, false), (47, false), (48, false), (49, false), (50, false), (51, false), (52, false), (53, true), (54, false), (55, false), (56, false)])]⟩) tab mixed (by decide) ?_
  repeat' (first
      | refine st_seq_reg rfl (by first | (simp only [go_sem, big, List.length_map]; rfl) | rfl) (by first | (simp only [go_sem, big, List.length_map]; rfl) | rfl) ?_
      | refine st_reg rfl (by first | (simp only [go_sem, big, List.length_map]; rfl) | rfl) (by first | (simp only [go_sem, big, List.length_map]; rfl) | rfl) ?_
      | refine st_seq_draw rfl (by first | (simp only [go_sem, big, List.length_map]; rfl) | rfl) (by first | (simp only [go_sem, big, List.length_map]; rfl) | rfl) ?_
      | refine st_draw rfl (by first | (simp only [go_sem, big, List.length_map]; rfl) | rfl) (by first | (simp only [go_sem, big, List.length_map]; rfl) | rfl) ?_
      | refine st_op ?_
      | refine st_det rfl (by simp (disch := omega) only [go_sem, wr_i64, if_yes, if_no, ↓reduceIte, Nat.reduceAdd, Nat.reduceMul, Nat.reduceEqDiff, Nat.reduceBEq, Nat.reduceLeDiff, big, List.length_map]; rfl) ?_
      | refine st_dop rfl ?_
      | refine st_loc rfl (by simp (disch := omega) only [go_sem, wr_i64, if_yes, if_no, ↓reduceIte, Nat.reduceAdd, Nat.reduceMul, Nat.reduceEqDiff, Nat.reduceBEq, Nat.reduceLeDiff, big, List.length_map]; rfl) ?_
      | refine st_heap rfl (by simp (disch := omega) only [go_sem, wr_i64, if_yes, if_no, ↓reduceIte, Nat.reduceAdd, Nat.reduceMul, Nat.reduceEqDiff, Nat.reduceBEq, Nat.reduceLeDiff, big, List.length_map]; rfl) ?_
      | refine st_store (by simp (disch := omega) only [go_sem, wr_i64, if_yes, if_no, ↓reduceIte, Nat.reduceAdd, Nat.reduceMul, Nat.reduceEqDiff, Nat.reduceBEq, Nat.reduceLeDiff, big, List.length_map]; rfl) ?_
      | refine st_append (by simp (disch := omega) only [go_sem, wr_i64, if_yes, if_no, ↓reduceIte, Nat.reduceAdd, Nat.reduceMul, Nat.reduceEqDiff, Nat.reduceBEq, Nat.reduceLeDiff, big, List.length_map]; rfl) ?_
      | (refine st_callf rfl rfl (c23 r (by omega) _) ?_; rintro v h' ⟨bb, m, rfl, hb3, hb4, rfl⟩)
      | refine st_gT rfl rfl rfl ?_
      | refine st_gF rfl rfl rfl ?_
      | refine st_dgT rfl rfl rfl rfl ?_
      | refine st_dgF rfl rfl rfl ?_
      | (refine st_gS rfl rfl ?_ ?_ <;> intro hg <;> (try simp only [decide_eq_true_eq, decide_eq_false_iff_not, Bool.not_eq_true', Bool.not_eq_false'] at hg))
      | (refine st_dgS rfl rfl ?_ ?_ <;> intro hg <;> (try simp only [decide_eq_true_eq, decide_eq_false_iff_not, Bool.not_eq_true', Bool.not_eq_false'] at hg))
      | refine st_condT rfl ?_
      | refine st_condF rfl ?_
      | (refine st_condS rfl ?_ ?_ <;> intro hg <;> (try simp only [decide_eq_true_eq, decide_eq_false_iff_not, Bool.not_eq_true', Bool.not_eq_false'] at hg))
      | refine st_nil ?_
      | refine st_dnil ?_
      | refine st_tN ?_
      | refine st_seq ?_
      | refine st_block ?_
      | refine st_skip ?_
      | refine st_exit ?_
      | refine st_ret ?_
      | refine st_tE ?_
      | refine st_tR ?_
      | refine st_bN ?_
      | refine st_bR ?_
      | refine st_bH ?_
      | refine st_bM rfl ?_)
  have et : List.take r.length (r.map Hu.row) ++ [[.int .i64 z.kind, .int .i64 z.a, .int .i64 z.b]] = (r ++ [z]).map Hu.row := by
    rw [List.take_of_length_le (by simp), List.map_append]; rfl
  rw [et]
  have hb3' : n + 1 ≤ bb.1 := hb3
  rename_i n0 x1 n1 hu1 hn1
  have hbb : ¬ bb = b := fun e => by rw [e] at hb3'; omega
  have hbb' : ¬ b = bb := fun e => hbb e.symm
  have hbn : ¬ b = (n, 54) := fun e => by rw [e] at hb2; exact absurd hb2 (by show ¬ n < n0; omega)
  refine ASem.frzS (b := (n, 54)) (k := ⟨3, (r ++ [z]).map Hu.row⟩) (z := 3) (m := r.length + 1) 14 (by simp only [go_sem]) (by simp only [go_sem, ↓reduceIte]) (by simp) ?_
  refine asem_seq (fi := ⟨211, [12, 19, 29, 31], [5, 7, 53, 59, 64, 74], none, [(6, [0, 1, 0, 4, 15, 31], [(0, false), (2, true), (3, false), (1, false), (4, false), (5, false)]), (7, [0, 0, 0, 0, 15, 0, 0, 0, 0, 480, 0, 0, 0, 4096, 0, 16384, 63488, 0, 0, 523264, 129055, 1178623, 4194303], [(0, true), (1, true), (2, true), (3, true), (4, false), (5, false), (6, false), (7, false), (8, false), (9, false), (10, false), (11, false), (12, false), (13, true), (14, false), (15, true), (17, false), (18, false), (16, false), (19, false), (20, false), (21, false), (22, false)]), (11, [0, 0, 3, 7, 15, 0, 0, 96, 224, 511, 0, 2047, 4095], [(0, false), (1, false), (2, false), (3, true), (5, false), (6, false), (7, false), (8, true), (10, false), (4, false), (9, false), (11, false), (12, false)]), (13, [0, 0, 3, 7, 0, 0, 48, 112, 255, 511, 1023, 1023, 2047, 8191], [(0, false), (1, false), (2, false), (3, true), (4, false), (5, false), (6, false), (7, true), (8, false), (9, false), (10, false), (11, false), (12, false), (13, false)]), (15, [0, 0, 3, 7, 0, 0, 48, 112, 255, 511, 1023, 1023, 2047, 8191], [(0, false), (1, false), (2, false), (3, true), (4, false), (5, false), (6, false), (7, true), (8, false), (9, false), (10, false), (11, false), (12, false), (13, false)]), (16, [0, 0, 0, 0, 12, 28, 63, 127, 255, 255, 0, 1535, 4095], [(0, true), (1, false), (2, false), (3, false), (4, false), (5, true), (10, false), (6, false), (7, false), (8, false), (9, false), (11, false), (12, false)]), (17, [0, 0, 3, 7, 0, 0, 48, 112, 0, 0, 768, 1792, 4095, 8191, 16383, 16383, 0, 98303, 262143], [(0, false), (1, false), (2, false), (3, true), (4, false), (5, false), (6, false), (7, true), (8, false), (9, false), (10, false), (11, true), (16, false), (12, false), (13, false), (14, false), (15, false), (17, false), (18, false)]), (18, [0, 1, 0, 0, 12, 28, 63, 127, 255, 511, 511, 2047, 4095, 8191, 16383, 16383, 65535, 131071, 262143, 524287, 524287, 2097151, 4194303, 8388607, 16777215, 16777215, 67108863, 134217727, 268435455, 536870911, 536870911, 2147483647, 4294967295, 8589934591, 17179869183, 17179869183, 68719476735, 137438953471, 274877906943, 549755813887, 1099511627775, 1099511627775, 1099511627775, 7696581394431, 16492674416639, 35184372088831, 70368744177663, 140737488355327, 281474976710655, 562949953421311, 562949953421311, 562949953421311, 3940649673949183, 8444249301319679, 18014398509481983, 36028797018963967, 72057594037927935], [(0, false), (2, false), (3, false), (4, false), (5, true), (1, false), (6, false), (7, false), (8, false), (9, false), (10, false), (11, false), (12, false), (13, false), (14, false), (15, false), (16, false), (17, false), (18, false), (19, false), (20, false), (21, false), (22, false), (23, false), (24, true), (25, true), (26, false), (27, false), (28, false), (29, false), (30, false), (31, false), (32, false), (33, false), (34, false), (35, false), (36, false), (37, false), (38, false), (39, false), (40, true), (41, false), (42, false), (43, false), (44, true), (45, false), (46, false), (47, false), (48, false), (49, false), (50, false), (51, false), (52, false), (53, true), (54, false), (55, false), (56, false)])]⟩) tab mixed (by decide) ?_
  repeat' (first
      | refine st_seq_reg rfl (by first | (simp only [go_sem, hbb, hbb', hbn]; rfl) | rfl) (by first | (simp only [go_sem, hbb, hbb', hbn]; rfl) | rfl) ?_
      | refine st_reg rfl (by first | (simp only [go_sem, hbb, hbb', hbn]; rfl) | rfl) (by first | (simp only [go_sem, hbb, hbb', hbn]; rfl) | rfl) ?_
      | refine st_seq_draw rfl (by first | (simp only [go_sem, hbb, hbb', hbn]; rfl) | rfl) (by first | (simp only [go_sem, hbb, hbb', hbn]; rfl) | rfl) ?_
      | refine st_draw rfl (by first | (simp only [go_sem, hbb, hbb', hbn]; rfl) | rfl) (by first | (simp only [go_sem, hbb, hbb', hbn]; rfl) | rfl) ?_
      | refine st_op ?_
      | refine st_det rfl (by simp (disch := omega) only [go_sem, wr_i64, if_yes, if_no, ↓reduceIte, Nat.reduceAdd, Nat.reduceMul, Nat.reduceEqDiff, Nat.reduceBEq, Nat.reduceLeDiff, hbb, hbb', hbn]; rfl) ?_
      | refine st_dop rfl ?_
      | refine st_loc rfl (by simp (disch := omega) only [go_sem, wr_i64, if_yes, if_no, ↓reduceIte, Nat.reduceAdd, Nat.reduceMul, Nat.reduceEqDiff, Nat.reduceBEq, Nat.reduceLeDiff, hbb, hbb', hbn]; rfl) ?_
      | refine st_heap rfl (by simp (disch := omega) only [go_sem, wr_i64, if_yes, if_no, ↓reduceIte, Nat.reduceAdd, Nat.reduceMul, Nat.reduceEqDiff, Nat.reduceBEq, Nat.reduceLeDiff, hbb, hbb', hbn]; rfl) ?_
      | refine st_store (by simp (disch := omega) only [go_sem, wr_i64, if_yes, if_no, ↓reduceIte, Nat.reduceAdd, Nat.reduceMul, Nat.reduceEqDiff, Nat.reduceBEq, Nat.reduceLeDiff, hbb, hbb', hbn]; rfl) ?_
      | refine st_append (by simp (disch := omega) only [go_sem, wr_i64, if_yes, if_no, ↓reduceIte, Nat.reduceAdd, Nat.reduceMul, Nat.reduceEqDiff, Nat.reduceBEq, Nat.reduceLeDiff, hbb, hbb', hbn]; rfl) ?_
      | (refine st_drum (by first | (simp (disch := omega) only [go_sem, hbb, hbb', hbn]; rfl) | rfl) rfl (c18' b f.front f.rear (by have := hf.axles; have := hf.len; omega) (by have := hf.axles; have := hf.len; omega)) (by first | (simp (disch := omega) only [go_sem, hbb, hbb', hbn]; rfl) | rfl) (by assumption) (by first | (simp only [go_sem, hbb, hbb', hbn]; rfl) | rfl) (by intro x' n; simp (disch := omega) only [go_sem]; rfl) ?_; rintro v x' n hu' ⟨q, rfl, hq⟩ hn)
      | refine st_gT rfl rfl rfl ?_
      | refine st_gF rfl rfl rfl ?_
      | refine st_dgT rfl rfl rfl rfl ?_
      | refine st_dgF rfl rfl rfl ?_
      | (refine st_gS rfl rfl ?_ ?_ <;> intro hg <;> (try simp only [decide_eq_true_eq, decide_eq_false_iff_not, Bool.not_eq_true', Bool.not_eq_false'] at hg))
      | (refine st_dgS rfl rfl ?_ ?_ <;> intro hg <;> (try simp only [decide_eq_true_eq, decide_eq_false_iff_not, Bool.not_eq_true', Bool.not_eq_false'] at hg))
      | refine st_condT rfl ?_
      | refine st_condF rfl ?_
      | (refine st_condS rfl ?_ ?_ <;> intro hg <;> (try simp only [decide_eq_true_eq, decide_eq_false_iff_not, Bool.not_eq_true', Bool.not_eq_false'] at hg))
      | refine st_nil ?_
      | refine st_dnil ?_
      | refine st_tN ?_
      | refine st_seq ?_
      | refine st_block ?_
      | refine st_skip ?_
      | refine st_exit ?_
      | refine st_ret ?_
      | refine st_tE ?_
      | refine st_tR ?_
      | refine st_bN ?_
      | refine st_bR ?_
      | refine st_bH ?_
      | refine st_bM rfl ?_)
  refine asem_awp (fi := ⟨211, [12, 19, 29, 31], [5, 7, 53, 59, 64, 74], none, [(6, [0, 1, 0, 4, 15, 31], [(0, false), (2, true), (3, false), (1, false), (4, false), (5, false)]), (7, [0, 0, 0, 0, 15, 0, 0, 0, 0, 480, 0, 0, 0, 4096, 0, 16384, 63488, 0, 0, 523264, 129055, 1178623, 4194303], [(0, true), (1, true), (2, true), (3, true), (4, false), (5, false), (6, false), (7, false), (8, false), (9, false), (10, false), (11, false), (12, false), (13, true), (14, false), (15, true), (17, false), (18, false), (16, false), (19, false), (20, false), (21, false), (22, false)]), (11, [0, 0, 3, 7, 15, 0, 0, 96, 224, 511, 0, 2047, 4095], [(0, false), (1, false), (2, false), (3, true), (5, false), (6, false), (7, false), (8, true), (10, false), (4, false), (9, false), (11, false), (12, false)]), (13, [0, 0, 3, 7, 0, 0, 48, 112, 255, 511, 1023, 1023, 2047, 8191], [(0, false), (1, false), (2, false), (3, true), (4, false), (5, false), (6, false), (7, true), (8, false), (9, false), (10, false), (11, false), (12, false), (13, false)]), (15, [0, 0, 3, 7, 0, 0, 48, 112, 255, 511, 1023, 1023, 2047, 8191], [(0, false), (1, false), (2, false), (3, true), (4, false), (5, false), (6, false), (7, true), (8, false), (9, false), (10, false), (11, false), (12, false), (13, false)]), (16, [0, 0, 0, 0, 12, 28, 63, 127, 255, 255, 0, 1535, 4095], [(0, true), (1, false), (2, false), (3, false), (4, false), (5, true), (10, false), (6, false), (7, false), (8, false), (9, false), (11, false), (12, false)]), (17, [0, 0, 3, 7, 0, 0, 48, 112, 0, 0, 768, 1792, 4095, 8191, 16383, 16383, 0, 98303, 262143], [(0, false), (1, false), (2, false), (3, true), (4, false), (5, false), (6, false), (7, true), (8, false), (9, false), (10, false), (11, true), (16, false), (12, false), (13, false), (14, false), (15, false), (17, false), (18, false)]), (18, [0, 1, 0, 0, 12, 28, 63, 127, 255, 511, 511, 2047, 4095, 8191, 16383, 16383, 65535, 131071, 262143, 524287, 524287, 2097151, 4194303, 8388607, 16777215, 16777215, 67108863, 134217727, 268435455, 536870911, 536870911, 2147483647, 4294967295, 8589934591, 17179869183, 17179869183, 68719476735, 137438953471, 274877906943, 549755813887, 1099511627775, 1099511627775, 1099511627775, 7696581394431, 16492674416639, 35184372088831, 70368744177663, 140737488355327, 281474976710655, 562949953421311, 562949953421311, 562949953421311, 3940649673949183, 8444249301319679, 18014398509481983, 36028797018963967, 72057594037927935], [(0, false), (2, false), (3, false), (4, false), (5, true), (1, false), (6, false), (7, false), (8, false), (9, false), (10, false), (11, false), (12, false), (13, false), (14, false), (15, false), (16, false), (17, false), (18, false), (19, false), (20, false), (21, false), (22, false), (23, false), (24, true), (25, true), (26, false), (27, false), (28, false), (29, false), (30, false), (31, false), (32, false), (33, false), (34, false), (35, false), (36, false), (37, false), (38, false), (39, false), (40, true), (41, false), (42, false), (43, false), (44, true), (45, false), (46, false), (47, false), (48, false), (49, false), (50, false), (51, false), (52, false), (53, true), (54, false), (55, false), (56, false)])]⟩) tab mixed (by decide) ?_
  repeat' (first
      | refine st_seq_reg rfl (by first | (simp only [go_sem]; rfl) | rfl) (by first | (simp only [go_sem]; rfl) | rfl) ?_
      | refine st_reg rfl (by first | (simp only [go_sem]; rfl) | rfl) (by first | (simp only [go_sem]; rfl) | rfl) ?_
      | refine st_seq_draw rfl (by first | (simp only [go_sem]; rfl) | rfl) (by first | (simp only [go_sem]; rfl) | rfl) ?_
      | refine st_draw rfl (by first | (simp only [go_sem]; rfl) | rfl) (by first | (simp only [go_sem]; rfl) | rfl) ?_
      | refine st_op ?_
      | refine st_det rfl (by simp (disch := omega) only [go_sem, wr_i64, if_yes, if_no, ↓reduceIte, Nat.reduceAdd, Nat.reduceMul, Nat.reduceEqDiff, Nat.reduceBEq, Nat.reduceLeDiff]; rfl) ?_
      | refine st_dop rfl ?_
      | refine st_loc rfl (by simp (disch := omega) only [go_sem, wr_i64, if_yes, if_no, ↓reduceIte, Nat.reduceAdd, Nat.reduceMul, Nat.reduceEqDiff, Nat.reduceBEq, Nat.reduceLeDiff]; rfl) ?_
      | refine st_heap rfl (by simp (disch := omega) only [go_sem, wr_i64, if_yes, if_no, ↓reduceIte, Nat.reduceAdd, Nat.reduceMul, Nat.reduceEqDiff, Nat.reduceBEq, Nat.reduceLeDiff]; rfl) ?_
      | refine st_store (by simp (disch := omega) only [go_sem, wr_i64, if_yes, if_no, ↓reduceIte, Nat.reduceAdd, Nat.reduceMul, Nat.reduceEqDiff, Nat.reduceBEq, Nat.reduceLeDiff]; rfl) ?_
      | refine st_append (by simp (disch := omega) only [go_sem, wr_i64, if_yes, if_no, ↓reduceIte, Nat.reduceAdd, Nat.reduceMul, Nat.reduceEqDiff, Nat.reduceBEq, Nat.reduceLeDiff]; rfl) ?_
      | refine st_gT rfl rfl rfl ?_
      | refine st_gF rfl rfl rfl ?_
      | refine st_dgT rfl rfl rfl rfl ?_
      | refine st_dgF rfl rfl rfl ?_
      | (refine st_gS rfl rfl ?_ ?_ <;> intro hg <;> (try simp only [decide_eq_true_eq, decide_eq_false_iff_not, Bool.not_eq_true', Bool.not_eq_false'] at hg))
      | (refine st_dgS rfl rfl ?_ ?_ <;> intro hg <;> (try simp only [decide_eq_true_eq, decide_eq_false_iff_not, Bool.not_eq_true', Bool.not_eq_false'] at hg))
      | refine st_condT rfl ?_
      | refine st_condF rfl ?_
      | (refine st_condS rfl ?_ ?_ <;> intro hg <;> (try simp only [decide_eq_true_eq, decide_eq_false_iff_not, Bool.not_eq_true', Bool.not_eq_false'] at hg))
      | refine st_nil ?_
      | refine st_dnil ?_
      | refine st_tN ?_
      | refine st_seq ?_
      | refine st_block ?_
      | refine st_skip ?_
      | refine st_exit ?_
      | refine st_ret ?_
      | refine st_tE ?_
      | refine st_tR ?_
      | refine st_bN ?_
      | refine st_bR ?_
      | refine st_bH ?_
      | refine st_bM rfl ?_)
  have hk : ([[.int .i64 fx.len, .int .i64 fx.wid, .int .i64 fx.front, .int .i64 fx.rear, .int .i64 fx.turn, .int .i64 fx.kilos, .int .i64 fx.mid, .int .i64 fx.high, .lst 7 (fx.loads.map Ld.row)], [.int .i64 f.len, .int .i64 f.wid, .int .i64 f.front, .int .i64 f.rear, .int .i64 f.turn, .int .i64 f.kilos, .int .i64 f.mid, .int .i64 f.high, .lst 7 (f.loads.map Ld.row)], [.int .i64 f.len, .int .i64 f.wid, .int .i64 f.front, .int .i64 f.rear, .int .i64 f.turn, .int .i64 f.kilos, .int .i64 f.mid, .int .i64 f.high, .lst 7 (f.loads.map Ld.row)], [.int .i64 f.len, .int .i64 f.wid, .int .i64 f.front, .int .i64 f.rear, .int .i64 f.turn, .int .i64 f.kilos, .int .i64 f.mid, .int .i64 f.high, .lst 7 (f.loads.map Ld.row)]] : List (List AV)) = ([fx, f, f, f] : List Fl).map flc := rfl
  have hk2 : ([[.lst 3 (rx.map Hu.row)], [.lst 3 (r.map Hu.row)], [.lst 3 ((r ++ [z]).map Hu.row)], [.lst 3 (rx.map Hu.row)]] : List (List AV)) = ([rx, r, r ++ [z], rx] : List (List Hu)).map rcell := rfl
  have hk3 : ([[.int .i64 p], [.int .i64 q], [.int .i64 p], [.int .i64 p]] : List (List AV)) = ([p, q, p, p] : List Int).map iv := rfl
  rw [hk, hk2, hk3]
  have hks : ∀ g ∈ ([fx, f, f, f] : List Fl), g.loads.length ≤ 1000 := by
    have := hf.many
    intro g hg
    simp only [List.mem_cons, List.not_mem_nil, or_false] at hg
    rcases hg with rfl | rfl | rfl | rfl <;> omega
  have hks2 : ∀ g ∈ ([rx, r, r ++ [z], rx] : List (List Hu)), g.length ≤ 1000 := by
    intro g hg
    simp only [List.mem_cons, List.not_mem_nil, or_false] at hg
    rcases hg with rfl | rfl | rfl | rfl
    · omega
    · omega
    · rw [List.length_append]; show r.length + 1 ≤ 1000; omega
    · omega
  clear hk hk2 hk3
  have hkl : ([fx, f, f, f] : List Fl).length = 4 := rfl
  have hkl2 : ([rx, r, r ++ [z], rx] : List (List Hu)).length = 4 := rfl
  have hkl3 : ([p, q, p, p] : List Int).length = 4 := rfl
  generalize ([fx, f, f, f] : List Fl) = fs at hks hkl ⊢
  generalize ([rx, r, r ++ [z], rx] : List (List Hu)) = rs at hks2 hkl2 ⊢
  generalize ([p, q, p, p] : List Int) = ps at hkl3 ⊢
  have hGl : ∀ i, i < fs.length → (gl fs i).loads.length ≤ 1000 := fun i hi => hks _ (gl_mem hi)
  have hRl : ∀ i, i < rs.length → (rl rs i).length ≤ 1000 := fun i hi => hks2 _ (rl_mem hi)
  refine st_loopC (α := Nat) tab mixed [] [] (by repeat (first | exact trivial | refine ⟨rfl, ?_⟩)) [] [] (by repeat (first | exact trivial | refine ⟨rfl, ?_⟩)) (fun i => [(18, .int .i64 (i : Nat))]) [(15, _), (16, _), (17, _)] (fun _ => []) [] (fun i => i ≤ fs.length) (fun i => fs.length - i) (by decide) 0 (Nat.zero_le _) (by (try simp only [go_sem]); repeat' (first | exact trivial | refine And.intro ?_ ?_ | rfl | (simp (disch := omega) only [go_sem, if_yes, if_no, ↓reduceIte, Nat.reduceAdd, Nat.reduceMul, Nat.reduceEqDiff, Nat.reduceBEq, Nat.reduceLeDiff]; rfl) | (simp (disch := omega) only [go_sem, if_yes, if_no, ↓reduceIte, Nat.reduceAdd, Nat.reduceMul, Nat.reduceEqDiff, Nat.reduceBEq, Nat.reduceLeDiff]))) (by (try simp only [go_sem]); repeat' (first | exact trivial | refine And.intro ?_ ?_ | rfl | (simp (disch := omega) only [go_sem, if_yes, if_no, ↓reduceIte, Nat.reduceAdd, Nat.reduceMul, Nat.reduceEqDiff, Nat.reduceBEq, Nat.reduceLeDiff]; rfl) | (simp (disch := omega) only [go_sem, if_yes, if_no, ↓reduceIte, Nat.reduceAdd, Nat.reduceMul, Nat.reduceEqDiff, Nat.reduceBEq, Nat.reduceLeDiff]))) (by first | (simp only [go_sem]; rfl) | rfl) (by intro n; simp only [go_sem]; rfl) ?_
  intro i c i1 hc
  simp only [go_sem]
  obtain ⟨lo, hi, e, kb1, kb2⟩ := bal_fn (gl fs i) (rl rs i) (ps.getD i 0)
  repeat' (first
      | refine st_seq_reg rfl (by first | (simp only [go_sem, List.length_map, gl_getD, rl_getD, hkl, hkl2, hkl3]; rfl) | rfl) (by first | (simp only [go_sem, List.length_map, gl_getD, rl_getD, hkl, hkl2, hkl3]; rfl) | rfl) ?_
      | refine st_reg rfl (by first | (simp only [go_sem, List.length_map, gl_getD, rl_getD, hkl, hkl2, hkl3]; rfl) | rfl) (by first | (simp only [go_sem, List.length_map, gl_getD, rl_getD, hkl, hkl2, hkl3]; rfl) | rfl) ?_
      | refine st_seq_draw rfl (by first | (simp only [go_sem, List.length_map, gl_getD, rl_getD, hkl, hkl2, hkl3]; rfl) | rfl) (by first | (simp only [go_sem, List.length_map, gl_getD, rl_getD, hkl, hkl2, hkl3]; rfl) | rfl) ?_
      | refine st_draw rfl (by first | (simp only [go_sem, List.length_map, gl_getD, rl_getD, hkl, hkl2, hkl3]; rfl) | rfl) (by first | (simp only [go_sem, List.length_map, gl_getD, rl_getD, hkl, hkl2, hkl3]; rfl) | rfl) ?_
      | refine st_op ?_
      | refine st_det rfl (by simp (disch := omega) only [go_sem, wr_i64, if_yes, if_no, ↓reduceIte, Nat.reduceAdd, Nat.reduceMul, Nat.reduceEqDiff, Nat.reduceBEq, Nat.reduceLeDiff, List.length_map, gl_getD, rl_getD, hkl, hkl2, hkl3]; rfl) ?_
      | refine st_dop rfl ?_
      | refine st_loc rfl (by simp (disch := omega) only [go_sem, wr_i64, if_yes, if_no, ↓reduceIte, Nat.reduceAdd, Nat.reduceMul, Nat.reduceEqDiff, Nat.reduceBEq, Nat.reduceLeDiff, List.length_map, gl_getD, rl_getD, hkl, hkl2, hkl3]; rfl) ?_
      | refine st_heap rfl (by simp (disch := omega) only [go_sem, wr_i64, if_yes, if_no, ↓reduceIte, Nat.reduceAdd, Nat.reduceMul, Nat.reduceEqDiff, Nat.reduceBEq, Nat.reduceLeDiff, List.length_map, gl_getD, rl_getD, hkl, hkl2, hkl3]; rfl) ?_
      | refine st_store (by simp (disch := omega) only [go_sem, wr_i64, if_yes, if_no, ↓reduceIte, Nat.reduceAdd, Nat.reduceMul, Nat.reduceEqDiff, Nat.reduceBEq, Nat.reduceLeDiff, List.length_map, gl_getD, rl_getD, hkl, hkl2, hkl3]; rfl) ?_
      | refine st_append (by simp (disch := omega) only [go_sem, wr_i64, if_yes, if_no, ↓reduceIte, Nat.reduceAdd, Nat.reduceMul, Nat.reduceEqDiff, Nat.reduceBEq, Nat.reduceLeDiff, List.length_map, gl_getD, rl_getD, hkl, hkl2, hkl3]; rfl) ?_
      | (refine st_pureE (by first | (simp (disch := omega) only [go_sem, List.length_map, gl_getD, rl_getD, hkl, hkl2, hkl3]; rfl) | rfl) rfl (c24p (gl fs i) (hGl i (by omega))) (by first | (simp only [go_sem, List.length_map, gl_getD, rl_getD, hkl, hkl2, hkl3]; rfl) | rfl) (by intro n; simp (disch := omega) only [go_sem]; rfl) ?_; intro n hn)
      | (refine st_pureE (by first | (simp (disch := omega) only [go_sem, List.length_map, gl_getD, rl_getD, hkl, hkl2, hkl3]; rfl) | rfl) rfl (c23p (rl rs i) (hRl i (by omega))) (by first | (simp only [go_sem, List.length_map, gl_getD, rl_getD, hkl, hkl2, hkl3]; rfl) | rfl) (by intro n; simp (disch := omega) only [go_sem]; rfl) ?_; intro n hn)
      | (refine st_pureE (by first | (simp (disch := omega) only [go_sem, List.length_map, gl_getD, rl_getD, hkl, hkl2, hkl3]; rfl) | rfl) rfl (c19u (gl fs i) (rl rs i)) (by first | (simp only [go_sem, List.length_map, gl_getD, rl_getD, hkl, hkl2, hkl3]; rfl) | rfl) (by intro n; simp (disch := omega) only [go_sem]; rfl) ?_; intro n hn)
      | (refine st_pureE (by first | (simp (disch := omega) only [go_sem, List.length_map, gl_getD, rl_getD, hkl, hkl2, hkl3]; rfl) | rfl) rfl (c25u (gl fs i) (rl rs i)) (by first | (simp only [go_sem, List.length_map, gl_getD, rl_getD, hkl, hkl2, hkl3]; rfl) | rfl) (by intro n; simp (disch := omega) only [go_sem]; rfl) ?_; intro n hn)
      | (refine st_pureE (by first | (simp (disch := omega) only [go_sem, List.length_map, gl_getD, rl_getD, hkl, hkl2, hkl3]; rfl) | rfl) rfl (c26u (gl fs i) (rl rs i)) (by first | (simp only [go_sem, List.length_map, gl_getD, rl_getD, hkl, hkl2, hkl3]; rfl) | rfl) (by intro n; simp (disch := omega) only [go_sem]; rfl) ?_; intro n hn)
      | (refine st_pureE (by first | (simp (disch := omega) only [go_sem, List.length_map, gl_getD, rl_getD, hkl, hkl2, hkl3]; rfl) | rfl) rfl (c27u (gl fs i) (rl rs i)) (by first | (simp only [go_sem, List.length_map, gl_getD, rl_getD, hkl, hkl2, hkl3]; rfl) | rfl) (by intro n; simp (disch := omega) only [go_sem]; rfl) ?_; intro n hn)
      | (refine st_pureE (by first | (simp (disch := omega) only [go_sem, List.length_map, gl_getD, rl_getD, hkl, hkl2, hkl3]; rfl) | rfl) rfl (kb1) (by first | (simp only [go_sem, List.length_map, gl_getD, rl_getD, hkl, hkl2, hkl3]; rfl) | rfl) (by intro n; simp (disch := omega) only [go_sem]; rfl) ?_; intro n hn)
      | (refine st_pureE (by first | (simp (disch := omega) only [go_sem, List.length_map, gl_getD, rl_getD, hkl, hkl2, hkl3]; rfl) | rfl) rfl (kb2) (by first | (simp only [go_sem, List.length_map, gl_getD, rl_getD, hkl, hkl2, hkl3]; rfl) | rfl) (by intro n; simp (disch := omega) only [go_sem]; rfl) ?_; intro n hn)
      | (refine st_pureE (by first | (simp (disch := omega) only [go_sem, List.length_map, gl_getD, rl_getD, hkl, hkl2, hkl3]; rfl) | rfl) rfl (c30 (rl rs i)) (by first | (simp only [go_sem, List.length_map, gl_getD, rl_getD, hkl, hkl2, hkl3]; rfl) | rfl) (by intro n; simp (disch := omega) only [go_sem]; rfl) ?_; intro n hn)
      | (refine st_pureE (by first | (simp (disch := omega) only [go_sem, List.length_map, gl_getD, rl_getD, hkl, hkl2, hkl3]; rfl) | rfl) rfl (c31 (rl rs i)) (by first | (simp only [go_sem, List.length_map, gl_getD, rl_getD, hkl, hkl2, hkl3]; rfl) | rfl) (by intro n; simp (disch := omega) only [go_sem]; rfl) ?_; intro n hn)
      | (refine st_pureE (by first | (simp (disch := omega) only [go_sem, List.length_map, gl_getD, rl_getD, hkl, hkl2, hkl3]; rfl) | rfl) rfl (c32s (pasL (gl fs i) (rl rs i)) (pasL_len _ _ (hRl i (by omega)))) (by first | (simp only [go_sem, List.length_map, gl_getD, rl_getD, hkl, hkl2, hkl3]; rfl) | rfl) (by intro n; simp (disch := omega) only [go_sem]; rfl) ?_; intro n hn)
      | (refine st_pureE (by first | (simp (disch := omega) only [go_sem, List.length_map, gl_getD, rl_getD, hkl, hkl2, hkl3]; rfl) | rfl) rfl (c33s (gl fs i) (hGl i (by omega))) (by first | (simp only [go_sem, List.length_map, gl_getD, rl_getD, hkl, hkl2, hkl3]; rfl) | rfl) (by intro n; simp (disch := omega) only [go_sem]; rfl) ?_; intro n hn)
      | (refine st_pureE (by first | (simp (disch := omega) only [go_sem, List.length_map, gl_getD, rl_getD, hkl, hkl2, hkl3]; rfl) | rfl) rfl (c34s (rl rs i) (hRl i (by omega))) (by first | (simp only [go_sem, List.length_map, gl_getD, rl_getD, hkl, hkl2, hkl3]; rfl) | rfl) (by intro n; simp (disch := omega) only [go_sem]; rfl) ?_; intro n hn)
      | (refine st_pureE (by first | (simp (disch := omega) only [go_sem, List.length_map, gl_getD, rl_getD, hkl, hkl2, hkl3]; rfl) | rfl) rfl (c21) (by first | (simp only [go_sem, List.length_map, gl_getD, rl_getD, hkl, hkl2, hkl3]; rfl) | rfl) (by intro n; simp (disch := omega) only [go_sem]; rfl) ?_; intro n hn)
      | refine st_gT rfl rfl rfl ?_
      | refine st_gF rfl rfl rfl ?_
      | refine st_dgT rfl rfl rfl rfl ?_
      | refine st_dgF rfl rfl rfl ?_
      | (refine st_gS rfl rfl ?_ ?_ <;> intro hg <;> (try simp only [decide_eq_true_eq, decide_eq_false_iff_not, Bool.not_eq_true', Bool.not_eq_false'] at hg))
      | (refine st_dgS rfl rfl ?_ ?_ <;> intro hg <;> (try simp only [decide_eq_true_eq, decide_eq_false_iff_not, Bool.not_eq_true', Bool.not_eq_false'] at hg))
      | refine st_condT rfl ?_
      | refine st_condF rfl ?_
      | (refine st_condS rfl ?_ ?_ <;> intro hg <;> (try simp only [decide_eq_true_eq, decide_eq_false_iff_not, Bool.not_eq_true', Bool.not_eq_false'] at hg))
      | refine st_nil ?_
      | refine st_dnil ?_
      | refine st_tN ?_
      | refine st_seq ?_
      | refine st_block ?_
      | refine st_skip ?_
      | refine st_exit ?_
      | refine st_ret ?_
      | refine st_tE ?_
      | refine st_tR ?_
      | refine st_bN ?_
      | refine st_bR ?_
      | refine st_bH ?_
      | refine st_bM rfl ?_)
  · refine ⟨i + 1, by show i + 1 ≤ fs.length; omega, by show fs.length - (i + 1) < fs.length - i; omega, (by repeat' (first | exact trivial | refine And.intro ?_ ?_ | rfl | (simp (disch := omega) only [go_sem, if_yes, if_no, ↓reduceIte, Nat.reduceAdd, Nat.reduceMul, Nat.reduceEqDiff, Nat.reduceBEq, Nat.reduceLeDiff]; rfl) | (simp (disch := omega) only [go_sem, if_yes, if_no, ↓reduceIte, Nat.reduceAdd, Nat.reduceMul, Nat.reduceEqDiff, Nat.reduceBEq, Nat.reduceLeDiff]))), (by repeat' (first | exact trivial | refine And.intro ?_ ?_ | rfl | (simp (disch := omega) only [go_sem, if_yes, if_no, ↓reduceIte, Nat.reduceAdd, Nat.reduceMul, Nat.reduceEqDiff, Nat.reduceBEq, Nat.reduceLeDiff]; rfl) | (simp (disch := omega) only [go_sem, if_yes, if_no, ↓reduceIte, Nat.reduceAdd, Nat.reduceMul, Nat.reduceEqDiff, Nat.reduceBEq, Nat.reduceLeDiff]))), rfl, ⟨fun _ _ e => e, fun _ _ e => e, by simp only [go_sem]; omega⟩⟩
  · simp (disch := omega) only [AEnd, Try.results4, aresK, fin, go_sem, ↓reduceIte, Nat.reduceEqDiff, Nat.reduceAdd, Nat.reduceLeDiff, if_yes, if_no, implies_true, true_and, and_true, List.reverse_cons, List.reverse_nil]
end Go.Proofs.Ytkjpceapflhmnaa
