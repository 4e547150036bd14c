/- Contracts of functions that the claim reaches: what each call gives, told in our own logic. Conditions: those of each theorem. -/
import Derived.Test.YtkjpceapflhmnaaF55
import Derived.Test.YtkjpceapflhmnaaF13
import Derived.Test.YtkjpceapflhmnaaF48a
set_option linter.all false
set_option linter.unusedSimpArgs false
set_option linter.unusedVariables false
namespace Go.Proofs.Ytkjpceapflhmnaa
open Go.Av
attribute [local irreducible] thenA blockA awp awpOps awpD awp1
set_option maxHeartbeats 8000000
set_option maxRecDepth 20000
theorem nr_getD {L : List (Nat × Nat)} {i : Nat} (h : i < L.length) : (L.map nr).getD i [] = [.int .i64 ((L.getD i (0, 0)).1 : Nat), .int .i64 ((L.getD i (0, 0)).2 : Nat)] := by
  simp [List.getD_eq_getElem?_getD, h, nr]
theorem c68s (L : List (Nat × Nat)) (hl : L.length ≤ 1000) : Pure Try.prog 68 [.lst 2 (L.map nr), .lst 2 (L.map nr)] (fun v => v = .bool true) := by
  intro h
  refine ACalls.forget (ACalls.of tab mixed Try.call68 Try.func68 rfl (fi := ⟨31, [], [], none, [(5, [0, 0, 3, 7, 0, 0, 48, 112, 255, 511], [(0, false), (1, false), (2, false), (3, true), (4, false), (5, false), (6, false), (7, true), (8, false), (9, false)])]⟩) rfl rfl (Nat.le_of_ble_eq_true rfl) (by decide) ?_)
  unfold startA
  repeat' (first
      | refine st_seq_reg rfl (by first | (simp only [go_sem, List.length_map, decide_true]; rfl) | rfl) (by first | (simp only [go_sem, List.length_map, decide_true]; rfl) | rfl) ?_
      | refine st_reg rfl (by first | (simp only [go_sem, List.length_map, decide_true]; rfl) | rfl) (by first | (simp only [go_sem, List.length_map, decide_true]; rfl) | rfl) ?_
      | refine st_seq_draw rfl (by first | (simp only [go_sem, List.length_map, decide_true]; rfl) | rfl) (by first | (simp only [go_sem, List.length_map, decide_true]; rfl) | rfl) ?_
      | refine st_draw rfl (by first | (simp only [go_sem, List.length_map, decide_true]; rfl) | rfl) (by first | (simp only [go_sem, List.length_map, decide_true]; rfl) | rfl) ?_
      | refine st_op ?_
      | refine st_det rfl (by simp (disch := omega) only [go_sem, wr_i64, if_yes, if_no, ↓reduceIte, Nat.reduceAdd, Nat.reduceMul, Nat.reduceEqDiff, Nat.reduceBEq, Nat.reduceLeDiff, List.length_map, decide_true]; rfl) ?_
      | refine st_dop rfl ?_
      | refine st_loc rfl (by simp (disch := omega) only [go_sem, wr_i64, if_yes, if_no, ↓reduceIte, Nat.reduceAdd, Nat.reduceMul, Nat.reduceEqDiff, Nat.reduceBEq, Nat.reduceLeDiff, List.length_map, decide_true]; rfl) ?_
      | refine st_heap rfl (by simp (disch := omega) only [go_sem, wr_i64, if_yes, if_no, ↓reduceIte, Nat.reduceAdd, Nat.reduceMul, Nat.reduceEqDiff, Nat.reduceBEq, Nat.reduceLeDiff, List.length_map, decide_true]; rfl) ?_
      | refine st_store (by simp (disch := omega) only [go_sem, wr_i64, if_yes, if_no, ↓reduceIte, Nat.reduceAdd, Nat.reduceMul, Nat.reduceEqDiff, Nat.reduceBEq, Nat.reduceLeDiff, List.length_map, decide_true]; rfl) ?_
      | refine st_append (by simp (disch := omega) only [go_sem, wr_i64, if_yes, if_no, ↓reduceIte, Nat.reduceAdd, Nat.reduceMul, Nat.reduceEqDiff, Nat.reduceBEq, Nat.reduceLeDiff, List.length_map, decide_true]; rfl) ?_
      | refine st_gT rfl rfl rfl ?_
      | refine st_gF rfl rfl rfl ?_
      | refine st_dgT rfl rfl rfl rfl ?_
      | refine st_dgF rfl rfl rfl ?_
      | (refine st_gS rfl rfl ?_ ?_ <;> intro hg <;> (try simp only [decide_eq_true_eq, decide_eq_false_iff_not, Bool.not_eq_true', Bool.not_eq_false'] at hg))
      | (refine st_dgS rfl rfl ?_ ?_ <;> intro hg <;> (try simp only [decide_eq_true_eq, decide_eq_false_iff_not, Bool.not_eq_true', Bool.not_eq_false'] at hg))
      | refine st_condT rfl ?_
      | refine st_condF rfl ?_
      | (refine st_condS rfl ?_ ?_ <;> intro hg <;> (try simp only [decide_eq_true_eq, decide_eq_false_iff_not, Bool.not_eq_true', Bool.not_eq_false'] at hg))
      | refine st_nil ?_
      | refine st_dnil ?_
      | refine st_tN ?_
      | refine st_seq ?_
      | refine st_block ?_
      | refine st_skip ?_
      | refine st_exit ?_
      | refine st_ret ?_
      | refine st_tE ?_
      | refine st_tR ?_
      | refine st_bN ?_
      | refine st_bR ?_
      | refine st_bH ?_
      | refine st_bM rfl ?_)
  refine st_loopC (α := Nat) tab mixed [] [] (by repeat (first | exact trivial | refine ⟨rfl, ?_⟩)) [] [] (by repeat (first | exact trivial | refine ⟨rfl, ?_⟩)) (fun i => [(6, .int .i64 (i : Nat)), (5, .bool true)]) [(0, _), (1, _)] (fun _ => []) [] (fun i => i ≤ L.length) (fun i => L.length - i) (by decide) 0 (Nat.zero_le _) (by (try simp only [go_sem]); repeat' (first | exact trivial | refine And.intro ?_ ?_ | rfl | (simp (disch := omega) only [go_sem, if_yes, if_no, ↓reduceIte, Nat.reduceAdd, Nat.reduceMul, Nat.reduceEqDiff, Nat.reduceBEq, Nat.reduceLeDiff]; rfl) | (simp (disch := omega) only [go_sem, if_yes, if_no, ↓reduceIte, Nat.reduceAdd, Nat.reduceMul, Nat.reduceEqDiff, Nat.reduceBEq, Nat.reduceLeDiff]))) (by (try simp only [go_sem]); repeat' (first | exact trivial | refine And.intro ?_ ?_ | rfl | (simp (disch := omega) only [go_sem, if_yes, if_no, ↓reduceIte, Nat.reduceAdd, Nat.reduceMul, Nat.reduceEqDiff, Nat.reduceBEq, Nat.reduceLeDiff]; rfl) | (simp (disch := omega) only [go_sem, if_yes, if_no, ↓reduceIte, Nat.reduceAdd, Nat.reduceMul, Nat.reduceEqDiff, Nat.reduceBEq, Nat.reduceLeDiff]))) (by first | (simp only [go_sem]; rfl) | rfl) (by intro n; simp only [go_sem]; rfl) ?_
  intro i c i1 hc
  simp only [go_sem]
  repeat' (first
      | refine st_seq_reg rfl (by first | (simp only [go_sem, List.length_map, nr_getD]; rfl) | rfl) (by first | (simp only [go_sem, List.length_map, nr_getD]; rfl) | rfl) ?_
      | refine st_reg rfl (by first | (simp only [go_sem, List.length_map, nr_getD]; rfl) | rfl) (by first | (simp only [go_sem, List.length_map, nr_getD]; rfl) | rfl) ?_
      | refine st_seq_draw rfl (by first | (simp only [go_sem, List.length_map, nr_getD]; rfl) | rfl) (by first | (simp only [go_sem, List.length_map, nr_getD]; rfl) | rfl) ?_
      | refine st_draw rfl (by first | (simp only [go_sem, List.length_map, nr_getD]; rfl) | rfl) (by first | (simp only [go_sem, List.length_map, nr_getD]; rfl) | rfl) ?_
      | refine st_op ?_
      | refine st_det rfl (by simp (disch := omega) only [go_sem, wr_i64, if_yes, if_no, ↓reduceIte, Nat.reduceAdd, Nat.reduceMul, Nat.reduceEqDiff, Nat.reduceBEq, Nat.reduceLeDiff, List.length_map, nr_getD]; rfl) ?_
      | refine st_dop rfl ?_
      | refine st_loc rfl (by simp (disch := omega) only [go_sem, wr_i64, if_yes, if_no, ↓reduceIte, Nat.reduceAdd, Nat.reduceMul, Nat.reduceEqDiff, Nat.reduceBEq, Nat.reduceLeDiff, List.length_map, nr_getD]; rfl) ?_
      | refine st_heap rfl (by simp (disch := omega) only [go_sem, wr_i64, if_yes, if_no, ↓reduceIte, Nat.reduceAdd, Nat.reduceMul, Nat.reduceEqDiff, Nat.reduceBEq, Nat.reduceLeDiff, List.length_map, nr_getD]; rfl) ?_
      | refine st_store (by simp (disch := omega) only [go_sem, wr_i64, if_yes, if_no, ↓reduceIte, Nat.reduceAdd, Nat.reduceMul, Nat.reduceEqDiff, Nat.reduceBEq, Nat.reduceLeDiff, List.length_map, nr_getD]; rfl) ?_
      | refine st_append (by simp (disch := omega) only [go_sem, wr_i64, if_yes, if_no, ↓reduceIte, Nat.reduceAdd, Nat.reduceMul, Nat.reduceEqDiff, Nat.reduceBEq, Nat.reduceLeDiff, List.length_map, nr_getD]; rfl) ?_
      | refine st_gT rfl rfl rfl ?_
      | refine st_gF rfl rfl rfl ?_
      | refine st_dgT rfl rfl rfl rfl ?_
      | refine st_dgF rfl rfl rfl ?_
      | (refine st_gS rfl rfl ?_ ?_ <;> intro hg <;> (try simp only [decide_eq_true_eq, decide_eq_false_iff_not, Bool.not_eq_true', Bool.not_eq_false'] at hg))
      | (refine st_dgS rfl rfl ?_ ?_ <;> intro hg <;> (try simp only [decide_eq_true_eq, decide_eq_false_iff_not, Bool.not_eq_true', Bool.not_eq_false'] at hg))
      | refine st_condT rfl ?_
      | refine st_condF rfl ?_
      | (refine st_condS rfl ?_ ?_ <;> intro hg <;> (try simp only [decide_eq_true_eq, decide_eq_false_iff_not, Bool.not_eq_true', Bool.not_eq_false'] at hg))
      | refine st_nil ?_
      | refine st_dnil ?_
      | refine st_tN ?_
      | refine st_seq ?_
      | refine st_block ?_
      | refine st_skip ?_
      | refine st_exit ?_
      | refine st_ret ?_
      | refine st_tE ?_
      | refine st_tR ?_
      | refine st_bN ?_
      | refine st_bR ?_
      | refine st_bH ?_
      | refine st_bM rfl ?_)
  · refine ⟨i + 1, (by omega), by omega, (by repeat' (first | exact trivial | refine And.intro ?_ ?_ | rfl | (simp (disch := omega) only [go_sem, if_yes, if_no, ↓reduceIte, Nat.reduceAdd, Nat.reduceMul, Nat.reduceEqDiff, Nat.reduceBEq, Nat.reduceLeDiff]; rfl) | (simp (disch := omega) only [go_sem, if_yes, if_no, ↓reduceIte, Nat.reduceAdd, Nat.reduceMul, Nat.reduceEqDiff, Nat.reduceBEq, Nat.reduceLeDiff]))), (by repeat' (first | exact trivial | refine And.intro ?_ ?_ | rfl | (simp (disch := omega) only [go_sem, if_yes, if_no, ↓reduceIte, Nat.reduceAdd, Nat.reduceMul, Nat.reduceEqDiff, Nat.reduceBEq, Nat.reduceLeDiff]; rfl) | (simp (disch := omega) only [go_sem, if_yes, if_no, ↓reduceIte, Nat.reduceAdd, Nat.reduceMul, Nat.reduceEqDiff, Nat.reduceBEq, Nat.reduceLeDiff]))), rfl, HOld.of _ (by omega)⟩
  · simp (disch := omega) only [AEnd, Try.results68, aresK, fin, go_sem, ↓reduceIte, Nat.reduceEqDiff, Nat.reduceAdd, Nat.reduceLeDiff, if_yes, if_no, implies_true, true_and, and_true, List.reverse_cons, List.reverse_nil]
theorem fireL_len (f : Fl) (ap : Int) : (fireL f ap).length ≤ 1000 := by
  unfold fireL
  split
  · rename_i h
    have h0 : chkE f = 0 := by unfold fireE at h; split at h <;> omega
    have hl := (chkOk h0).loads.1
    have := nearUp_len (ap := ap) hl f.loads.length
    omega
  · simp
theorem law12 (fx : Fl) (p : Int) (l : List Int) (hfx : (fx.loads.length : Int) ≤ 9223372036854775807) (hp : -9223372036854775808 ≤ p ∧ p ≤ 9223372036854775807) (hl : (l.length : Int) ≤ 9223372036854775807) (h : AH) :
    ACalls Try.prog 12 [fx.av, .int .i64 p, .lst 1 (l.map iv)] h (fun v _ => v = .bool true) := by
  refine ACalls.of tab mixed Try.call12 Try.func12 rfl (fi := ⟨95, [8, 12], [3, 31, 36], none, [(5, [0, 0, 0, 7, 0, 0, 32, 0, 240, 111, 1023], [(0, true), (1, true), (2, true), (3, false), (4, false), (5, false), (7, false), (6, false), (8, false), (9, false), (10, false)]), (10, [0, 0, 0, 6, 14, 31, 63, 127, 127, 127, 255, 1535, 4095], [(0, true), (1, false), (2, false), (3, false), (4, true), (5, false), (6, false), (7, false), (8, false), (9, false), (10, false), (11, false), (12, false)]), (11, [0, 0, 3, 7, 0, 0, 48, 112, 255, 511, 1023, 1023, 1023, 2047, 12287, 32767], [(0, false), (1, false), (2, false), (3, true), (4, false), (5, false), (6, false), (7, true), (8, false), (9, false), (10, false), (11, false), (12, false), (13, false), (14, false), (15, false)]), (12, [0, 0, 3, 7, 15, 15, 63, 127, 255, 511, 511, 2047, 4095, 8191, 16383, 32767, 32767, 32767, 229375, 491519, 1048575, 2097151, 4194303], [(0, false), (1, false), (2, false), (3, false), (4, false), (5, false), (6, false), (7, false), (8, false), (9, false), (10, false), (11, false), (12, false), (13, false), (14, false), (15, true), (16, false), (17, false), (18, false), (19, true), (20, false), (21, false), (22, false)])]⟩) rfl rfl (Nat.le_of_ble_eq_true rfl) (by decide) ?_
  unfold startA
  simp only [go_sem]
  repeat' (first
      | refine st_seq_reg rfl (by first | (simp only [go_sem, List.length_map]; rfl) | rfl) (by first | (simp only [go_sem, List.length_map]; rfl) | rfl) ?_
      | refine st_reg rfl (by first | (simp only [go_sem, List.length_map]; rfl) | rfl) (by first | (simp only [go_sem, List.length_map]; rfl) | rfl) ?_
      | refine st_seq_draw rfl (by first | (simp only [go_sem, List.length_map]; rfl) | rfl) (by first | (simp only [go_sem, List.length_map]; rfl) | rfl) ?_
      | refine st_draw rfl (by first | (simp only [go_sem, List.length_map]; rfl) | rfl) (by first | (simp only [go_sem, List.length_map]; rfl) | rfl) ?_
      | refine st_op ?_
      | refine st_det rfl (by simp (disch := omega) only [go_sem, wr_i64, if_yes, if_no, ↓reduceIte, Nat.reduceAdd, Nat.reduceMul, Nat.reduceEqDiff, Nat.reduceBEq, Nat.reduceLeDiff, List.length_map]; rfl) ?_
      | refine st_dop rfl ?_
      | refine st_loc rfl (by simp (disch := omega) only [go_sem, wr_i64, if_yes, if_no, ↓reduceIte, Nat.reduceAdd, Nat.reduceMul, Nat.reduceEqDiff, Nat.reduceBEq, Nat.reduceLeDiff, List.length_map]; rfl) ?_
      | refine st_heap rfl (by simp (disch := omega) only [go_sem, wr_i64, if_yes, if_no, ↓reduceIte, Nat.reduceAdd, Nat.reduceMul, Nat.reduceEqDiff, Nat.reduceBEq, Nat.reduceLeDiff, List.length_map]; rfl) ?_
      | refine st_store (by simp (disch := omega) only [go_sem, wr_i64, if_yes, if_no, ↓reduceIte, Nat.reduceAdd, Nat.reduceMul, Nat.reduceEqDiff, Nat.reduceBEq, Nat.reduceLeDiff, List.length_map]; rfl) ?_
      | refine st_append (by simp (disch := omega) only [go_sem, wr_i64, if_yes, if_no, ↓reduceIte, Nat.reduceAdd, Nat.reduceMul, Nat.reduceEqDiff, Nat.reduceBEq, Nat.reduceLeDiff, List.length_map]; rfl) ?_
      | (refine st_pureE (by first | (simp (disch := omega) only [go_sem, List.length_map]; rfl) | rfl) rfl (c21) (by first | (simp only [go_sem, List.length_map]; rfl) | rfl) (by intro n; simp (disch := omega) only [go_sem]; rfl) ?_; intro n hn)
      | (refine st_callf rfl rfl (c14 l hl _) ?_; rintro v h' ⟨b, x, n, rfl, hb1, hb2, hu0, rfl⟩)
      | (refine st_drum (by first | (simp (disch := omega) only [go_sem, List.length_map]; rfl) | rfl) rfl (c15 b 8 (by omega)) (by first | (simp (disch := omega) only [go_sem, List.length_map]; rfl) | rfl) (by assumption) (by first | (simp only [go_sem, List.length_map]; rfl) | rfl) (by intro x' n; simp (disch := omega) only [go_sem]; rfl) ?_; rintro v x' n hu' ⟨f, rfl, hf⟩ hn)
      | (refine st_drum (by first | (simp (disch := omega) only [go_sem, List.length_map]; rfl) | rfl) rfl (c17' b 400 (by omega)) (by first | (simp (disch := omega) only [go_sem, List.length_map]; rfl) | rfl) (by assumption) (by first | (simp only [go_sem, List.length_map]; rfl) | rfl) (by intro x' n; simp (disch := omega) only [go_sem]; rfl) ?_; rintro v x' n hu' ⟨q, rfl, hq⟩ hn)
      | refine st_gT rfl rfl rfl ?_
      | refine st_gF rfl rfl rfl ?_
      | refine st_dgT rfl rfl rfl rfl ?_
      | refine st_dgF rfl rfl rfl ?_
      | (refine st_gS rfl rfl ?_ ?_ <;> intro hg <;> (try simp only [decide_eq_true_eq, decide_eq_false_iff_not, Bool.not_eq_true', Bool.not_eq_false'] at hg))
      | (refine st_dgS rfl rfl ?_ ?_ <;> intro hg <;> (try simp only [decide_eq_true_eq, decide_eq_false_iff_not, Bool.not_eq_true', Bool.not_eq_false'] at hg))
      | refine st_condT rfl ?_
      | refine st_condF rfl ?_
      | (refine st_condS rfl ?_ ?_ <;> intro hg <;> (try simp only [decide_eq_true_eq, decide_eq_false_iff_not, Bool.not_eq_true', Bool.not_eq_false'] at hg))
      | refine st_nil ?_
      | refine st_dnil ?_
      | refine st_tN ?_
      | refine st_seq ?_
      | refine st_block ?_
      | refine st_skip ?_
      | refine st_exit ?_
      | refine st_ret ?_
      | refine st_tE ?_
      | refine st_tR ?_
      | refine st_bN ?_
      | refine st_bR ?_
      | refine st_bH ?_
      | refine st_bM rfl ?_)
  · simp (disch := omega) only [AEnd, Try.results12, aresK, fin, go_sem, ↓reduceIte, Nat.reduceEqDiff, Nat.reduceAdd, Nat.reduceLeDiff, if_yes, if_no, implies_true, true_and, and_true, List.reverse_cons, List.reverse_nil]
  have hk : ([[.int .i64 fx.len, .int .i64 fx.wid, .int .i64 fx.front, .int .i64 fx.rear, .int .i64 fx.turn, .int .i64 fx.kilos, .int .i64 fx.mid, .int .i64 fx.high, .lst 7 (fx.loads.map Ld.row)], [.int .i64 f.len, .int .i64 f.wid, .int .i64 f.front, .int .i64 f.rear, .int .i64 f.turn, .int .i64 f.kilos, .int .i64 f.mid, .int .i64 f.high, .lst 7 (f.loads.map Ld.row)], [.int .i64 f.len, .int .i64 f.wid, .int .i64 f.front, .int .i64 f.rear, .int .i64 f.turn, .int .i64 f.kilos, .int .i64 f.mid, .int .i64 f.high, .lst 7 (f.loads.map Ld.row)]] : List (List AV)) = ([fx, f, f] : List Fl).map flc := rfl
  have hk3 : ([[.int .i64 p], [.int .i64 q], [.int .i64 p]] : List (List AV)) = ([p, q, p] : List Int).map iv := rfl
  rw [hk, hk3]
  have hks : ∀ g ∈ ([fx, f, f] : List Fl), g.loads.length ≤ 1000 := by
    have := hf.many
    intro g hg
    simp only [List.mem_cons, List.not_mem_nil, or_false] at hg
    rcases hg with rfl | rfl | rfl <;> omega
  clear hk hk3
  have hkl : ([fx, f, f] : List Fl).length = 3 := rfl
  have hkl3 : ([p, q, p] : List Int).length = 3 := rfl
  generalize ([fx, f, f] : List Fl) = fs at hks hkl ⊢
  generalize ([p, q, p] : List Int) = ps at hkl3 ⊢
  have hGl : ∀ i, i < fs.length → (gl fs i).loads.length ≤ 1000 := fun i hi => hks _ (gl_mem hi)
  refine st_loopC (α := Nat) tab mixed [] [] (by repeat (first | exact trivial | refine ⟨rfl, ?_⟩)) [] [] (by repeat (first | exact trivial | refine ⟨rfl, ?_⟩)) (fun i => [(11, .int .i64 (i : Nat))]) [(9, _), (10, _)] (fun _ => []) [] (fun i => i ≤ fs.length) (fun i => fs.length - i) (by decide) 0 (Nat.zero_le _) (by (try simp only [go_sem]); repeat' (first | exact trivial | refine And.intro ?_ ?_ | rfl | (simp (disch := omega) only [go_sem, if_yes, if_no, ↓reduceIte, Nat.reduceAdd, Nat.reduceMul, Nat.reduceEqDiff, Nat.reduceBEq, Nat.reduceLeDiff]; rfl) | (simp (disch := omega) only [go_sem, if_yes, if_no, ↓reduceIte, Nat.reduceAdd, Nat.reduceMul, Nat.reduceEqDiff, Nat.reduceBEq, Nat.reduceLeDiff]))) (by (try simp only [go_sem]); repeat' (first | exact trivial | refine And.intro ?_ ?_ | rfl | (simp (disch := omega) only [go_sem, if_yes, if_no, ↓reduceIte, Nat.reduceAdd, Nat.reduceMul, Nat.reduceEqDiff, Nat.reduceBEq, Nat.reduceLeDiff]; rfl) | (simp (disch := omega) only [go_sem, if_yes, if_no, ↓reduceIte, Nat.reduceAdd, Nat.reduceMul, Nat.reduceEqDiff, Nat.reduceBEq, Nat.reduceLeDiff]))) (by first | (simp only [go_sem]; rfl) | rfl) (by intro n; simp only [go_sem]; rfl) ?_
  intro i c i1 hc
  simp only [go_sem]
  repeat' (first
      | refine st_seq_reg rfl (by first | (simp only [go_sem, List.length_map, gl_getD, hkl, hkl3]; rfl) | rfl) (by first | (simp only [go_sem, List.length_map, gl_getD, hkl, hkl3]; rfl) | rfl) ?_
      | refine st_reg rfl (by first | (simp only [go_sem, List.length_map, gl_getD, hkl, hkl3]; rfl) | rfl) (by first | (simp only [go_sem, List.length_map, gl_getD, hkl, hkl3]; rfl) | rfl) ?_
      | refine st_seq_draw rfl (by first | (simp only [go_sem, List.length_map, gl_getD, hkl, hkl3]; rfl) | rfl) (by first | (simp only [go_sem, List.length_map, gl_getD, hkl, hkl3]; rfl) | rfl) ?_
      | refine st_draw rfl (by first | (simp only [go_sem, List.length_map, gl_getD, hkl, hkl3]; rfl) | rfl) (by first | (simp only [go_sem, List.length_map, gl_getD, hkl, hkl3]; rfl) | rfl) ?_
      | refine st_op ?_
      | refine st_det rfl (by simp (disch := omega) only [go_sem, wr_i64, if_yes, if_no, ↓reduceIte, Nat.reduceAdd, Nat.reduceMul, Nat.reduceEqDiff, Nat.reduceBEq, Nat.reduceLeDiff, List.length_map, gl_getD, hkl, hkl3]; rfl) ?_
      | refine st_dop rfl ?_
      | refine st_loc rfl (by simp (disch := omega) only [go_sem, wr_i64, if_yes, if_no, ↓reduceIte, Nat.reduceAdd, Nat.reduceMul, Nat.reduceEqDiff, Nat.reduceBEq, Nat.reduceLeDiff, List.length_map, gl_getD, hkl, hkl3]; rfl) ?_
      | refine st_heap rfl (by simp (disch := omega) only [go_sem, wr_i64, if_yes, if_no, ↓reduceIte, Nat.reduceAdd, Nat.reduceMul, Nat.reduceEqDiff, Nat.reduceBEq, Nat.reduceLeDiff, List.length_map, gl_getD, hkl, hkl3]; rfl) ?_
      | refine st_store (by simp (disch := omega) only [go_sem, wr_i64, if_yes, if_no, ↓reduceIte, Nat.reduceAdd, Nat.reduceMul, Nat.reduceEqDiff, Nat.reduceBEq, Nat.reduceLeDiff, List.length_map, gl_getD, hkl, hkl3]; rfl) ?_
      | refine st_append (by simp (disch := omega) only [go_sem, wr_i64, if_yes, if_no, ↓reduceIte, Nat.reduceAdd, Nat.reduceMul, Nat.reduceEqDiff, Nat.reduceBEq, Nat.reduceLeDiff, List.length_map, gl_getD, hkl, hkl3]; rfl) ?_
      | (refine st_pureE (by first | (simp (disch := omega) only [go_sem, List.length_map, gl_getD, hkl, hkl3]; rfl) | rfl) rfl (c24p (gl fs i) (hGl i (by omega))) (by first | (simp only [go_sem, List.length_map, gl_getD, hkl, hkl3]; rfl) | rfl) (by intro n; simp (disch := omega) only [go_sem]; rfl) ?_; intro n hn)
      | (refine st_pureE (by first | (simp (disch := omega) only [go_sem, List.length_map, gl_getD, hkl, hkl3]; rfl) | rfl) rfl (c66 (gl fs i) (ps.getD i 0)) (by first | (simp only [go_sem, List.length_map, gl_getD, hkl, hkl3]; rfl) | rfl) (by intro n; simp (disch := omega) only [go_sem]; rfl) ?_; intro n hn)
      | (refine st_pureE (by first | (simp (disch := omega) only [go_sem, List.length_map, gl_getD, hkl, hkl3]; rfl) | rfl) rfl (c67 (gl fs i) (ps.getD i 0)) (by first | (simp only [go_sem, List.length_map, gl_getD, hkl, hkl3]; rfl) | rfl) (by intro n; simp (disch := omega) only [go_sem]; rfl) ?_; intro n hn)
      | (refine st_pureE (by first | (simp (disch := omega) only [go_sem, List.length_map, gl_getD, hkl, hkl3]; rfl) | rfl) rfl (c68s (fireL (gl fs i) (ps.getD i 0)) (fireL_len _ _)) (by first | (simp only [go_sem, List.length_map, gl_getD, hkl, hkl3]; rfl) | rfl) (by intro n; simp (disch := omega) only [go_sem]; rfl) ?_; intro n hn)
      | (refine st_pureE (by first | (simp (disch := omega) only [go_sem, List.length_map, gl_getD, hkl, hkl3]; rfl) | rfl) rfl (c33s (gl fs i) (hGl i (by omega))) (by first | (simp only [go_sem, List.length_map, gl_getD, hkl, hkl3]; rfl) | rfl) (by intro n; simp (disch := omega) only [go_sem]; rfl) ?_; intro n hn)
      | (refine st_pureE (by first | (simp (disch := omega) only [go_sem, List.length_map, gl_getD, hkl, hkl3]; rfl) | rfl) rfl (c21) (by first | (simp only [go_sem, List.length_map, gl_getD, hkl, hkl3]; rfl) | rfl) (by intro n; simp (disch := omega) only [go_sem]; rfl) ?_; intro n hn)
      | refine st_gT rfl rfl rfl ?_
      | refine st_gF rfl rfl rfl ?_
      | refine st_dgT rfl rfl rfl rfl ?_
      | refine st_dgF rfl rfl rfl ?_
      | (refine st_gS rfl rfl ?_ ?_ <;> intro hg <;> (try simp only [decide_eq_true_eq, decide_eq_false_iff_not, Bool.not_eq_true', Bool.not_eq_false'] at hg))
      | (refine st_dgS rfl rfl ?_ ?_ <;> intro hg <;> (try simp only [decide_eq_true_eq, decide_eq_false_iff_not, Bool.not_eq_true', Bool.not_eq_false'] at hg))
      | refine st_condT rfl ?_
      | refine st_condF rfl ?_
      | (refine st_condS rfl ?_ ?_ <;> intro hg <;> (try simp only [decide_eq_true_eq, decide_eq_false_iff_not, Bool.not_eq_true', Bool.not_eq_false'] at hg))
      | refine st_nil ?_
      | refine st_dnil ?_
      | refine st_tN ?_
      | refine st_seq ?_
      | refine st_block ?_
      | refine st_skip ?_
      | refine st_exit ?_
      | refine st_ret ?_
      | refine st_tE ?_
      | refine st_tR ?_
      | refine st_bN ?_
      | refine st_bR ?_
      | refine st_bH ?_
      | refine st_bM rfl ?_)
  · refine ⟨i + 1, by show i + 1 ≤ fs.length; omega, by show fs.length - (i + 1) < fs.length - i; omega, (by repeat' (first | exact trivial | refine And.intro ?_ ?_ | rfl | (simp (disch := omega) only [go_sem, if_yes, if_no, ↓reduceIte, Nat.reduceAdd, Nat.reduceMul, Nat.reduceEqDiff, Nat.reduceBEq, Nat.reduceLeDiff]; rfl) | (simp (disch := omega) only [go_sem, if_yes, if_no, ↓reduceIte, Nat.reduceAdd, Nat.reduceMul, Nat.reduceEqDiff, Nat.reduceBEq, Nat.reduceLeDiff]))), (by repeat' (first | exact trivial | refine And.intro ?_ ?_ | rfl | (simp (disch := omega) only [go_sem, if_yes, if_no, ↓reduceIte, Nat.reduceAdd, Nat.reduceMul, Nat.reduceEqDiff, Nat.reduceBEq, Nat.reduceLeDiff]; rfl) | (simp (disch := omega) only [go_sem, if_yes, if_no, ↓reduceIte, Nat.reduceAdd, Nat.reduceMul, Nat.reduceEqDiff, Nat.reduceBEq, Nat.reduceLeDiff]))), rfl, ⟨fun _ _ e => e, fun _ _ e => e, by simp only [go_sem]; omega⟩⟩
  · simp (disch := omega) only [AEnd, Try.results12, aresK, fin, go_sem, ↓reduceIte, Nat.reduceEqDiff, Nat.reduceAdd, Nat.reduceLeDiff, if_yes, if_no, implies_true, true_and, and_true, List.reverse_cons, List.reverse_nil]
end Go.Proofs.Ytkjpceapflhmnaa
