/- Contracts of functions that the claim reaches: what each call gives, told in our own logic. Conditions: those of each theorem. -/
import Derived.Test.YtkjpceapflhmnaaF36
set_option linter.all false
set_option linter.unusedSimpArgs false
set_option linter.unusedVariables false
namespace Go.Proofs.Ytkjpceapflhmnaa
open Go.Av
attribute [local irreducible] thenA blockA awp awpOps awpD awp1
set_option maxHeartbeats 8000000
set_option maxRecDepth 20000
@[go_sem] theorem Fl.own_eq (f : Fl) (bb : Nat × Nat) (n : Nat) : f.own bb n = .agg [.int .i64 f.len, .int .i64 f.wid, .int .i64 f.front, .int .i64 f.rear, .int .i64 f.turn, .int .i64 f.kilos, .int .i64 f.mid, .int .i64 f.high, .slc bb 7 0 n] := rfl
theorem c38g (f : Fl) (h0 : chkE f = 0) : Pure Try.prog 38 [f.av] (fun v => v = .tup [.agg [.int .i64 (downI (wL (frontA f) f 0 0) (f.rear - f.front)), .int .i64 (upI (wH (frontA f) f 0 0) (f.rear - f.front))],
    .agg [.int .i64 (downI (wL (rearA f) f 0 0) (f.rear - f.front)), .int .i64 (upI (wH (rearA f) f 0 0) (f.rear - f.front))], .int .i64 0]) := by
  have h := c38 f
  unfold axV at h
  rw [if_neg (by omega)] at h; exact h
/-- What the loop that narrows keeps. -/
structure NS where
  i : Nat
  x : Int
  t : Nat
  ys : List Ld
def NS.hp (h : AH) (b bb : Nat × Nat) (a : NS) : AH := ((h.tick a.t).put b (dr a.x)).put bb (some ⟨7, a.ys.map Ld.row⟩)
theorem ld_setR {l : List Ld} {j : Nat} (a lo hi tlo thi k w : Int) : (l.map Ld.row).set j [.int .i64 a, .int .i64 lo, .int .i64 hi, .int .i64 tlo, .int .i64 thi, .int .i64 k, .int .i64 w] = (l.set j ⟨a, lo, hi, tlo, thi, k, w⟩).map Ld.row := by rw [List.map_set]; rfl
theorem ld_setS {l : List Ld} {j : Nat} {z : Ld} (h : j < l.length) : ((l.set j z).map Ld.row).getD j [] = z.row := by
  rw [lrow_getD (by simpa using h)]
  congr 1
  unfold ld
  simp [List.getD_eq_getElem?_getD, h]
theorem ld_set_eq {l : List Ld} {j : Nat} {z : Ld} (h : j < l.length) : ld (l.set j z) j = z := by
  unfold ld; simp [List.getD_eq_getElem?_getD, h]
theorem ld_set_ne {l : List Ld} {i j : Nat} {z : Ld} (h : ¬ j = i) : ld (l.set i z) j = ld l j := by
  unfold ld; simp only [List.getD_eq_getElem?_getD]; rw [List.getElem?_set_ne (fun e => h e.symm)]
theorem set_setL {α : Type} (l : List α) (i : Nat) (x y : α) : (l.set i x).set i y = l.set i y := List.set_set ..
theorem hold6 {h : AH} {m : Nat} {b bb : Nat × Nat} {d d' k k' : Option Blk} (hbb : ¬ bb = b) : HOld (((h.tick m).put b d').put bb k') (((((h.tick m).put b d).put bb k).put b d').put bb k') := by
  refine ⟨fun z k2 hz => ?_, fun _ _ e => e, Nat.le_refl _⟩
  simp only [AH.put, upd_apply, AH.tick] at hz ⊢
  by_cases e : z = bb
  · simpa [e] using hz
  · by_cases e2 : z = b
    · simpa [e, e2] using hz
    · simpa [e, e2] using hz
theorem law6 (l : List Int) (hl : (l.length : Int) ≤ 9223372036854775807) (h : AH) : ACalls Try.prog 6 [.lst 1 (l.map iv)] h (fun v _ => v = .bool true) := by
  refine ACalls.old Try.call6 fun hall => ?_
  refine ACalls.ofS tab Try.call6 Try.func6 rfl (fi := ⟨204, [4, 6, 8, 10, 12, 13, 15, 16], [], none, [(8, [0, 1, 0, 0, 8, 0, 0, 0, 128, 0, 896, 1920, 3968, 8128, 0, 0, 32768, 0, 229376, 491520, 1015808, 2097088, 4194247, 8388551, 16777159, 33554431, 67108863, 134217727], [(0, false), (1, true), (2, false), (3, false), (4, true), (5, false), (6, false), (7, false), (8, true), (9, false), (10, false), (11, false), (12, true), (14, false), (15, false), (16, true), (17, false), (18, false), (19, false), (20, true), (13, false), (21, false), (22, false), (23, false), (24, true), (25, false), (26, false), (27, true)]), (22, [0, 0, 3, 7, 15, 31, 63, 63, 255, 511, 63, 63, 3135, 7231, 16383, 32767], [(0, false), (1, false), (2, false), (3, true), (4, false), (5, false), (6, false), (7, false), (8, false), (9, true), (10, false), (11, false), (12, false), (13, true), (14, false), (15, false)])]⟩) rfl rfl (Nat.le_of_ble_eq_true rfl) ?_
  unfold startA
  refine asem_seq (fi := ⟨204, [4, 6, 8, 10, 12, 13, 15, 16], [], none, [(8, [0, 1, 0, 0, 8, 0, 0, 0, 128, 0, 896, 1920, 3968, 8128, 0, 0, 32768, 0, 229376, 491520, 1015808, 2097088, 4194247, 8388551, 16777159, 33554431, 67108863, 134217727], [(0, false), (1, true), (2, false), (3, false), (4, true), (5, false), (6, false), (7, false), (8, true), (9, false), (10, false), (11, false), (12, true), (14, false), (15, false), (16, true), (17, false), (18, false), (19, false), (20, true), (13, false), (21, false), (22, false), (23, false), (24, true), (25, false), (26, false), (27, true)]), (22, [0, 0, 3, 7, 15, 31, 63, 63, 255, 511, 63, 63, 3135, 7231, 16383, 32767], [(0, false), (1, false), (2, false), (3, true), (4, false), (5, false), (6, false), (7, false), (8, false), (9, true), (10, false), (11, false), (12, false), (13, true), (14, false), (15, false)])]⟩) tab mixed (by decide) ?_
  repeat' (first
      | refine st_seq_reg rfl (by first | (simp only [go_sem]; rfl) | rfl) (by first | (simp only [go_sem]; rfl) | rfl) ?_
      | refine st_reg rfl (by first | (simp only [go_sem]; rfl) | rfl) (by first | (simp only [go_sem]; rfl) | rfl) ?_
      | refine st_seq_draw rfl (by first | (simp only [go_sem]; rfl) | rfl) (by first | (simp only [go_sem]; rfl) | rfl) ?_
      | refine st_draw rfl (by first | (simp only [go_sem]; rfl) | rfl) (by first | (simp only [go_sem]; rfl) | rfl) ?_
      | refine st_op ?_
      | refine st_det rfl (by simp (disch := omega) only [go_sem, wr_i64, if_yes, if_no, ↓reduceIte, Nat.reduceAdd, Nat.reduceMul, Nat.reduceEqDiff, Nat.reduceBEq, Nat.reduceLeDiff]; rfl) ?_
      | refine st_dop rfl ?_
      | refine st_loc rfl (by simp (disch := omega) only [go_sem, wr_i64, if_yes, if_no, ↓reduceIte, Nat.reduceAdd, Nat.reduceMul, Nat.reduceEqDiff, Nat.reduceBEq, Nat.reduceLeDiff]; rfl) ?_
      | refine st_heap rfl (by simp (disch := omega) only [go_sem, wr_i64, if_yes, if_no, ↓reduceIte, Nat.reduceAdd, Nat.reduceMul, Nat.reduceEqDiff, Nat.reduceBEq, Nat.reduceLeDiff]; rfl) ?_
      | refine st_store (by simp (disch := omega) only [go_sem, wr_i64, if_yes, if_no, ↓reduceIte, Nat.reduceAdd, Nat.reduceMul, Nat.reduceEqDiff, Nat.reduceBEq, Nat.reduceLeDiff]; rfl) ?_
      | refine st_append (by simp (disch := omega) only [go_sem, wr_i64, if_yes, if_no, ↓reduceIte, Nat.reduceAdd, Nat.reduceMul, Nat.reduceEqDiff, Nat.reduceBEq, Nat.reduceLeDiff]; rfl) ?_
      | refine st_gT rfl rfl rfl ?_
      | refine st_gF rfl rfl rfl ?_
      | refine st_dgT rfl rfl rfl rfl ?_
      | refine st_dgF rfl rfl rfl ?_
      | (refine st_gS rfl rfl ?_ ?_ <;> intro hg <;> (try simp only [decide_eq_true_eq, decide_eq_false_iff_not, Bool.not_eq_true', Bool.not_eq_false'] at hg))
      | (refine st_dgS rfl rfl ?_ ?_ <;> intro hg <;> (try simp only [decide_eq_true_eq, decide_eq_false_iff_not, Bool.not_eq_true', Bool.not_eq_false'] at hg))
      | refine st_condT rfl ?_
      | refine st_condF rfl ?_
      | (refine st_condS rfl ?_ ?_ <;> intro hg <;> (try simp only [decide_eq_true_eq, decide_eq_false_iff_not, Bool.not_eq_true', Bool.not_eq_false'] at hg))
      | refine st_nil ?_
      | refine st_dnil ?_
      | refine st_tN ?_
      | refine st_seq ?_
      | refine st_block ?_
      | refine st_skip ?_
      | refine st_exit ?_
      | refine st_ret ?_
      | refine st_tE ?_
      | refine st_tR ?_
      | refine st_bN ?_
      | refine st_bR ?_
      | refine st_bH ?_
      | refine st_bM rfl ?_)
  refine asem_seq (fi := ⟨204, [4, 6, 8, 10, 12, 13, 15, 16], [], none, [(8, [0, 1, 0, 0, 8, 0, 0, 0, 128, 0, 896, 1920, 3968, 8128, 0, 0, 32768, 0, 229376, 491520, 1015808, 2097088, 4194247, 8388551, 16777159, 33554431, 67108863, 134217727], [(0, false), (1, true), (2, false), (3, false), (4, true), (5, false), (6, false), (7, false), (8, true), (9, false), (10, false), (11, false), (12, true), (14, false), (15, false), (16, true), (17, false), (18, false), (19, false), (20, true), (13, false), (21, false), (22, false), (23, false), (24, true), (25, false), (26, false), (27, true)]), (22, [0, 0, 3, 7, 15, 31, 63, 63, 255, 511, 63, 63, 3135, 7231, 16383, 32767], [(0, false), (1, false), (2, false), (3, true), (4, false), (5, false), (6, false), (7, false), (8, false), (9, true), (10, false), (11, false), (12, false), (13, true), (14, false), (15, false)])]⟩) tab mixed (by decide) ?_
  repeat' (first
      | refine st_seq_reg rfl (by first | (simp only [go_sem]; rfl) | rfl) (by first | (simp only [go_sem]; rfl) | rfl) ?_
      | refine st_reg rfl (by first | (simp only [go_sem]; rfl) | rfl) (by first | (simp only [go_sem]; rfl) | rfl) ?_
      | refine st_seq_draw rfl (by first | (simp only [go_sem]; rfl) | rfl) (by first | (simp only [go_sem]; rfl) | rfl) ?_
      | refine st_draw rfl (by first | (simp only [go_sem]; rfl) | rfl) (by first | (simp only [go_sem]; rfl) | rfl) ?_
      | refine st_op ?_
      | refine st_det rfl (by simp (disch := omega) only [go_sem, wr_i64, if_yes, if_no, ↓reduceIte, Nat.reduceAdd, Nat.reduceMul, Nat.reduceEqDiff, Nat.reduceBEq, Nat.reduceLeDiff]; rfl) ?_
      | refine st_dop rfl ?_
      | refine st_loc rfl (by simp (disch := omega) only [go_sem, wr_i64, if_yes, if_no, ↓reduceIte, Nat.reduceAdd, Nat.reduceMul, Nat.reduceEqDiff, Nat.reduceBEq, Nat.reduceLeDiff]; rfl) ?_
      | refine st_heap rfl (by simp (disch := omega) only [go_sem, wr_i64, if_yes, if_no, ↓reduceIte, Nat.reduceAdd, Nat.reduceMul, Nat.reduceEqDiff, Nat.reduceBEq, Nat.reduceLeDiff]; rfl) ?_
      | refine st_store (by simp (disch := omega) only [go_sem, wr_i64, if_yes, if_no, ↓reduceIte, Nat.reduceAdd, Nat.reduceMul, Nat.reduceEqDiff, Nat.reduceBEq, Nat.reduceLeDiff]; rfl) ?_
      | refine st_append (by simp (disch := omega) only [go_sem, wr_i64, if_yes, if_no, ↓reduceIte, Nat.reduceAdd, Nat.reduceMul, Nat.reduceEqDiff, Nat.reduceBEq, Nat.reduceLeDiff]; rfl) ?_
      | (refine st_callf rfl rfl (c14 l hl _) ?_; rintro v h' ⟨b, x, n, rfl, hb1, hb2, hu0, rfl⟩)
      | refine st_gT rfl rfl rfl ?_
      | refine st_gF rfl rfl rfl ?_
      | refine st_dgT rfl rfl rfl rfl ?_
      | refine st_dgF rfl rfl rfl ?_
      | (refine st_gS rfl rfl ?_ ?_ <;> intro hg <;> (try simp only [decide_eq_true_eq, decide_eq_false_iff_not, Bool.not_eq_true', Bool.not_eq_false'] at hg))
      | (refine st_dgS rfl rfl ?_ ?_ <;> intro hg <;> (try simp only [decide_eq_true_eq, decide_eq_false_iff_not, Bool.not_eq_true', Bool.not_eq_false'] at hg))
      | refine st_condT rfl ?_
      | refine st_condF rfl ?_
      | (refine st_condS rfl ?_ ?_ <;> intro hg <;> (try simp only [decide_eq_true_eq, decide_eq_false_iff_not, Bool.not_eq_true', Bool.not_eq_false'] at hg))
      | refine st_nil ?_
      | refine st_dnil ?_
      | refine st_tN ?_
      | refine st_seq ?_
      | refine st_block ?_
      | refine st_skip ?_
      | refine st_exit ?_
      | refine st_ret ?_
      | refine st_tE ?_
      | refine st_tR ?_
      | refine st_bN ?_
      | refine st_bR ?_
      | refine st_bH ?_
      | refine st_bM rfl ?_)
  refine asem_seq (fi := ⟨204, [4, 6, 8, 10, 12, 13, 15, 16], [], none, [(8, [0, 1, 0, 0, 8, 0, 0, 0, 128, 0, 896, 1920, 3968, 8128, 0, 0, 32768, 0, 229376, 491520, 1015808, 2097088, 4194247, 8388551, 16777159, 33554431, 67108863, 134217727], [(0, false), (1, true), (2, false), (3, false), (4, true), (5, false), (6, false), (7, false), (8, true), (9, false), (10, false), (11, false), (12, true), (14, false), (15, false), (16, true), (17, false), (18, false), (19, false), (20, true), (13, false), (21, false), (22, false), (23, false), (24, true), (25, false), (26, false), (27, true)]), (22, [0, 0, 3, 7, 15, 31, 63, 63, 255, 511, 63, 63, 3135, 7231, 16383, 32767], [(0, false), (1, false), (2, false), (3, true), (4, false), (5, false), (6, false), (7, false), (8, false), (9, true), (10, false), (11, false), (12, false), (13, true), (14, false), (15, false)])]⟩) tab mixed (by decide) ?_
  repeat' (first
      | refine st_seq_reg rfl (by first | (simp only [go_sem]; rfl) | rfl) (by first | (simp only [go_sem]; rfl) | rfl) ?_
      | refine st_reg rfl (by first | (simp only [go_sem]; rfl) | rfl) (by first | (simp only [go_sem]; rfl) | rfl) ?_
      | refine st_seq_draw rfl (by first | (simp only [go_sem]; rfl) | rfl) (by first | (simp only [go_sem]; rfl) | rfl) ?_
      | refine st_draw rfl (by first | (simp only [go_sem]; rfl) | rfl) (by first | (simp only [go_sem]; rfl) | rfl) ?_
      | refine st_op ?_
      | refine st_det rfl (by simp (disch := omega) only [go_sem, wr_i64, if_yes, if_no, ↓reduceIte, Nat.reduceAdd, Nat.reduceMul, Nat.reduceEqDiff, Nat.reduceBEq, Nat.reduceLeDiff]; rfl) ?_
      | refine st_dop rfl ?_
      | refine st_loc rfl (by simp (disch := omega) only [go_sem, wr_i64, if_yes, if_no, ↓reduceIte, Nat.reduceAdd, Nat.reduceMul, Nat.reduceEqDiff, Nat.reduceBEq, Nat.reduceLeDiff]; rfl) ?_
      | refine st_heap rfl (by simp (disch := omega) only [go_sem, wr_i64, if_yes, if_no, ↓reduceIte, Nat.reduceAdd, Nat.reduceMul, Nat.reduceEqDiff, Nat.reduceBEq, Nat.reduceLeDiff]; rfl) ?_
      | refine st_store (by simp (disch := omega) only [go_sem, wr_i64, if_yes, if_no, ↓reduceIte, Nat.reduceAdd, Nat.reduceMul, Nat.reduceEqDiff, Nat.reduceBEq, Nat.reduceLeDiff]; rfl) ?_
      | refine st_append (by simp (disch := omega) only [go_sem, wr_i64, if_yes, if_no, ↓reduceIte, Nat.reduceAdd, Nat.reduceMul, Nat.reduceEqDiff, Nat.reduceBEq, Nat.reduceLeDiff]; rfl) ?_
      | (refine st_drum (by first | (simp (disch := omega) only [go_sem]; rfl) | rfl) rfl (c15 b 6 (by omega)) (by first | (simp (disch := omega) only [go_sem]; rfl) | rfl) (by assumption) (by first | (simp only [go_sem]; rfl) | rfl) (by intro x' n; simp (disch := omega) only [go_sem]; rfl) ?_; rintro v x' n hu' ⟨f, rfl, hf⟩ hn)
      | refine st_gT rfl rfl rfl ?_
      | refine st_gF rfl rfl rfl ?_
      | refine st_dgT rfl rfl rfl rfl ?_
      | refine st_dgF rfl rfl rfl ?_
      | (refine st_gS rfl rfl ?_ ?_ <;> intro hg <;> (try simp only [decide_eq_true_eq, decide_eq_false_iff_not, Bool.not_eq_true', Bool.not_eq_false'] at hg))
      | (refine st_dgS rfl rfl ?_ ?_ <;> intro hg <;> (try simp only [decide_eq_true_eq, decide_eq_false_iff_not, Bool.not_eq_true', Bool.not_eq_false'] at hg))
      | refine st_condT rfl ?_
      | refine st_condF rfl ?_
      | (refine st_condS rfl ?_ ?_ <;> intro hg <;> (try simp only [decide_eq_true_eq, decide_eq_false_iff_not, Bool.not_eq_true', Bool.not_eq_false'] at hg))
      | refine st_nil ?_
      | refine st_dnil ?_
      | refine st_tN ?_
      | refine st_seq ?_
      | refine st_block ?_
      | refine st_skip ?_
      | refine st_exit ?_
      | refine st_ret ?_
      | refine st_tE ?_
      | refine st_tR ?_
      | refine st_bN ?_
      | refine st_bR ?_
      | refine st_bH ?_
      | refine st_bM rfl ?_)
  refine asem_seq (fi := ⟨204, [4, 6, 8, 10, 12, 13, 15, 16], [], none, [(8, [0, 1, 0, 0, 8, 0, 0, 0, 128, 0, 896, 1920, 3968, 8128, 0, 0, 32768, 0, 229376, 491520, 1015808, 2097088, 4194247, 8388551, 16777159, 33554431, 67108863, 134217727], [(0, false), (1, true), (2, false), (3, false), (4, true), (5, false), (6, false), (7, false), (8, true), (9, false), (10, false), (11, false), (12, true), (14, false), (15, false), (16, true), (17, false), (18, false), (19, false), (20, true), (13, false), (21, false), (22, false), (23, false), (24, true), (25, false), (26, false), (27, true)]), (22, [0, 0, 3, 7, 15, 31, 63, 63, 255, 511, 63, 63, 3135, 7231, 16383, 32767], [(0, false), (1, false), (2, false), (3, true), (4, false), (5, false), (6, false), (7, false), (8, false), (9, true), (10, false), (11, false), (12, false), (13, true), (14, false), (15, false)])]⟩) tab mixed (by decide) ?_
  repeat' (first
      | refine st_seq_reg rfl (by first | (simp only [go_sem]; rfl) | rfl) (by first | (simp only [go_sem]; rfl) | rfl) ?_
      | refine st_reg rfl (by first | (simp only [go_sem]; rfl) | rfl) (by first | (simp only [go_sem]; rfl) | rfl) ?_
      | refine st_seq_draw rfl (by first | (simp only [go_sem]; rfl) | rfl) (by first | (simp only [go_sem]; rfl) | rfl) ?_
      | refine st_draw rfl (by first | (simp only [go_sem]; rfl) | rfl) (by first | (simp only [go_sem]; rfl) | rfl) ?_
      | refine st_op ?_
      | refine st_det rfl (by simp (disch := omega) only [go_sem, wr_i64, if_yes, if_no, ↓reduceIte, Nat.reduceAdd, Nat.reduceMul, Nat.reduceEqDiff, Nat.reduceBEq, Nat.reduceLeDiff]; rfl) ?_
      | refine st_dop rfl ?_
      | refine st_loc rfl (by simp (disch := omega) only [go_sem, wr_i64, if_yes, if_no, ↓reduceIte, Nat.reduceAdd, Nat.reduceMul, Nat.reduceEqDiff, Nat.reduceBEq, Nat.reduceLeDiff]; rfl) ?_
      | refine st_heap rfl (by simp (disch := omega) only [go_sem, wr_i64, if_yes, if_no, ↓reduceIte, Nat.reduceAdd, Nat.reduceMul, Nat.reduceEqDiff, Nat.reduceBEq, Nat.reduceLeDiff]; rfl) ?_
      | refine st_store (by simp (disch := omega) only [go_sem, wr_i64, if_yes, if_no, ↓reduceIte, Nat.reduceAdd, Nat.reduceMul, Nat.reduceEqDiff, Nat.reduceBEq, Nat.reduceLeDiff]; rfl) ?_
      | refine st_append (by simp (disch := omega) only [go_sem, wr_i64, if_yes, if_no, ↓reduceIte, Nat.reduceAdd, Nat.reduceMul, Nat.reduceEqDiff, Nat.reduceBEq, Nat.reduceLeDiff]; rfl) ?_
      | (refine st_drum (by first | (simp (disch := omega) only [go_sem]; rfl) | rfl) rfl (c22 b f 6 5 hf (by omega) (by omega)) (by first | (simp (disch := omega) only [go_sem]; rfl) | rfl) (by assumption) (by first | (simp only [go_sem]; rfl) | rfl) (by intro x' n; simp (disch := omega) only [go_sem]; rfl) ?_; rintro v x' n hu' ⟨r, rfl, hrl, hr⟩ hn)
      | refine st_gT rfl rfl rfl ?_
      | refine st_gF rfl rfl rfl ?_
      | refine st_dgT rfl rfl rfl rfl ?_
      | refine st_dgF rfl rfl rfl ?_
      | (refine st_gS rfl rfl ?_ ?_ <;> intro hg <;> (try simp only [decide_eq_true_eq, decide_eq_false_iff_not, Bool.not_eq_true', Bool.not_eq_false'] at hg))
      | (refine st_dgS rfl rfl ?_ ?_ <;> intro hg <;> (try simp only [decide_eq_true_eq, decide_eq_false_iff_not, Bool.not_eq_true', Bool.not_eq_false'] at hg))
      | refine st_condT rfl ?_
      | refine st_condF rfl ?_
      | (refine st_condS rfl ?_ ?_ <;> intro hg <;> (try simp only [decide_eq_true_eq, decide_eq_false_iff_not, Bool.not_eq_true', Bool.not_eq_false'] at hg))
      | refine st_nil ?_
      | refine st_dnil ?_
      | refine st_tN ?_
      | refine st_seq ?_
      | refine st_block ?_
      | refine st_skip ?_
      | refine st_exit ?_
      | refine st_ret ?_
      | refine st_tE ?_
      | refine st_tR ?_
      | refine st_bN ?_
      | refine st_bR ?_
      | refine st_bH ?_
      | refine st_bM rfl ?_)
  have hfl : f.loads.length ≤ 1000 := by have := hf.many; omega
  refine asem_seq (fi := ⟨204, [4, 6, 8, 10, 12, 13, 15, 16], [], none, [(8, [0, 1, 0, 0, 8, 0, 0, 0, 128, 0, 896, 1920, 3968, 8128, 0, 0, 32768, 0, 229376, 491520, 1015808, 2097088, 4194247, 8388551, 16777159, 33554431, 67108863, 134217727], [(0, false), (1, true), (2, false), (3, false), (4, true), (5, false), (6, false), (7, false), (8, true), (9, false), (10, false), (11, false), (12, true), (14, false), (15, false), (16, true), (17, false), (18, false), (19, false), (20, true), (13, false), (21, false), (22, false), (23, false), (24, true), (25, false), (26, false), (27, true)]), (22, [0, 0, 3, 7, 15, 31, 63, 63, 255, 511, 63, 63, 3135, 7231, 16383, 32767], [(0, false), (1, false), (2, false), (3, true), (4, false), (5, false), (6, false), (7, false), (8, false), (9, true), (10, false), (11, false), (12, false), (13, true), (14, false), (15, false)])]⟩) tab mixed (by decide) ?_
  repeat' (first
      | refine st_seq_reg rfl (by first | (simp only [go_sem]; rfl) | rfl) (by first | (simp only [go_sem]; rfl) | rfl) ?_
      | refine st_reg rfl (by first | (simp only [go_sem]; rfl) | rfl) (by first | (simp only [go_sem]; rfl) | rfl) ?_
      | refine st_seq_draw rfl (by first | (simp only [go_sem]; rfl) | rfl) (by first | (simp only [go_sem]; rfl) | rfl) ?_
      | refine st_draw rfl (by first | (simp only [go_sem]; rfl) | rfl) (by first | (simp only [go_sem]; rfl) | rfl) ?_
      | refine st_op ?_
      | refine st_det rfl (by simp (disch := omega) only [go_sem, wr_i64, if_yes, if_no, ↓reduceIte, Nat.reduceAdd, Nat.reduceMul, Nat.reduceEqDiff, Nat.reduceBEq, Nat.reduceLeDiff]; rfl) ?_
      | refine st_dop rfl ?_
      | refine st_loc rfl (by simp (disch := omega) only [go_sem, wr_i64, if_yes, if_no, ↓reduceIte, Nat.reduceAdd, Nat.reduceMul, Nat.reduceEqDiff, Nat.reduceBEq, Nat.reduceLeDiff]; rfl) ?_
      | refine st_heap rfl (by simp (disch := omega) only [go_sem, wr_i64, if_yes, if_no, ↓reduceIte, Nat.reduceAdd, Nat.reduceMul, Nat.reduceEqDiff, Nat.reduceBEq, Nat.reduceLeDiff]; rfl) ?_
      | refine st_store (by simp (disch := omega) only [go_sem, wr_i64, if_yes, if_no, ↓reduceIte, Nat.reduceAdd, Nat.reduceMul, Nat.reduceEqDiff, Nat.reduceBEq, Nat.reduceLeDiff]; rfl) ?_
      | refine st_append (by simp (disch := omega) only [go_sem, wr_i64, if_yes, if_no, ↓reduceIte, Nat.reduceAdd, Nat.reduceMul, Nat.reduceEqDiff, Nat.reduceBEq, Nat.reduceLeDiff]; rfl) ?_
      | (refine st_callf rfl rfl (c24 f hfl _) ?_; rintro v h' ⟨bb, m, rfl, hb3, hb4, rfl⟩)
      | refine st_gT rfl rfl rfl ?_
      | refine st_gF rfl rfl rfl ?_
      | refine st_dgT rfl rfl rfl rfl ?_
      | refine st_dgF rfl rfl rfl ?_
      | (refine st_gS rfl rfl ?_ ?_ <;> intro hg <;> (try simp only [decide_eq_true_eq, decide_eq_false_iff_not, Bool.not_eq_true', Bool.not_eq_false'] at hg))
      | (refine st_dgS rfl rfl ?_ ?_ <;> intro hg <;> (try simp only [decide_eq_true_eq, decide_eq_false_iff_not, Bool.not_eq_true', Bool.not_eq_false'] at hg))
      | refine st_condT rfl ?_
      | refine st_condF rfl ?_
      | (refine st_condS rfl ?_ ?_ <;> intro hg <;> (try simp only [decide_eq_true_eq, decide_eq_false_iff_not, Bool.not_eq_true', Bool.not_eq_false'] at hg))
      | refine st_nil ?_
      | refine st_dnil ?_
      | refine st_tN ?_
      | refine st_seq ?_
      | refine st_block ?_
      | refine st_skip ?_
      | refine st_exit ?_
      | refine st_ret ?_
      | refine st_tE ?_
      | refine st_tR ?_
      | refine st_bN ?_
      | refine st_bR ?_
      | refine st_bH ?_
      | refine st_bM rfl ?_)
  rename_i n0 x1 n1 hu1 hn1
  refine asem_seqK tab mixed (fun s' => s'.tmp 4 = .lptr (n0, 4) 0 ∧ s'.box (n0, 4) = some (flc f) ∧ s'.tmp 5 = .lst 3 (r.map Hu.row) ∧ s'.tmp 6 = .lptr (n, 6) 0 ∧ s'.mks = [] ∧ ∃ ys, Nars f.loads ys ∧ s'.box (n, 6) = some [.int .i64 f.len, .int .i64 f.wid, .int .i64 f.front, .int .i64 f.rear, .int .i64 f.turn, .int .i64 f.kilos, .int .i64 f.mid, .int .i64 f.high, .slc bb 7 0 f.loads.length] ∧ s'.h.at_ bb = some ⟨7, ys.map Ld.row⟩) (by decide) ?_ ?_
  · repeat' (first
        | refine st_seq_reg rfl (by first | (simp only [go_sem]; rfl) | rfl) (by first | (simp only [go_sem]; rfl) | rfl) ?_
        | refine st_reg rfl (by first | (simp only [go_sem]; rfl) | rfl) (by first | (simp only [go_sem]; rfl) | rfl) ?_
        | refine st_seq_draw rfl (by first | (simp only [go_sem]; rfl) | rfl) (by first | (simp only [go_sem]; rfl) | rfl) ?_
        | refine st_draw rfl (by first | (simp only [go_sem]; rfl) | rfl) (by first | (simp only [go_sem]; rfl) | rfl) ?_
        | refine st_op ?_
        | refine st_det rfl (by simp (disch := omega) only [go_sem, wr_i64, if_yes, if_no, ↓reduceIte, Nat.reduceAdd, Nat.reduceMul, Nat.reduceEqDiff, Nat.reduceBEq, Nat.reduceLeDiff]; rfl) ?_
        | refine st_dop rfl ?_
        | refine st_loc rfl (by simp (disch := omega) only [go_sem, wr_i64, if_yes, if_no, ↓reduceIte, Nat.reduceAdd, Nat.reduceMul, Nat.reduceEqDiff, Nat.reduceBEq, Nat.reduceLeDiff]; rfl) ?_
        | refine st_heap rfl (by simp (disch := omega) only [go_sem, wr_i64, if_yes, if_no, ↓reduceIte, Nat.reduceAdd, Nat.reduceMul, Nat.reduceEqDiff, Nat.reduceBEq, Nat.reduceLeDiff]; rfl) ?_
        | refine st_store (by simp (disch := omega) only [go_sem, wr_i64, if_yes, if_no, ↓reduceIte, Nat.reduceAdd, Nat.reduceMul, Nat.reduceEqDiff, Nat.reduceBEq, Nat.reduceLeDiff]; rfl) ?_
        | refine st_append (by simp (disch := omega) only [go_sem, wr_i64, if_yes, if_no, ↓reduceIte, Nat.reduceAdd, Nat.reduceMul, Nat.reduceEqDiff, Nat.reduceBEq, Nat.reduceLeDiff]; rfl) ?_
        | refine st_gT rfl rfl rfl ?_
        | refine st_gF rfl rfl rfl ?_
        | refine st_dgT rfl rfl rfl rfl ?_
        | refine st_dgF rfl rfl rfl ?_
        | (refine st_gS rfl rfl ?_ ?_ <;> intro hg <;> (try simp only [decide_eq_true_eq, decide_eq_false_iff_not, Bool.not_eq_true', Bool.not_eq_false'] at hg))
        | (refine st_dgS rfl rfl ?_ ?_ <;> intro hg <;> (try simp only [decide_eq_true_eq, decide_eq_false_iff_not, Bool.not_eq_true', Bool.not_eq_false'] at hg))
        | refine st_condT rfl ?_
        | refine st_condF rfl ?_
        | (refine st_condS rfl ?_ ?_ <;> intro hg <;> (try simp only [decide_eq_true_eq, decide_eq_false_iff_not, Bool.not_eq_true', Bool.not_eq_false'] at hg))
        | refine st_nil ?_
        | refine st_dnil ?_
        | refine st_tN ?_
        | refine st_seq ?_
        | refine st_block ?_
        | refine st_skip ?_
        | refine st_exit ?_
        | refine st_ret ?_
        | refine st_tE ?_
        | refine st_tR ?_
        | refine st_bN ?_
        | refine st_bR ?_
        | refine st_bH ?_
        | refine st_bM rfl ?_)
    have hbb : ¬ bb = b := fun e' => by
      have h3 : n + 1 ≤ bb.1 := hb3
      rw [e'] at h3; omega
    have hbb' : ¬ b = bb := fun e' => hbb e'.symm
    have n0s : Nars f.loads f.loads := ⟨rfl, fun i hi => by
      have hx := hf.loads _ (ld_mem hi)
      have g1 := hx.kilos; have g2 := hx.top
      exact ⟨rfl, by omega, by omega, rfl, rfl⟩⟩
    refine st_loopH (α := NS) tab mixed [] [] (by repeat (first | exact trivial | refine ⟨rfl, ?_⟩)) [4, 6] [_, _] (by repeat (first | exact trivial | refine ⟨rfl, ?_⟩)) (fun a => [(7, .int .i64 (a.i : Nat))]) [(3, _), (4, _), (5, _), (6, _)] (fun _ => []) [_, _] (NS.hp h b bb) (fun a => a.i ≤ f.loads.length ∧ Nars f.loads a.ys ∧ isU64 a.x ∧ m + 1 ≤ a.t) (fun a => f.loads.length - a.i) (by decide) ⟨0, x', m + 1, f.loads⟩ ⟨Nat.zero_le _, n0s, hu', Nat.le_refl _⟩ (by (try simp only [go_sem]); repeat' (first | exact trivial | refine And.intro ?_ ?_ | rfl | (simp (disch := omega) only [go_sem, if_yes, if_no, ↓reduceIte, Nat.reduceAdd, Nat.reduceMul, Nat.reduceEqDiff, Nat.reduceBEq, Nat.reduceLeDiff]; rfl) | (simp (disch := omega) only [go_sem, if_yes, if_no, ↓reduceIte, Nat.reduceAdd, Nat.reduceMul, Nat.reduceEqDiff, Nat.reduceBEq, Nat.reduceLeDiff]))) (by (try simp only [go_sem]); repeat' (first | exact trivial | refine And.intro ?_ ?_ | rfl | (simp (disch := omega) only [go_sem, if_yes, if_no, ↓reduceIte, Nat.reduceAdd, Nat.reduceMul, Nat.reduceEqDiff, Nat.reduceBEq, Nat.reduceLeDiff]; rfl) | (simp (disch := omega) only [go_sem, if_yes, if_no, ↓reduceIte, Nat.reduceAdd, Nat.reduceMul, Nat.reduceEqDiff, Nat.reduceBEq, Nat.reduceLeDiff]))) (HOld.refl _) ?_
    rintro ⟨i, x2, t, ys⟩ c ⟨i1, i2, i3, i4⟩ hc
    dsimp only at i1 i2 i3 i4
    obtain ⟨i5, i6⟩ := i2
    have e2 : NS.hp h b bb ⟨i, x2, t, ys⟩ = ((h.tick t).put b (dr x2)).put bb (some ⟨7, ys.map Ld.row⟩) := rfl
    rw [e2] at hc
    simp only [go_sem] at hc
    simp only [e2, go_sem]
    repeat' (first
        | refine st_seq_reg rfl (by first | (simp only [go_sem, hbb, hbb', List.length_map, List.length_set, i5, Nat.zero_add, ld_setR, ld_setS, set_setL]; rfl) | rfl) (by first | (simp only [go_sem, hbb, hbb', List.length_map, List.length_set, i5, Nat.zero_add, ld_setR, ld_setS, set_setL]; rfl) | rfl) ?_
        | refine st_reg rfl (by first | (simp only [go_sem, hbb, hbb', List.length_map, List.length_set, i5, Nat.zero_add, ld_setR, ld_setS, set_setL]; rfl) | rfl) (by first | (simp only [go_sem, hbb, hbb', List.length_map, List.length_set, i5, Nat.zero_add, ld_setR, ld_setS, set_setL]; rfl) | rfl) ?_
        | refine st_seq_draw rfl (by first | (simp only [go_sem, hbb, hbb', List.length_map, List.length_set, i5, Nat.zero_add, ld_setR, ld_setS, set_setL]; rfl) | rfl) (by first | (simp only [go_sem, hbb, hbb', List.length_map, List.length_set, i5, Nat.zero_add, ld_setR, ld_setS, set_setL]; rfl) | rfl) ?_
        | refine st_draw rfl (by first | (simp only [go_sem, hbb, hbb', List.length_map, List.length_set, i5, Nat.zero_add, ld_setR, ld_setS, set_setL]; rfl) | rfl) (by first | (simp only [go_sem, hbb, hbb', List.length_map, List.length_set, i5, Nat.zero_add, ld_setR, ld_setS, set_setL]; rfl) | rfl) ?_
        | refine st_op ?_
        | refine st_det rfl (by simp (disch := omega) only [go_sem, wr_i64, if_yes, if_no, ↓reduceIte, Nat.reduceAdd, Nat.reduceMul, Nat.reduceEqDiff, Nat.reduceBEq, Nat.reduceLeDiff, hbb, hbb', List.length_map, List.length_set, i5, Nat.zero_add, ld_setR, ld_setS, set_setL]; rfl) ?_
        | refine st_dop rfl ?_
        | refine st_loc rfl (by simp (disch := omega) only [go_sem, wr_i64, if_yes, if_no, ↓reduceIte, Nat.reduceAdd, Nat.reduceMul, Nat.reduceEqDiff, Nat.reduceBEq, Nat.reduceLeDiff, hbb, hbb', List.length_map, List.length_set, i5, Nat.zero_add, ld_setR, ld_setS, set_setL]; rfl) ?_
        | refine st_heap rfl (by simp (disch := omega) only [go_sem, wr_i64, if_yes, if_no, ↓reduceIte, Nat.reduceAdd, Nat.reduceMul, Nat.reduceEqDiff, Nat.reduceBEq, Nat.reduceLeDiff, hbb, hbb', List.length_map, List.length_set, i5, Nat.zero_add, ld_setR, ld_setS, set_setL]; rfl) ?_
        | refine st_store (by simp (disch := omega) only [go_sem, wr_i64, if_yes, if_no, ↓reduceIte, Nat.reduceAdd, Nat.reduceMul, Nat.reduceEqDiff, Nat.reduceBEq, Nat.reduceLeDiff, hbb, hbb', List.length_map, List.length_set, i5, Nat.zero_add, ld_setR, ld_setS, set_setL]; rfl) ?_
        | refine st_append (by simp (disch := omega) only [go_sem, wr_i64, if_yes, if_no, ↓reduceIte, Nat.reduceAdd, Nat.reduceMul, Nat.reduceEqDiff, Nat.reduceBEq, Nat.reduceLeDiff, hbb, hbb', List.length_map, List.length_set, i5, Nat.zero_add, ld_setR, ld_setS, set_setL]; rfl) ?_
        | (refine st_drum (by first | (simp (disch := omega) only [go_sem, hbb, hbb', List.length_map, List.length_set, i5, Nat.zero_add, ld_setR, ld_setS, set_setL]; rfl) | rfl) rfl (c36 b (ld f.loads i).lo (ld f.loads i).hi (by have h1 := hf.loads _ (ld_mem (l := f.loads) (i := i) (by omega)); have h2 := h1.kilos; omega)) (by first | (simp (disch := omega) only [go_sem, hbb, hbb', List.length_map, List.length_set, i5, Nat.zero_add, ld_setR, ld_setS, set_setL]; rfl) | rfl) (by assumption) (by first | (simp only [go_sem, hbb, hbb', List.length_map, List.length_set, i5, Nat.zero_add, ld_setR, ld_setS, set_setL]; rfl) | rfl) (by intro x' n; simp (disch := omega) only [go_sem]; rfl) ?_; rintro v x' n hu' ⟨u1, w1, rfl, hu1'⟩ hn)
        | (refine st_drum (by first | (simp (disch := omega) only [go_sem, hbb, hbb', List.length_map, List.length_set, i5, Nat.zero_add, ld_setR, ld_setS, set_setL]; rfl) | rfl) rfl (c36 b (ld f.loads i).tlo (ld f.loads i).thi (by have h1 := hf.loads _ (ld_mem (l := f.loads) (i := i) (by omega)); have h2 := h1.top; omega)) (by first | (simp (disch := omega) only [go_sem, hbb, hbb', List.length_map, List.length_set, i5, Nat.zero_add, ld_setR, ld_setS, set_setL]; rfl) | rfl) (by assumption) (by first | (simp only [go_sem, hbb, hbb', List.length_map, List.length_set, i5, Nat.zero_add, ld_setR, ld_setS, set_setL]; rfl) | rfl) (by intro x' n; simp (disch := omega) only [go_sem]; rfl) ?_; rintro v x' n hu' ⟨u2, w2, rfl, hu2'⟩ hn)
        | refine st_gT rfl rfl rfl ?_
        | refine st_gF rfl rfl rfl ?_
        | refine st_dgT rfl rfl rfl rfl ?_
        | refine st_dgF rfl rfl rfl ?_
        | (refine st_gS rfl rfl ?_ ?_ <;> intro hg <;> (try simp only [decide_eq_true_eq, decide_eq_false_iff_not, Bool.not_eq_true', Bool.not_eq_false'] at hg))
        | (refine st_dgS rfl rfl ?_ ?_ <;> intro hg <;> (try simp only [decide_eq_true_eq, decide_eq_false_iff_not, Bool.not_eq_true', Bool.not_eq_false'] at hg))
        | refine st_condT rfl ?_
        | refine st_condF rfl ?_
        | (refine st_condS rfl ?_ ?_ <;> intro hg <;> (try simp only [decide_eq_true_eq, decide_eq_false_iff_not, Bool.not_eq_true', Bool.not_eq_false'] at hg))
        | refine st_nil ?_
        | refine st_dnil ?_
        | refine st_tN ?_
        | refine st_seq ?_
        | refine st_block ?_
        | refine st_skip ?_
        | refine st_exit ?_
        | refine st_ret ?_
        | refine st_tE ?_
        | refine st_tR ?_
        | refine st_bN ?_
        | refine st_bR ?_
        | refine st_bH ?_
        | refine st_bM rfl ?_)
    · have hx := hf.loads _ (ld_mem (l := f.loads) (i := i) (by omega))
      have g1 := i6 i (by omega)
      have hnew : Nars f.loads (ys.set i ⟨(ld ys i).at_, u1, w1, u2, w2, (ld ys i).kind, (ld ys i).watts⟩) := by
        refine ⟨by rw [List.length_set]; exact i5, fun j hj => ?_⟩
        by_cases ej : j = i
        · subst ej
          rw [ld_set_eq (by omega)]
          exact ⟨g1.at_, by dsimp only; omega, by dsimp only; omega, g1.kind, g1.watts⟩
        · rw [ld_set_ne ej]; exact i6 j hj
      refine ⟨⟨i + 1, x', n + 1, ys.set i ⟨(ld ys i).at_, u1, w1, u2, w2, (ld ys i).kind, (ld ys i).watts⟩⟩, ⟨by show i + 1 ≤ _; omega, hnew, by assumption, by show m + 1 ≤ n + 1; omega⟩, by show f.loads.length - (i + 1) < f.loads.length - i; omega, (by repeat' (first | exact trivial | refine And.intro ?_ ?_ | rfl | (simp (disch := omega) only [go_sem, if_yes, if_no, ↓reduceIte, Nat.reduceAdd, Nat.reduceMul, Nat.reduceEqDiff, Nat.reduceBEq, Nat.reduceLeDiff]; rfl) | (simp (disch := omega) only [go_sem, if_yes, if_no, ↓reduceIte, Nat.reduceAdd, Nat.reduceMul, Nat.reduceEqDiff, Nat.reduceBEq, Nat.reduceLeDiff]))), (by repeat' (first | exact trivial | refine And.intro ?_ ?_ | rfl | (simp (disch := omega) only [go_sem, if_yes, if_no, ↓reduceIte, Nat.reduceAdd, Nat.reduceMul, Nat.reduceEqDiff, Nat.reduceBEq, Nat.reduceLeDiff]; rfl) | (simp (disch := omega) only [go_sem, if_yes, if_no, ↓reduceIte, Nat.reduceAdd, Nat.reduceMul, Nat.reduceEqDiff, Nat.reduceBEq, Nat.reduceLeDiff]))), rfl, hold6 hbb⟩
    · refine ⟨rfl, ?_, rfl, rfl, rfl, ys, ⟨i5, i6⟩, ?_, ?_⟩
      · simp only [go_sem, ↓reduceIte]; rfl
      · simp only [go_sem, ↓reduceIte]
        have h64 : ¬ (n = n0 ∧ 6 = 4) := fun e => absurd e.2 (by decide)
        rw [if_neg h64]
      · simp only [go_sem, ↓reduceIte]
  · rintro ⟨T, B, M, H⟩ ⟨g4, gb, g5, g6, gm, ys, gn, gy, gh⟩
    dsimp only at g4 gb g5 g6 gm gy gh
    subst gm
    refine ASem.frzB (T' := T) (B' := upd B (n, 6) (some [.int .i64 f.len, .int .i64 f.wid, .int .i64 f.front, .int .i64 f.rear, .int .i64 f.turn, .int .i64 f.kilos, .int .i64 f.mid, .int .i64 f.high, .lst 7 (ys.map Ld.row)])) gh (fun _ => .inl rfl) (fun id cs' hid => ?_) ?_
    · by_cases e : id = (n, 6)
      · subst e
        rw [upd_same] at hid
        refine ⟨_, gy, .inr ?_⟩
        rw [← Option.some.inj hid]
        have e0 : (ys.map Ld.row).take f.loads.length = ys.map Ld.row := List.take_of_length_le (by simp [gn.1])
        simp [frzs, frz, gn.1, e0]
      · rw [upd_ne _ _ e] at hid
        exact ⟨_, hid, .inl rfl⟩
    have hg := good_set hf gn
    have hN := narF hf gn
    have k1 := chkGood hf (by omega)
    have k2 := chkGood hg (by omega)
    have hrl' : r.length ≤ 40 := by omega
    obtain ⟨t1, t2, t3, t4, t5⟩ := hN
    clear gy gh
    generalize H.put bb none = H2
    unfold flc at gb
    have hn04 : ¬ (n0, 4) = (n, 6) := fun e => by cases e
    refine asem_awp (fi := ⟨204, [4, 6, 8, 10, 12, 13, 15, 16], [], none, [(8, [0, 1, 0, 0, 8, 0, 0, 0, 128, 0, 896, 1920, 3968, 8128, 0, 0, 32768, 0, 229376, 491520, 1015808, 2097088, 4194247, 8388551, 16777159, 33554431, 67108863, 134217727], [(0, false), (1, true), (2, false), (3, false), (4, true), (5, false), (6, false), (7, false), (8, true), (9, false), (10, false), (11, false), (12, true), (14, false), (15, false), (16, true), (17, false), (18, false), (19, false), (20, true), (13, false), (21, false), (22, false), (23, false), (24, true), (25, false), (26, false), (27, true)]), (22, [0, 0, 3, 7, 15, 31, 63, 63, 255, 511, 63, 63, 3135, 7231, 16383, 32767], [(0, false), (1, false), (2, false), (3, true), (4, false), (5, false), (6, false), (7, false), (8, false), (9, true), (10, false), (11, false), (12, false), (13, true), (14, false), (15, false)])]⟩) tab mixed (by decide) ?_
    repeat' (first
        | refine st_seq_reg rfl (by first | (simp only [go_sem, g4, gb, g5, g6, List.length_map]; rfl) | rfl) (by first | (simp only [go_sem, g4, gb, g5, g6, List.length_map]; rfl) | rfl) ?_
        | refine st_reg rfl (by first | (simp only [go_sem, g4, gb, g5, g6, List.length_map]; rfl) | rfl) (by first | (simp only [go_sem, g4, gb, g5, g6, List.length_map]; rfl) | rfl) ?_
        | refine st_seq_draw rfl (by first | (simp only [go_sem, g4, gb, g5, g6, List.length_map]; rfl) | rfl) (by first | (simp only [go_sem, g4, gb, g5, g6, List.length_map]; rfl) | rfl) ?_
        | refine st_draw rfl (by first | (simp only [go_sem, g4, gb, g5, g6, List.length_map]; rfl) | rfl) (by first | (simp only [go_sem, g4, gb, g5, g6, List.length_map]; rfl) | rfl) ?_
        | refine st_op ?_
        | refine st_det rfl (by simp (disch := omega) only [go_sem, wr_i64, if_yes, if_no, ↓reduceIte, Nat.reduceAdd, Nat.reduceMul, Nat.reduceEqDiff, Nat.reduceBEq, Nat.reduceLeDiff, g4, gb, g5, g6, List.length_map]; rfl) ?_
        | refine st_dop rfl ?_
        | refine st_loc rfl (by simp (disch := omega) only [go_sem, wr_i64, if_yes, if_no, ↓reduceIte, Nat.reduceAdd, Nat.reduceMul, Nat.reduceEqDiff, Nat.reduceBEq, Nat.reduceLeDiff, g4, gb, g5, g6, List.length_map]; rfl) ?_
        | refine st_heap rfl (by simp (disch := omega) only [go_sem, wr_i64, if_yes, if_no, ↓reduceIte, Nat.reduceAdd, Nat.reduceMul, Nat.reduceEqDiff, Nat.reduceBEq, Nat.reduceLeDiff, g4, gb, g5, g6, List.length_map]; rfl) ?_
        | refine st_store (by simp (disch := omega) only [go_sem, wr_i64, if_yes, if_no, ↓reduceIte, Nat.reduceAdd, Nat.reduceMul, Nat.reduceEqDiff, Nat.reduceBEq, Nat.reduceLeDiff, g4, gb, g5, g6, List.length_map]; rfl) ?_
        | refine st_append (by simp (disch := omega) only [go_sem, wr_i64, if_yes, if_no, ↓reduceIte, Nat.reduceAdd, Nat.reduceMul, Nat.reduceEqDiff, Nat.reduceBEq, Nat.reduceLeDiff, g4, gb, g5, g6, List.length_map]; rfl) ?_
        | (refine st_pureE (by first | (simp (disch := omega) only [go_sem, g4, gb, g5, g6, List.length_map]; rfl) | rfl) rfl (c37 f k1) (by first | (simp only [go_sem, g4, gb, g5, g6, List.length_map]; rfl) | rfl) (by intro n; simp (disch := omega) only [go_sem]; rfl) ?_; intro n hn)
        | (refine st_pureE (by first | (simp (disch := omega) only [go_sem, g4, gb, g5, g6, List.length_map]; rfl) | rfl) rfl (c37 (setL f ys) k2) (by first | (simp only [go_sem, g4, gb, g5, g6, List.length_map]; rfl) | rfl) (by intro n; simp (disch := omega) only [go_sem]; rfl) ?_; intro n hn)
        | (refine st_pureE (by first | (simp (disch := omega) only [go_sem, g4, gb, g5, g6, List.length_map]; rfl) | rfl) rfl (c38g f k1) (by first | (simp only [go_sem, g4, gb, g5, g6, List.length_map]; rfl) | rfl) (by intro n; simp (disch := omega) only [go_sem]; rfl) ?_; intro n hn)
        | (refine st_pureE (by first | (simp (disch := omega) only [go_sem, g4, gb, g5, g6, List.length_map]; rfl) | rfl) rfl (c38g (setL f ys) k2) (by first | (simp only [go_sem, g4, gb, g5, g6, List.length_map]; rfl) | rfl) (by intro n; simp (disch := omega) only [go_sem]; rfl) ?_; intro n hn)
        | (refine st_pureE (by first | (simp (disch := omega) only [go_sem, g4, gb, g5, g6, List.length_map]; rfl) | rfl) rfl (c39 f k1) (by first | (simp only [go_sem, g4, gb, g5, g6, List.length_map]; rfl) | rfl) (by intro n; simp (disch := omega) only [go_sem]; rfl) ?_; intro n hn)
        | (refine st_pureE (by first | (simp (disch := omega) only [go_sem, g4, gb, g5, g6, List.length_map]; rfl) | rfl) rfl (c39 (setL f ys) k2) (by first | (simp only [go_sem, g4, gb, g5, g6, List.length_map]; rfl) | rfl) (by intro n; simp (disch := omega) only [go_sem]; rfl) ?_; intro n hn)
        | (refine st_pureE (by first | (simp (disch := omega) only [go_sem, g4, gb, g5, g6, List.length_map]; rfl) | rfl) rfl (c19g f 6 r hf (by omega) hrl' hr) (by first | (simp only [go_sem, g4, gb, g5, g6, List.length_map]; rfl) | rfl) (by intro n; simp (disch := omega) only [go_sem]; rfl) ?_; intro n hn)
        | (refine st_pureE (by first | (simp (disch := omega) only [go_sem, g4, gb, g5, g6, List.length_map]; rfl) | rfl) rfl (c19g (setL f ys) 6 r hg (by omega) hrl' hr) (by first | (simp only [go_sem, g4, gb, g5, g6, List.length_map]; rfl) | rfl) (by intro n; simp (disch := omega) only [go_sem]; rfl) ?_; intro n hn)
        | refine st_gT rfl rfl rfl ?_
        | refine st_gF rfl rfl rfl ?_
        | refine st_dgT rfl rfl rfl rfl ?_
        | refine st_dgF rfl rfl rfl ?_
        | (refine st_gS rfl rfl ?_ ?_ <;> intro hg <;> (try simp only [decide_eq_true_eq, decide_eq_false_iff_not, Bool.not_eq_true', Bool.not_eq_false'] at hg))
        | (refine st_dgS rfl rfl ?_ ?_ <;> intro hg <;> (try simp only [decide_eq_true_eq, decide_eq_false_iff_not, Bool.not_eq_true', Bool.not_eq_false'] at hg))
        | refine st_condT rfl ?_
        | refine st_condF rfl ?_
        | (refine st_condS rfl ?_ ?_ <;> intro hg <;> (try simp only [decide_eq_true_eq, decide_eq_false_iff_not, Bool.not_eq_true', Bool.not_eq_false'] at hg))
        | refine st_nil ?_
        | refine st_dnil ?_
        | refine st_tN ?_
        | refine st_seq ?_
        | refine st_block ?_
        | refine st_skip ?_
        | refine st_exit ?_
        | refine st_ret ?_
        | refine st_tE ?_
        | refine st_tR ?_
        | refine st_bN ?_
        | refine st_bR ?_
        | refine st_bH ?_
        | refine st_bM rfl ?_)
    refine st_loopC (α := Nat) tab mixed [] [] (by repeat (first | exact trivial | refine ⟨rfl, ?_⟩)) [8, 10, 12, 13, 15, 16] [_, _, _, _, _, _] (by repeat (first | exact trivial | refine ⟨rfl, ?_⟩)) (fun i => [(26, .int .i64 (i : Nat))]) [(8, _), (10, _), (12, _), (13, _), (15, _), (16, _), (18, _), (20, _), (22, _), (24, _)] (fun _ => []) [_, _, _, _, _, _] (fun i => i ≤ r.length) (fun i => r.length - i) (by decide) 0 (Nat.zero_le _) (by (try simp only [go_sem]); repeat' (first | exact trivial | refine And.intro ?_ ?_ | rfl | (simp (disch := omega) only [go_sem, if_yes, if_no, ↓reduceIte, Nat.reduceAdd, Nat.reduceMul, Nat.reduceEqDiff, Nat.reduceBEq, Nat.reduceLeDiff]; rfl) | (simp (disch := omega) only [go_sem, if_yes, if_no, ↓reduceIte, Nat.reduceAdd, Nat.reduceMul, Nat.reduceEqDiff, Nat.reduceBEq, Nat.reduceLeDiff]))) (by (try simp only [go_sem]); repeat' (first | exact trivial | refine And.intro ?_ ?_ | rfl | (simp (disch := omega) only [go_sem, if_yes, if_no, ↓reduceIte, Nat.reduceAdd, Nat.reduceMul, Nat.reduceEqDiff, Nat.reduceBEq, Nat.reduceLeDiff]; rfl) | (simp (disch := omega) only [go_sem, if_yes, if_no, ↓reduceIte, Nat.reduceAdd, Nat.reduceMul, Nat.reduceEqDiff, Nat.reduceBEq, Nat.reduceLeDiff]))) (by first | (simp only [go_sem]; rfl) | rfl) (by intro n; simp only [go_sem]; rfl) ?_
    intro i c i1 hc
    simp only [go_sem]
    repeat' (first
        | refine st_seq_reg rfl (by first | (simp only [go_sem, List.length_map, pvs_getD]; rfl) | rfl) (by first | (simp only [go_sem, List.length_map, pvs_getD]; rfl) | rfl) ?_
        | refine st_reg rfl (by first | (simp only [go_sem, List.length_map, pvs_getD]; rfl) | rfl) (by first | (simp only [go_sem, List.length_map, pvs_getD]; rfl) | rfl) ?_
        | refine st_seq_draw rfl (by first | (simp only [go_sem, List.length_map, pvs_getD]; rfl) | rfl) (by first | (simp only [go_sem, List.length_map, pvs_getD]; rfl) | rfl) ?_
        | refine st_draw rfl (by first | (simp only [go_sem, List.length_map, pvs_getD]; rfl) | rfl) (by first | (simp only [go_sem, List.length_map, pvs_getD]; rfl) | rfl) ?_
        | refine st_op ?_
        | refine st_det rfl (by simp (disch := omega) only [go_sem, wr_i64, if_yes, if_no, ↓reduceIte, Nat.reduceAdd, Nat.reduceMul, Nat.reduceEqDiff, Nat.reduceBEq, Nat.reduceLeDiff, List.length_map, pvs_getD]; rfl) ?_
        | refine st_dop rfl ?_
        | refine st_loc rfl (by simp (disch := omega) only [go_sem, wr_i64, if_yes, if_no, ↓reduceIte, Nat.reduceAdd, Nat.reduceMul, Nat.reduceEqDiff, Nat.reduceBEq, Nat.reduceLeDiff, List.length_map, pvs_getD]; rfl) ?_
        | refine st_heap rfl (by simp (disch := omega) only [go_sem, wr_i64, if_yes, if_no, ↓reduceIte, Nat.reduceAdd, Nat.reduceMul, Nat.reduceEqDiff, Nat.reduceBEq, Nat.reduceLeDiff, List.length_map, pvs_getD]; rfl) ?_
        | refine st_store (by simp (disch := omega) only [go_sem, wr_i64, if_yes, if_no, ↓reduceIte, Nat.reduceAdd, Nat.reduceMul, Nat.reduceEqDiff, Nat.reduceBEq, Nat.reduceLeDiff, List.length_map, pvs_getD]; rfl) ?_
        | refine st_append (by simp (disch := omega) only [go_sem, wr_i64, if_yes, if_no, ↓reduceIte, Nat.reduceAdd, Nat.reduceMul, Nat.reduceEqDiff, Nat.reduceBEq, Nat.reduceLeDiff, List.length_map, pvs_getD]; rfl) ?_
        | (refine st_pureE (by first | (simp (disch := omega) only [go_sem, List.length_map, pvs_getD]; rfl) | rfl) rfl (c40 _ _ _ _) (by first | (simp only [go_sem, List.length_map, pvs_getD]; rfl) | rfl) (by intro n; simp (disch := omega) only [go_sem]; rfl) ?_; intro n hn)
        | (refine st_pureE (by first | (simp (disch := omega) only [go_sem, List.length_map, pvs_getD]; rfl) | rfl) rfl (c21) (by first | (simp only [go_sem, List.length_map, pvs_getD]; rfl) | rfl) (by intro n; simp (disch := omega) only [go_sem]; rfl) ?_; intro n hn)
        | refine st_gT rfl rfl rfl ?_
        | refine st_gF rfl rfl rfl ?_
        | refine st_dgT rfl rfl rfl rfl ?_
        | refine st_dgF rfl rfl rfl ?_
        | (refine st_gS rfl rfl ?_ ?_ <;> intro hg <;> (try simp only [decide_eq_true_eq, decide_eq_false_iff_not, Bool.not_eq_true', Bool.not_eq_false'] at hg))
        | (refine st_dgS rfl rfl ?_ ?_ <;> intro hg <;> (try simp only [decide_eq_true_eq, decide_eq_false_iff_not, Bool.not_eq_true', Bool.not_eq_false'] at hg))
        | refine st_condT rfl ?_
        | refine st_condF rfl ?_
        | (refine st_condS rfl ?_ ?_ <;> intro hg <;> (try simp only [decide_eq_true_eq, decide_eq_false_iff_not, Bool.not_eq_true', Bool.not_eq_false'] at hg))
        | refine st_nil ?_
        | refine st_dnil ?_
        | refine st_tN ?_
        | refine st_seq ?_
        | refine st_block ?_
        | refine st_skip ?_
        | refine st_exit ?_
        | refine st_ret ?_
        | refine st_tE ?_
        | refine st_tR ?_
        | refine st_bN ?_
        | refine st_bR ?_
        | refine st_bH ?_
        | refine st_bM rfl ?_)
    all_goals have t5' := t5 (hu r i)
    all_goals try (exfalso; omega)
    any_goals
      refine ⟨i + 1, by show i + 1 ≤ r.length; omega, by show r.length - (i + 1) < r.length - i; omega, (by repeat' (first | exact trivial | refine And.intro ?_ ?_ | rfl | (simp (disch := omega) only [go_sem, if_yes, if_no, ↓reduceIte, Nat.reduceAdd, Nat.reduceMul, Nat.reduceEqDiff, Nat.reduceBEq, Nat.reduceLeDiff]; rfl) | (simp (disch := omega) only [go_sem, if_yes, if_no, ↓reduceIte, Nat.reduceAdd, Nat.reduceMul, Nat.reduceEqDiff, Nat.reduceBEq, Nat.reduceLeDiff]))), (by repeat' (first | exact trivial | refine And.intro ?_ ?_ | rfl | (simp (disch := omega) only [go_sem, if_yes, if_no, ↓reduceIte, Nat.reduceAdd, Nat.reduceMul, Nat.reduceEqDiff, Nat.reduceBEq, Nat.reduceLeDiff]; rfl) | (simp (disch := omega) only [go_sem, if_yes, if_no, ↓reduceIte, Nat.reduceAdd, Nat.reduceMul, Nat.reduceEqDiff, Nat.reduceBEq, Nat.reduceLeDiff]))), rfl, HOld.of _ (by omega)⟩
    all_goals
      simp (disch := omega) only [AEnd, Try.results6, aresK, fin, go_sem, ↓reduceIte, Nat.reduceEqDiff, Nat.reduceAdd, Nat.reduceLeDiff, if_yes, if_no, implies_true, true_and, and_true, List.reverse_cons, List.reverse_nil]
end Go.Proofs.Ytkjpceapflhmnaa
