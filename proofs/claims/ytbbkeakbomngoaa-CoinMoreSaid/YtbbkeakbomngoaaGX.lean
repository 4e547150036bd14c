/- Contracts of functions that the claim reaches: what each call gives, told in our own logic. Conditions: those of each theorem. -/
import Derived.Test.YtbbkeakbomngoaaGW
import Derived.Test.YtbbkeakbomngoaaP5
import Derived.Test.YtbbkeakbomngoaaG18
import Derived.Test.YtbbkeakbomngoaaBaseD
set_option linter.all false
set_option linter.unusedSimpArgs false
set_option linter.unusedVariables false
namespace Go.Proofs.Ytbbkeakbomngoaa
open Go.Av
attribute [local irreducible] thenA blockA awp awpOps awpD awp1 awpDG
set_option maxHeartbeats 8000000
set_option maxRecDepth 20000
/-! ### More money, fewer bills -/
/-- The funds in their block, or none. -/
def FvS (fv : AV) (b bb : Nat × Nat) (F : List Fd) (g : AH) : Prop := (fv = .nils ∧ F = []) ∨ ∃ bf : Nat × Nat, fv = .slc bf 4 0 F.length ∧ g.at_ bf = some ⟨4, F.map Fd.row⟩ ∧ bf.1 < bb.1 ∧ b.1 < bf.1
structure LmS where
  i : Nat
  x : Int
  F : List Fd
  g : AH
theorem fd_set {F : List Fd} {i : Nat} (h : i < F.length) (y : Fd) (k : Nat) : fd (F.set i y) k = if k = i then y else fd F k := by
  unfold fd
  simp only [List.getD_eq_getElem?_getD, List.getElem?_set]
  by_cases e : i = k
  · subst e; rw [if_pos rfl, if_pos rfl, if_pos h]; rfl
  · rw [if_neg e, if_neg (fun h => e h.symm)]
theorem law8 (l : List Int) (hl : (l.length : Int) ≤ 9223372036854775807) (h : AH) : ACalls Try.prog 8 [.lst 1 (l.map iv)] h (fun v _ => v = .bool true) := by
  refine ACalls.of tab mixed Try.call8 Try.func8 rfl (fi := ⟨120, [4, 7, 8], [78, 1000011, 1000017], none, [(6, [0, 1, 0, 7, 0, 0, 63, 127], [(0, true), (2, true), (4, false), (5, false), (1, false), (3, false), (6, false), (7, false)]), (11, [0, 0, 0, 0, 8, 24, 56, 0, 128, 504, 0, 0, 2048, 6144, 14336, 32128, 0, 0, 131072, 393216, 917504, 2096512, 4194297, 8388601, 16777209, 33554427, 67108859, 134217723, 268435455, 536870911, 1073741823], [(0, false), (1, false), (2, false), (3, false), (4, false), (5, false), (6, true), (7, false), (10, false), (11, false), (12, false), (13, false), (14, true), (16, false), (17, false), (18, false), (19, false), (20, true), (8, false), (9, false), (15, false), (21, false), (22, false), (23, false), (24, false), (25, false), (26, false), (27, false), (28, false), (29, false), (30, false)]), (16, [0, 1, 0, 7, 0, 16, 0, 64, 240, 511, 1023, 2047], [(0, false), (1, true), (2, false), (3, false), (4, false), (5, true), (6, false), (7, false), (8, false), (9, false), (10, false), (11, false)])]⟩) rfl rfl (Nat.le_of_ble_eq_true rfl) (by decide) ?_
  unfold startA
  repeat' (first
      | refine st_seq_reg rfl (by first | (simp only [go_sem, List.length_map]; rfl) | rfl) (by first | (simp only [go_sem, List.length_map]; rfl) | rfl) ?_
      | refine st_reg rfl (by first | (simp only [go_sem, List.length_map]; rfl) | rfl) (by first | (simp only [go_sem, List.length_map]; rfl) | rfl) ?_
      | refine st_seq_draw rfl (by first | (simp only [go_sem, List.length_map]; rfl) | rfl) (by first | (simp only [go_sem, List.length_map]; rfl) | rfl) ?_
      | refine st_draw rfl (by first | (simp only [go_sem, List.length_map]; rfl) | rfl) (by first | (simp only [go_sem, List.length_map]; rfl) | rfl) ?_
      | refine st_op ?_
      | refine st_det rfl (by simp (disch := omega) only [go_sem, wr_i64, if_yes, if_no, ↓reduceIte, Nat.reduceAdd, Nat.reduceMul, Nat.reduceEqDiff, Nat.reduceBEq, Nat.reduceLeDiff, List.length_map]; rfl) ?_
      | refine st_dop rfl ?_
      | refine st_loc rfl (by simp (disch := omega) only [go_sem, wr_i64, if_yes, if_no, ↓reduceIte, Nat.reduceAdd, Nat.reduceMul, Nat.reduceEqDiff, Nat.reduceBEq, Nat.reduceLeDiff, List.length_map]; rfl) ?_
      | refine st_heap rfl (by simp (disch := omega) only [go_sem, wr_i64, if_yes, if_no, ↓reduceIte, Nat.reduceAdd, Nat.reduceMul, Nat.reduceEqDiff, Nat.reduceBEq, Nat.reduceLeDiff, List.length_map]; rfl) ?_
      | refine st_store (by simp (disch := omega) only [go_sem, wr_i64, if_yes, if_no, ↓reduceIte, Nat.reduceAdd, Nat.reduceMul, Nat.reduceEqDiff, Nat.reduceBEq, Nat.reduceLeDiff, List.length_map]; rfl) ?_
      | refine st_append (by simp (disch := omega) only [go_sem, wr_i64, if_yes, if_no, ↓reduceIte, Nat.reduceAdd, Nat.reduceMul, Nat.reduceEqDiff, Nat.reduceBEq, Nat.reduceLeDiff, List.length_map]; rfl) ?_
      | refine st_copy (by simp (disch := omega) only [go_sem, wr_i64, if_yes, if_no, ↓reduceIte, Nat.reduceAdd, Nat.reduceMul, Nat.reduceEqDiff, Nat.reduceBEq, Nat.reduceLeDiff, List.length_map]; rfl) ?_
      | (refine st_callf rfl rfl (c16 l hl _) ?_; rintro v h' ⟨b, x, n, rfl, hb1, hb2, hu0, rfl⟩)
      | (refine st_drum (by first | (simp (disch := omega) only [go_sem, List.length_map]; rfl) | rfl) rfl (c17 b 5 5 50 (by omega) (by omega) (by omega)) (by first | (simp (disch := omega) only [go_sem, List.length_map]; rfl) | rfl) (by assumption) (by first | (simp only [go_sem, List.length_map]; rfl) | rfl) (by intro x' n; simp (disch := omega) only [go_sem]; rfl) ?_; rintro v x' n hu' ⟨lg, rfl, hlg⟩ hn)
      | refine st_gT rfl rfl rfl ?_
      | refine st_gF rfl rfl rfl ?_
      | refine st_dgT rfl rfl rfl rfl ?_
      | refine st_dgF rfl rfl rfl ?_
      | (refine st_gS rfl rfl ?_ ?_ <;> intro hg <;> (try simp only [decide_eq_true_eq, decide_eq_false_iff_not, Bool.not_eq_true', Bool.not_eq_false'] at hg))
      | (refine st_dgS rfl rfl ?_ ?_ <;> intro hg <;> (try simp only [decide_eq_true_eq, decide_eq_false_iff_not, Bool.not_eq_true', Bool.not_eq_false'] at hg))
      | refine st_condT rfl ?_
      | refine st_condF rfl ?_
      | (refine st_condS rfl ?_ ?_ <;> intro hg <;> (try simp only [decide_eq_true_eq, decide_eq_false_iff_not, Bool.not_eq_true', Bool.not_eq_false'] at hg))
      | refine st_nil ?_
      | refine st_dnil ?_
      | refine st_tN ?_
      | refine st_seq ?_
      | refine st_block ?_
      | refine st_skip ?_
      | refine st_exit ?_
      | refine st_ret ?_
      | refine st_tE ?_
      | refine st_tR ?_
      | refine st_bN ?_
      | refine st_bR ?_
      | refine st_bH ?_
      | refine st_noN ?_
      | refine st_noR ?_
      | refine st_noE ?_
      | refine st_label ?_
      | refine st_scope tab mixed (by decide) ?_
      | refine st_bM rfl ?_)
  have h0 := chkE_good hlg (by omega) (by omega) (by omega)
  have hk := ledgerOk h0
  have hfn : (lg.fs.length : Int) ≤ 5 := hlg.fn
  have hbn : (lg.bs.length : Int) ≤ 5 := hlg.bn
  by_cases hp : prf lg = none
  case neg =>
    have k21 := c21no h0 hp
    repeat' (first
        | refine st_seq_reg rfl (by first | (simp only [go_sem]; rfl) | rfl) (by first | (simp only [go_sem]; rfl) | rfl) ?_
        | refine st_reg rfl (by first | (simp only [go_sem]; rfl) | rfl) (by first | (simp only [go_sem]; rfl) | rfl) ?_
        | refine st_seq_draw rfl (by first | (simp only [go_sem]; rfl) | rfl) (by first | (simp only [go_sem]; rfl) | rfl) ?_
        | refine st_draw rfl (by first | (simp only [go_sem]; rfl) | rfl) (by first | (simp only [go_sem]; rfl) | rfl) ?_
        | refine st_op ?_
        | refine st_det rfl (by simp (disch := omega) only [go_sem, wr_i64, if_yes, if_no, ↓reduceIte, Nat.reduceAdd, Nat.reduceMul, Nat.reduceEqDiff, Nat.reduceBEq, Nat.reduceLeDiff]; rfl) ?_
        | refine st_dop rfl ?_
        | refine st_loc rfl (by simp (disch := omega) only [go_sem, wr_i64, if_yes, if_no, ↓reduceIte, Nat.reduceAdd, Nat.reduceMul, Nat.reduceEqDiff, Nat.reduceBEq, Nat.reduceLeDiff]; rfl) ?_
        | refine st_heap rfl (by simp (disch := omega) only [go_sem, wr_i64, if_yes, if_no, ↓reduceIte, Nat.reduceAdd, Nat.reduceMul, Nat.reduceEqDiff, Nat.reduceBEq, Nat.reduceLeDiff]; rfl) ?_
        | refine st_store (by simp (disch := omega) only [go_sem, wr_i64, if_yes, if_no, ↓reduceIte, Nat.reduceAdd, Nat.reduceMul, Nat.reduceEqDiff, Nat.reduceBEq, Nat.reduceLeDiff]; rfl) ?_
        | refine st_append (by simp (disch := omega) only [go_sem, wr_i64, if_yes, if_no, ↓reduceIte, Nat.reduceAdd, Nat.reduceMul, Nat.reduceEqDiff, Nat.reduceBEq, Nat.reduceLeDiff]; rfl) ?_
        | refine st_copy (by simp (disch := omega) only [go_sem, wr_i64, if_yes, if_no, ↓reduceIte, Nat.reduceAdd, Nat.reduceMul, Nat.reduceEqDiff, Nat.reduceBEq, Nat.reduceLeDiff]; rfl) ?_
        | (refine st_pureE (by first | (simp (disch := omega) only [go_sem]; rfl) | rfl) rfl (k21) (by first | (simp only [go_sem]; rfl) | rfl) (by intro n; simp (disch := omega) only [go_sem]; rfl) ?_; intro n hn)
        | (refine st_pureE (by first | (simp (disch := omega) only [go_sem]; rfl) | rfl) rfl (c15) (by first | (simp only [go_sem]; rfl) | rfl) (by intro n; simp (disch := omega) only [go_sem]; rfl) ?_; intro n hn)
        | refine st_gT rfl rfl rfl ?_
        | refine st_gF rfl rfl rfl ?_
        | refine st_dgT rfl rfl rfl rfl ?_
        | refine st_dgF rfl rfl rfl ?_
        | (refine st_gS rfl rfl ?_ ?_ <;> intro hg <;> (try simp only [decide_eq_true_eq, decide_eq_false_iff_not, Bool.not_eq_true', Bool.not_eq_false'] at hg))
        | (refine st_dgS rfl rfl ?_ ?_ <;> intro hg <;> (try simp only [decide_eq_true_eq, decide_eq_false_iff_not, Bool.not_eq_true', Bool.not_eq_false'] at hg))
        | refine st_condT rfl ?_
        | refine st_condF rfl ?_
        | (refine st_condS rfl ?_ ?_ <;> intro hg <;> (try simp only [decide_eq_true_eq, decide_eq_false_iff_not, Bool.not_eq_true', Bool.not_eq_false'] at hg))
        | refine st_nil ?_
        | refine st_dnil ?_
        | refine st_tN ?_
        | refine st_seq ?_
        | refine st_block ?_
        | refine st_skip ?_
        | refine st_exit ?_
        | refine st_ret ?_
        | refine st_tE ?_
        | refine st_tR ?_
        | refine st_bN ?_
        | refine st_bR ?_
        | refine st_bH ?_
        | refine st_noN ?_
        | refine st_noR ?_
        | refine st_noE ?_
        | refine st_label ?_
        | refine st_scope tab mixed (by decide) ?_
        | refine st_bM rfl ?_)
    all_goals try (exfalso; omega)
    simp (disch := omega) only [AEnd, Try.results8, aresK, fin, go_sem, ↓reduceIte, Nat.reduceEqDiff, Nat.reduceAdd, Nat.reduceLeDiff, if_yes, if_no, implies_true, true_and, and_true, List.reverse_cons, List.reverse_nil]
  have k21 := c21ok h0 hp
  have hsm : Small lg := ⟨by omega, by omega, fun x hx => by have := (hlg.f x hx).us.len; omega⟩
  repeat' (first
      | refine st_seq_reg rfl (by first | (simp only [go_sem]; rfl) | rfl) (by first | (simp only [go_sem]; rfl) | rfl) ?_
      | refine st_reg rfl (by first | (simp only [go_sem]; rfl) | rfl) (by first | (simp only [go_sem]; rfl) | rfl) ?_
      | refine st_seq_draw rfl (by first | (simp only [go_sem]; rfl) | rfl) (by first | (simp only [go_sem]; rfl) | rfl) ?_
      | refine st_draw rfl (by first | (simp only [go_sem]; rfl) | rfl) (by first | (simp only [go_sem]; rfl) | rfl) ?_
      | refine st_op ?_
      | refine st_det rfl (by simp (disch := omega) only [go_sem, wr_i64, if_yes, if_no, ↓reduceIte, Nat.reduceAdd, Nat.reduceMul, Nat.reduceEqDiff, Nat.reduceBEq, Nat.reduceLeDiff]; rfl) ?_
      | refine st_dop rfl ?_
      | refine st_loc rfl (by simp (disch := omega) only [go_sem, wr_i64, if_yes, if_no, ↓reduceIte, Nat.reduceAdd, Nat.reduceMul, Nat.reduceEqDiff, Nat.reduceBEq, Nat.reduceLeDiff]; rfl) ?_
      | refine st_heap rfl (by simp (disch := omega) only [go_sem, wr_i64, if_yes, if_no, ↓reduceIte, Nat.reduceAdd, Nat.reduceMul, Nat.reduceEqDiff, Nat.reduceBEq, Nat.reduceLeDiff]; rfl) ?_
      | refine st_store (by simp (disch := omega) only [go_sem, wr_i64, if_yes, if_no, ↓reduceIte, Nat.reduceAdd, Nat.reduceMul, Nat.reduceEqDiff, Nat.reduceBEq, Nat.reduceLeDiff]; rfl) ?_
      | refine st_append (by simp (disch := omega) only [go_sem, wr_i64, if_yes, if_no, ↓reduceIte, Nat.reduceAdd, Nat.reduceMul, Nat.reduceEqDiff, Nat.reduceBEq, Nat.reduceLeDiff]; rfl) ?_
      | refine st_copy (by simp (disch := omega) only [go_sem, wr_i64, if_yes, if_no, ↓reduceIte, Nat.reduceAdd, Nat.reduceMul, Nat.reduceEqDiff, Nat.reduceBEq, Nat.reduceLeDiff]; rfl) ?_
      | (refine st_pureE (by first | (simp (disch := omega) only [go_sem]; rfl) | rfl) rfl (k21) (by first | (simp only [go_sem]; rfl) | rfl) (by intro n; simp (disch := omega) only [go_sem]; rfl) ?_; intro n hn)
      | refine st_gT rfl rfl rfl ?_
      | refine st_gF rfl rfl rfl ?_
      | refine st_dgT rfl rfl rfl rfl ?_
      | refine st_dgF rfl rfl rfl ?_
      | (refine st_gS rfl rfl ?_ ?_ <;> intro hg <;> (try simp only [decide_eq_true_eq, decide_eq_false_iff_not, Bool.not_eq_true', Bool.not_eq_false'] at hg))
      | (refine st_dgS rfl rfl ?_ ?_ <;> intro hg <;> (try simp only [decide_eq_true_eq, decide_eq_false_iff_not, Bool.not_eq_true', Bool.not_eq_false'] at hg))
      | refine st_condT rfl ?_
      | refine st_condF rfl ?_
      | (refine st_condS rfl ?_ ?_ <;> intro hg <;> (try simp only [decide_eq_true_eq, decide_eq_false_iff_not, Bool.not_eq_true', Bool.not_eq_false'] at hg))
      | refine st_nil ?_
      | refine st_dnil ?_
      | refine st_tN ?_
      | refine st_seq ?_
      | refine st_block ?_
      | refine st_skip ?_
      | refine st_exit ?_
      | refine st_ret ?_
      | refine st_tE ?_
      | refine st_tR ?_
      | refine st_bN ?_
      | refine st_bR ?_
      | refine st_bH ?_
      | refine st_noN ?_
      | refine st_noR ?_
      | refine st_noE ?_
      | refine st_label ?_
      | refine st_scope tab mixed (by decide) ?_
      | refine st_bM rfl ?_)
  all_goals try (exfalso; omega)
  revert n
  intro K hK
  refine st_callf rfl rfl (c19m lg hsm _) ?_
  rintro v H1 ⟨fv, rfl, o1, l1, k1, hS⟩
  have hcell : AV.cell fv = true := by rcases hS with ⟨rfl, _⟩ | ⟨b1, rfl, _⟩ <;> rfl
  repeat' (first
      | refine st_seq_reg rfl (by first | (simp only [go_sem, hcell]; rfl) | rfl) (by first | (simp only [go_sem, hcell]; rfl) | rfl) ?_
      | refine st_reg rfl (by first | (simp only [go_sem, hcell]; rfl) | rfl) (by first | (simp only [go_sem, hcell]; rfl) | rfl) ?_
      | refine st_seq_draw rfl (by first | (simp only [go_sem, hcell]; rfl) | rfl) (by first | (simp only [go_sem, hcell]; rfl) | rfl) ?_
      | refine st_draw rfl (by first | (simp only [go_sem, hcell]; rfl) | rfl) (by first | (simp only [go_sem, hcell]; rfl) | rfl) ?_
      | refine st_op ?_
      | refine st_det rfl (by simp (disch := omega) only [go_sem, wr_i64, if_yes, if_no, ↓reduceIte, Nat.reduceAdd, Nat.reduceMul, Nat.reduceEqDiff, Nat.reduceBEq, Nat.reduceLeDiff, hcell]; rfl) ?_
      | refine st_dop rfl ?_
      | refine st_loc rfl (by simp (disch := omega) only [go_sem, wr_i64, if_yes, if_no, ↓reduceIte, Nat.reduceAdd, Nat.reduceMul, Nat.reduceEqDiff, Nat.reduceBEq, Nat.reduceLeDiff, hcell]; rfl) ?_
      | refine st_heap rfl (by simp (disch := omega) only [go_sem, wr_i64, if_yes, if_no, ↓reduceIte, Nat.reduceAdd, Nat.reduceMul, Nat.reduceEqDiff, Nat.reduceBEq, Nat.reduceLeDiff, hcell]; rfl) ?_
      | refine st_store (by simp (disch := omega) only [go_sem, wr_i64, if_yes, if_no, ↓reduceIte, Nat.reduceAdd, Nat.reduceMul, Nat.reduceEqDiff, Nat.reduceBEq, Nat.reduceLeDiff, hcell]; rfl) ?_
      | refine st_append (by simp (disch := omega) only [go_sem, wr_i64, if_yes, if_no, ↓reduceIte, Nat.reduceAdd, Nat.reduceMul, Nat.reduceEqDiff, Nat.reduceBEq, Nat.reduceLeDiff, hcell]; rfl) ?_
      | refine st_copy (by simp (disch := omega) only [go_sem, wr_i64, if_yes, if_no, ↓reduceIte, Nat.reduceAdd, Nat.reduceMul, Nat.reduceEqDiff, Nat.reduceBEq, Nat.reduceLeDiff, hcell]; rfl) ?_
      | refine st_gT rfl rfl rfl ?_
      | refine st_gF rfl rfl rfl ?_
      | refine st_dgT rfl rfl rfl rfl ?_
      | refine st_dgF rfl rfl rfl ?_
      | (refine st_gS rfl rfl ?_ ?_ <;> intro hg <;> (try simp only [decide_eq_true_eq, decide_eq_false_iff_not, Bool.not_eq_true', Bool.not_eq_false'] at hg))
      | (refine st_dgS rfl rfl ?_ ?_ <;> intro hg <;> (try simp only [decide_eq_true_eq, decide_eq_false_iff_not, Bool.not_eq_true', Bool.not_eq_false'] at hg))
      | refine st_condT rfl ?_
      | refine st_condF rfl ?_
      | (refine st_condS rfl ?_ ?_ <;> intro hg <;> (try simp only [decide_eq_true_eq, decide_eq_false_iff_not, Bool.not_eq_true', Bool.not_eq_false'] at hg))
      | refine st_nil ?_
      | refine st_dnil ?_
      | refine st_tN ?_
      | refine st_seq ?_
      | refine st_block ?_
      | refine st_skip ?_
      | refine st_exit ?_
      | refine st_ret ?_
      | refine st_tE ?_
      | refine st_tR ?_
      | refine st_bN ?_
      | refine st_bR ?_
      | refine st_bH ?_
      | refine st_noN ?_
      | refine st_noR ?_
      | refine st_noE ?_
      | refine st_label ?_
      | refine st_scope tab mixed (by decide) ?_
      | refine st_bM rfl ?_)
  refine st_callf rfl rfl (c19l lg hsm _) ?_
  rintro v H2 ⟨bb, rfl, o2, l2, k2, k3, k4⟩
  repeat' (first
      | refine st_seq_reg rfl (by first | (simp only [go_sem, hcell]; rfl) | rfl) (by first | (simp only [go_sem, hcell]; rfl) | rfl) ?_
      | refine st_reg rfl (by first | (simp only [go_sem, hcell]; rfl) | rfl) (by first | (simp only [go_sem, hcell]; rfl) | rfl) ?_
      | refine st_seq_draw rfl (by first | (simp only [go_sem, hcell]; rfl) | rfl) (by first | (simp only [go_sem, hcell]; rfl) | rfl) ?_
      | refine st_draw rfl (by first | (simp only [go_sem, hcell]; rfl) | rfl) (by first | (simp only [go_sem, hcell]; rfl) | rfl) ?_
      | refine st_op ?_
      | refine st_det rfl (by simp (disch := omega) only [go_sem, wr_i64, if_yes, if_no, ↓reduceIte, Nat.reduceAdd, Nat.reduceMul, Nat.reduceEqDiff, Nat.reduceBEq, Nat.reduceLeDiff, hcell]; rfl) ?_
      | refine st_dop rfl ?_
      | refine st_loc rfl (by simp (disch := omega) only [go_sem, wr_i64, if_yes, if_no, ↓reduceIte, Nat.reduceAdd, Nat.reduceMul, Nat.reduceEqDiff, Nat.reduceBEq, Nat.reduceLeDiff, hcell]; rfl) ?_
      | refine st_heap rfl (by simp (disch := omega) only [go_sem, wr_i64, if_yes, if_no, ↓reduceIte, Nat.reduceAdd, Nat.reduceMul, Nat.reduceEqDiff, Nat.reduceBEq, Nat.reduceLeDiff, hcell]; rfl) ?_
      | refine st_store (by simp (disch := omega) only [go_sem, wr_i64, if_yes, if_no, ↓reduceIte, Nat.reduceAdd, Nat.reduceMul, Nat.reduceEqDiff, Nat.reduceBEq, Nat.reduceLeDiff, hcell]; rfl) ?_
      | refine st_append (by simp (disch := omega) only [go_sem, wr_i64, if_yes, if_no, ↓reduceIte, Nat.reduceAdd, Nat.reduceMul, Nat.reduceEqDiff, Nat.reduceBEq, Nat.reduceLeDiff, hcell]; rfl) ?_
      | refine st_copy (by simp (disch := omega) only [go_sem, wr_i64, if_yes, if_no, ↓reduceIte, Nat.reduceAdd, Nat.reduceMul, Nat.reduceEqDiff, Nat.reduceBEq, Nat.reduceLeDiff, hcell]; rfl) ?_
      | refine st_gT rfl rfl rfl ?_
      | refine st_gF rfl rfl rfl ?_
      | refine st_dgT rfl rfl rfl rfl ?_
      | refine st_dgF rfl rfl rfl ?_
      | (refine st_gS rfl rfl ?_ ?_ <;> intro hg <;> (try simp only [decide_eq_true_eq, decide_eq_false_iff_not, Bool.not_eq_true', Bool.not_eq_false'] at hg))
      | (refine st_dgS rfl rfl ?_ ?_ <;> intro hg <;> (try simp only [decide_eq_true_eq, decide_eq_false_iff_not, Bool.not_eq_true', Bool.not_eq_false'] at hg))
      | refine st_condT rfl ?_
      | refine st_condF rfl ?_
      | (refine st_condS rfl ?_ ?_ <;> intro hg <;> (try simp only [decide_eq_true_eq, decide_eq_false_iff_not, Bool.not_eq_true', Bool.not_eq_false'] at hg))
      | refine st_nil ?_
      | refine st_dnil ?_
      | refine st_tN ?_
      | refine st_seq ?_
      | refine st_block ?_
      | refine st_skip ?_
      | refine st_exit ?_
      | refine st_ret ?_
      | refine st_tE ?_
      | refine st_tR ?_
      | refine st_bN ?_
      | refine st_bR ?_
      | refine st_bH ?_
      | refine st_noN ?_
      | refine st_noR ?_
      | refine st_noE ?_
      | refine st_label ?_
      | refine st_scope tab mixed (by decide) ?_
      | refine st_bM rfl ?_)
  simp only [go_sem] at o1 k1 o2 k3 k4
  have hbn1 : b.1 < K := by omega
  have d1 : H1.at_ b = dr x' := by rw [o1 b (by omega)]; simp only [go_sem, ↓reduceIte]
  have d2 : H2.at_ b = dr x' := by rw [o2 b (by omega)]; exact d1
  have hbb : b.1 < bb.1 := by omega
  have hM0 : ∀ k, k < lg.fs.length → More (fd lg.fs k) (fd lg.fs k) := fun k hk => by
    have := hlg.f _ (fd_mem hk)
    have a1 := this.day; have a2 := this.till
    exact ⟨by omega, by omega, by omega, .inl rfl⟩
  have hV0 : FvS fv b bb lg.fs H2 := by
    rcases hS with ⟨e1, e2⟩ | ⟨b1, e1, e2, e3, e4⟩
    · exact .inl ⟨e1, by simpa using e2⟩
    · simp only [go_sem] at e3
      exact .inr ⟨b1, by rw [e1, List.length_map], by rw [o2 b1 (by omega)]; exact e2, by omega, by omega⟩
  refine st_loopH (α := LmS) tab mixed [] [] (by repeat (first | exact trivial | refine ⟨rfl, ?_⟩)) [4, 7, 8] [_, _, _] (by repeat (first | exact trivial | refine ⟨rfl, ?_⟩)) (fun a => [(9, .int .i64 (a.i : Nat))]) [(3, _), (4, _), (7, _), (8, _)] (fun _ => []) [_, _, _] (fun a => a.g) (fun a => isU64 a.x ∧ a.g.at_ b = dr a.x ∧ a.g.at_ bb = some ⟨3, lg.bs.map Bl.row⟩ ∧ a.F.length = lg.fs.length ∧ a.i ≤ lg.fs.length ∧ (∀ k, k < lg.fs.length → More (fd lg.fs k) (fd a.F k)) ∧ (∀ k, a.i ≤ k → fd a.F k = fd lg.fs k) ∧ FvS fv b bb a.F a.g ∧ bb.1 < a.g.clk) (fun a => lg.fs.length - a.i) (by decide) ⟨0, x', lg.fs, _⟩ (by refine ⟨hu', d2, k2, rfl, Nat.zero_le _, hM0, fun _ _ => rfl, hV0, (by simp only [go_sem]; omega)⟩) (by (try simp only [go_sem]); repeat' (first | exact trivial | refine And.intro ?_ ?_ | rfl | (simp (disch := omega) only [go_sem, if_yes, if_no, ↓reduceIte, Nat.reduceAdd, Nat.reduceMul, Nat.reduceEqDiff, Nat.reduceBEq, Nat.reduceLeDiff]; rfl) | (simp (disch := omega) only [go_sem, if_yes, if_no, ↓reduceIte, Nat.reduceAdd, Nat.reduceMul, Nat.reduceEqDiff, Nat.reduceBEq, Nat.reduceLeDiff]))) (by (try simp only [go_sem]); repeat' (first | exact trivial | refine And.intro ?_ ?_ | rfl | (simp (disch := omega) only [go_sem, if_yes, if_no, ↓reduceIte, Nat.reduceAdd, Nat.reduceMul, Nat.reduceEqDiff, Nat.reduceBEq, Nat.reduceLeDiff]; rfl) | (simp (disch := omega) only [go_sem, if_yes, if_no, ↓reduceIte, Nat.reduceAdd, Nat.reduceMul, Nat.reduceEqDiff, Nat.reduceBEq, Nat.reduceLeDiff]))) (HOld.refl _) ?_
  rintro ⟨i, x, F, g⟩ c ⟨hu, d3, b3, f1, f2, f3, f4, hV, c3⟩ hc
  dsimp only at hu d3 b3 f1 f2 f3 f4 hV c3 hc
  simp only [go_sem]
  by_cases hi : i < lg.fs.length
  case pos =>
    rcases hV with ⟨_, e⟩ | ⟨bf, rfl, q2, q3, q4⟩
    · exfalso; rw [e] at f1; simp at f1; omega
    have nbf : ¬ bf = b := fun e => by rw [e] at q4; omega
    have nfb : ¬ b = bf := fun e => nbf e.symm
    have nbb : ¬ bb = b := fun e => by rw [e] at hbb; omega
    have nbx : ¬ b = bb := fun e => nbb e.symm
    have nbq : ¬ bf = bb := fun e => by rw [e] at q3; omega
    have nqb : ¬ bb = bf := fun e => nbq e.symm
    have fi := f4 i (Nat.le_refl _)
    have hgi := hlg.f _ (fd_mem hi)
    have a1 := hgi.day; have a2 := hgi.till; have a3 := hgi.amt
    repeat' (first
        | refine st_seq_reg rfl (by first | (simp only [go_sem, q2, Nat.zero_add]; rfl) | rfl) (by first | (simp only [go_sem, q2, Nat.zero_add]; rfl) | rfl) ?_
        | refine st_reg rfl (by first | (simp only [go_sem, q2, Nat.zero_add]; rfl) | rfl) (by first | (simp only [go_sem, q2, Nat.zero_add]; rfl) | rfl) ?_
        | refine st_seq_draw rfl (by first | (simp only [go_sem, q2, Nat.zero_add]; rfl) | rfl) (by first | (simp only [go_sem, q2, Nat.zero_add]; rfl) | rfl) ?_
        | refine st_draw rfl (by first | (simp only [go_sem, q2, Nat.zero_add]; rfl) | rfl) (by first | (simp only [go_sem, q2, Nat.zero_add]; rfl) | rfl) ?_
        | refine st_op ?_
        | refine st_det rfl (by simp (disch := omega) only [go_sem, wr_i64, if_yes, if_no, ↓reduceIte, Nat.reduceAdd, Nat.reduceMul, Nat.reduceEqDiff, Nat.reduceBEq, Nat.reduceLeDiff, q2, Nat.zero_add]; rfl) ?_
        | refine st_dop rfl ?_
        | refine st_loc rfl (by simp (disch := omega) only [go_sem, wr_i64, if_yes, if_no, ↓reduceIte, Nat.reduceAdd, Nat.reduceMul, Nat.reduceEqDiff, Nat.reduceBEq, Nat.reduceLeDiff, q2, Nat.zero_add]; rfl) ?_
        | refine st_heap rfl (by simp (disch := omega) only [go_sem, wr_i64, if_yes, if_no, ↓reduceIte, Nat.reduceAdd, Nat.reduceMul, Nat.reduceEqDiff, Nat.reduceBEq, Nat.reduceLeDiff, q2, Nat.zero_add]; rfl) ?_
        | refine st_store (by simp (disch := omega) only [go_sem, wr_i64, if_yes, if_no, ↓reduceIte, Nat.reduceAdd, Nat.reduceMul, Nat.reduceEqDiff, Nat.reduceBEq, Nat.reduceLeDiff, q2, Nat.zero_add]; rfl) ?_
        | refine st_append (by simp (disch := omega) only [go_sem, wr_i64, if_yes, if_no, ↓reduceIte, Nat.reduceAdd, Nat.reduceMul, Nat.reduceEqDiff, Nat.reduceBEq, Nat.reduceLeDiff, q2, Nat.zero_add]; rfl) ?_
        | refine st_copy (by simp (disch := omega) only [go_sem, wr_i64, if_yes, if_no, ↓reduceIte, Nat.reduceAdd, Nat.reduceMul, Nat.reduceEqDiff, Nat.reduceBEq, Nat.reduceLeDiff, q2, Nat.zero_add]; rfl) ?_
        | refine st_gT rfl rfl rfl ?_
        | refine st_gF rfl rfl rfl ?_
        | refine st_dgT rfl rfl rfl rfl ?_
        | refine st_dgF rfl rfl rfl ?_
        | (refine st_gS rfl rfl ?_ ?_ <;> intro hg <;> (try simp only [decide_eq_true_eq, decide_eq_false_iff_not, Bool.not_eq_true', Bool.not_eq_false'] at hg))
        | (refine st_dgS rfl rfl ?_ ?_ <;> intro hg <;> (try simp only [decide_eq_true_eq, decide_eq_false_iff_not, Bool.not_eq_true', Bool.not_eq_false'] at hg))
        | refine st_condT rfl ?_
        | refine st_condF rfl ?_
        | (refine st_condS rfl ?_ ?_ <;> intro hg <;> (try simp only [decide_eq_true_eq, decide_eq_false_iff_not, Bool.not_eq_true', Bool.not_eq_false'] at hg))
        | refine st_nil ?_
        | refine st_dnil ?_
        | refine st_tN ?_
        | refine st_seq ?_
        | refine st_block ?_
        | refine st_skip ?_
        | refine st_exit ?_
        | refine st_ret ?_
        | refine st_tE ?_
        | refine st_tR ?_
        | refine st_bN ?_
        | refine st_bR ?_
        | refine st_bH ?_
        | refine st_noN ?_
        | refine st_noR ?_
        | refine st_noE ?_
        | refine st_label ?_
        | refine st_scope tab mixed (by decide) ?_
        | refine st_bM rfl ?_)
    all_goals try (exfalso; omega)
    have gs : ∀ r, ((F.map Fd.row).set i r).getD i [] = r := fun r => by
      rw [List.getD_eq_getElem?_getD, List.getElem?_set_self (by rw [List.length_map]; omega)]; rfl
    refine st_free ?_
    refine st_drawG (gb := bf) tab mixed (f2 := ⟨120, [4, 7, 8], [78], none, [(6, [0, 1, 0, 7, 0, 0, 63, 127], [(0, true), (2, true), (4, false), (5, false), (1, false), (3, false), (6, false), (7, false)]), (11, [0, 0, 0, 0, 8, 24, 56, 0, 128, 504, 0, 0, 2048, 6144, 14336, 32128, 0, 0, 131072, 393216, 917504, 2096512, 4194297, 8388601, 16777209, 33554427, 67108859, 134217723, 268435455, 536870911, 1073741823], [(0, false), (1, false), (2, false), (3, false), (4, false), (5, false), (6, true), (7, false), (10, false), (11, false), (12, false), (13, false), (14, true), (16, false), (17, false), (18, false), (19, false), (20, true), (8, false), (9, false), (15, false), (21, false), (22, false), (23, false), (24, false), (25, false), (26, false), (27, false), (28, false), (29, false), (30, false)]), (16, [0, 1, 0, 7, 0, 16, 0, 64, 240, 511, 1023, 2047], [(0, false), (1, true), (2, false), (3, false), (4, false), (5, true), (6, false), (7, false), (8, false), (9, false), (10, false), (11, false)])]⟩) rfl rfl (by first | (simp only [go_sem]; rfl) | rfl) (by first | (simp only [go_sem]; rfl) | rfl) (by first | (simp only [go_sem]; rfl) | rfl) (by decide) ?_
    generalize hy : fd F i = y at *
    rw [← fi] at a1 a2 a3 hgi
    repeat' (first
        | refine st_seq_reg rfl (by first | (simp only [go_sem, q2, d3, hy, nbf, nfb, Nat.zero_add, gs, List.length_set, List.length_map, List.set_set]; rfl) | rfl) (by first | (simp only [go_sem, q2, d3, hy, nbf, nfb, Nat.zero_add, gs, List.length_set, List.length_map, List.set_set]; rfl) | rfl) ?_
        | refine st_reg rfl (by first | (simp only [go_sem, q2, d3, hy, nbf, nfb, Nat.zero_add, gs, List.length_set, List.length_map, List.set_set]; rfl) | rfl) (by first | (simp only [go_sem, q2, d3, hy, nbf, nfb, Nat.zero_add, gs, List.length_set, List.length_map, List.set_set]; rfl) | rfl) ?_
        | refine st_seq_draw rfl (by first | (simp only [go_sem, q2, d3, hy, nbf, nfb, Nat.zero_add, gs, List.length_set, List.length_map, List.set_set]; rfl) | rfl) (by first | (simp only [go_sem, q2, d3, hy, nbf, nfb, Nat.zero_add, gs, List.length_set, List.length_map, List.set_set]; rfl) | rfl) ?_
        | refine st_draw rfl (by first | (simp only [go_sem, q2, d3, hy, nbf, nfb, Nat.zero_add, gs, List.length_set, List.length_map, List.set_set]; rfl) | rfl) (by first | (simp only [go_sem, q2, d3, hy, nbf, nfb, Nat.zero_add, gs, List.length_set, List.length_map, List.set_set]; rfl) | rfl) ?_
        | refine st_op ?_
        | refine st_det rfl (by simp (disch := omega) only [go_sem, wr_i64, if_yes, if_no, ↓reduceIte, Nat.reduceAdd, Nat.reduceMul, Nat.reduceEqDiff, Nat.reduceBEq, Nat.reduceLeDiff, q2, d3, hy, nbf, nfb, Nat.zero_add, gs, List.length_set, List.length_map, List.set_set]; rfl) ?_
        | refine st_dop rfl ?_
        | refine st_loc rfl (by simp (disch := omega) only [go_sem, wr_i64, if_yes, if_no, ↓reduceIte, Nat.reduceAdd, Nat.reduceMul, Nat.reduceEqDiff, Nat.reduceBEq, Nat.reduceLeDiff, q2, d3, hy, nbf, nfb, Nat.zero_add, gs, List.length_set, List.length_map, List.set_set]; rfl) ?_
        | refine st_heap rfl (by simp (disch := omega) only [go_sem, wr_i64, if_yes, if_no, ↓reduceIte, Nat.reduceAdd, Nat.reduceMul, Nat.reduceEqDiff, Nat.reduceBEq, Nat.reduceLeDiff, q2, d3, hy, nbf, nfb, Nat.zero_add, gs, List.length_set, List.length_map, List.set_set]; rfl) ?_
        | refine st_store (by simp (disch := omega) only [go_sem, wr_i64, if_yes, if_no, ↓reduceIte, Nat.reduceAdd, Nat.reduceMul, Nat.reduceEqDiff, Nat.reduceBEq, Nat.reduceLeDiff, q2, d3, hy, nbf, nfb, Nat.zero_add, gs, List.length_set, List.length_map, List.set_set]; rfl) ?_
        | refine st_append (by simp (disch := omega) only [go_sem, wr_i64, if_yes, if_no, ↓reduceIte, Nat.reduceAdd, Nat.reduceMul, Nat.reduceEqDiff, Nat.reduceBEq, Nat.reduceLeDiff, q2, d3, hy, nbf, nfb, Nat.zero_add, gs, List.length_set, List.length_map, List.set_set]; rfl) ?_
        | refine st_copy (by simp (disch := omega) only [go_sem, wr_i64, if_yes, if_no, ↓reduceIte, Nat.reduceAdd, Nat.reduceMul, Nat.reduceEqDiff, Nat.reduceBEq, Nat.reduceLeDiff, q2, d3, hy, nbf, nfb, Nat.zero_add, gs, List.length_set, List.length_map, List.set_set]; rfl) ?_
        | (refine st_drum (by first | (simp (disch := omega) only [go_sem, q2, d3, hy, nbf, nfb, Nat.zero_add, gs, List.length_set, List.length_map, List.set_set]; rfl) | rfl) rfl (c44 b 2 (by decide)) (by first | (simp (disch := omega) only [go_sem, q2, d3, hy, nbf, nfb, Nat.zero_add, gs, List.length_set, List.length_map, List.set_set]; rfl) | rfl) (by assumption) (by first | (simp only [go_sem, q2, d3, hy, nbf, nfb, Nat.zero_add, gs, List.length_set, List.length_map, List.set_set]; rfl) | rfl) (by intro x' n; simp (disch := omega) only [go_sem]; rfl) ?_; rintro v x' n hu' ⟨r4, rfl⟩ hn)
        | (refine st_Gdet rfl (by first | rfl | (simp (disch := omega) only [flagG, go_sem, decide_true])) ?_)
        | (refine st_Geff rfl rfl ?_)
        | (refine st_drum (by first | (simp (disch := omega) only [go_sem, q2, d3, hy, nbf, nfb, Nat.zero_add, gs, List.length_set, List.length_map, List.set_set]; rfl) | rfl) rfl (c20' b 9 (by omega)) (by first | (simp (disch := omega) only [go_sem, q2, d3, hy, nbf, nfb, Nat.zero_add, gs, List.length_set, List.length_map, List.set_set]; rfl) | rfl) (by assumption) (by first | (simp only [go_sem, q2, d3, hy, nbf, nfb, Nat.zero_add, gs, List.length_set, List.length_map, List.set_set]; rfl) | rfl) (by intro x' n; simp (disch := omega) only [go_sem]; rfl) ?_; rintro v x' n hu' ⟨r1, rfl, hr1⟩ hn)
        | (refine st_drum (by first | (simp (disch := omega) only [go_sem, q2, d3, hy, nbf, nfb, Nat.zero_add, gs, List.length_set, List.length_map, List.set_set]; rfl) | rfl) rfl (c43' b 0 y.day (by omega) (by omega)) (by first | (simp (disch := omega) only [go_sem, q2, d3, hy, nbf, nfb, Nat.zero_add, gs, List.length_set, List.length_map, List.set_set]; rfl) | rfl) (by assumption) (by first | (simp only [go_sem, q2, d3, hy, nbf, nfb, Nat.zero_add, gs, List.length_set, List.length_map, List.set_set]; rfl) | rfl) (by intro x' n; simp (disch := omega) only [go_sem]; rfl) ?_; rintro v x' n hu' ⟨r2, rfl, hr2⟩ hn)
        | (refine st_drum (by first | (simp (disch := omega) only [go_sem, q2, d3, hy, nbf, nfb, Nat.zero_add, gs, List.length_set, List.length_map, List.set_set]; rfl) | rfl) rfl (c43' b y.till 3650 (by omega) (by omega)) (by first | (simp (disch := omega) only [go_sem, q2, d3, hy, nbf, nfb, Nat.zero_add, gs, List.length_set, List.length_map, List.set_set]; rfl) | rfl) (by assumption) (by first | (simp only [go_sem, q2, d3, hy, nbf, nfb, Nat.zero_add, gs, List.length_set, List.length_map, List.set_set]; rfl) | rfl) (by intro x' n; simp (disch := omega) only [go_sem]; rfl) ?_; rintro v x' n hu' ⟨r3, rfl, hr3⟩ hn)
        | (refine st_keepG (by simp only [go_sem, nbf, ↓reduceIte]) ?_)
        | (refine st_Gnil ?_)
        | refine st_gT rfl rfl rfl ?_
        | refine st_gF rfl rfl rfl ?_
        | refine st_dgT rfl rfl rfl rfl ?_
        | refine st_dgF rfl rfl rfl ?_
        | (refine st_gS rfl rfl ?_ ?_ <;> intro hg <;> (try simp only [decide_eq_true_eq, decide_eq_false_iff_not, Bool.not_eq_true', Bool.not_eq_false'] at hg))
        | (refine st_dgS rfl rfl ?_ ?_ <;> intro hg <;> (try simp only [decide_eq_true_eq, decide_eq_false_iff_not, Bool.not_eq_true', Bool.not_eq_false'] at hg))
        | refine st_condT rfl ?_
        | refine st_condF rfl ?_
        | (refine st_condS rfl ?_ ?_ <;> intro hg <;> (try simp only [decide_eq_true_eq, decide_eq_false_iff_not, Bool.not_eq_true', Bool.not_eq_false'] at hg))
        | refine st_nil ?_
        | refine st_dnil ?_
        | refine st_tN ?_
        | refine st_seq ?_
        | refine st_block ?_
        | refine st_skip ?_
        | refine st_exit ?_
        | refine st_ret ?_
        | refine st_tE ?_
        | refine st_tR ?_
        | refine st_bN ?_
        | refine st_bR ?_
        | refine st_bH ?_
        | refine st_noN ?_
        | refine st_noR ?_
        | refine st_noE ?_
        | refine st_label ?_
        | refine st_scope tab mixed (by decide) ?_
        | refine st_bM rfl ?_)
    · have hym : More y ⟨r2, r3, y.amt + r1, [0, 1, 2, 7]⟩ := ⟨⟨hr2.1, hr2.2⟩, ⟨hr3.1, hr3.2⟩, ⟨by show y.amt ≤ y.amt + r1; omega, by show y.amt + r1 ≤ y.amt + 9; omega⟩, .inr rfl⟩
      refine ⟨⟨i + 1, x', F.set i ⟨r2, r3, y.amt + r1, [0, 1, 2, 7]⟩, _⟩, (by refine ⟨hu', by simp only [go_sem, nfb, ↓reduceIte], by simp only [go_sem, nbb, nqb, ↓reduceIte]; exact b3, by rw [List.length_set]; exact f1, by show i + 1 ≤ lg.fs.length; omega, fun k hk => ?_, fun k hk => ?_, .inr ⟨bf, by rw [List.length_set], by simp only [go_sem, ↓reduceIte]; rw [List.map_set]; rfl, q3, q4⟩, by simp only [go_sem]; omega⟩; (rw [fd_set (by omega)]; by_cases e : k = i; (rw [if_pos e, e, ← fi]; exact hym); (rw [if_neg e]; exact f3 k hk)); (have hk' : i + 1 ≤ k := hk; rw [fd_set (by omega), if_neg (by omega)]; exact f4 k (by omega))), by show lg.fs.length - (i + 1) < lg.fs.length - i; omega, (by repeat' (first | exact trivial | refine And.intro ?_ ?_ | rfl | (simp (disch := omega) only [go_sem, if_yes, if_no, ↓reduceIte, Nat.reduceAdd, Nat.reduceMul, Nat.reduceEqDiff, Nat.reduceBEq, Nat.reduceLeDiff]; rfl) | (simp (disch := omega) only [go_sem, if_yes, if_no, ↓reduceIte, Nat.reduceAdd, Nat.reduceMul, Nat.reduceEqDiff, Nat.reduceBEq, Nat.reduceLeDiff]))), (by repeat' (first | exact trivial | refine And.intro ?_ ?_ | rfl | (simp (disch := omega) only [go_sem, if_yes, if_no, ↓reduceIte, Nat.reduceAdd, Nat.reduceMul, Nat.reduceEqDiff, Nat.reduceBEq, Nat.reduceLeDiff]; rfl) | (simp (disch := omega) only [go_sem, if_yes, if_no, ↓reduceIte, Nat.reduceAdd, Nat.reduceMul, Nat.reduceEqDiff, Nat.reduceBEq, Nat.reduceLeDiff]))), rfl, HOld.refl _⟩
    · have hym : More y ⟨r2, r3, y.amt + r1, y.uses⟩ := ⟨⟨hr2.1, hr2.2⟩, ⟨hr3.1, hr3.2⟩, ⟨by show y.amt ≤ y.amt + r1; omega, by show y.amt + r1 ≤ y.amt + 9; omega⟩, .inl rfl⟩
      refine ⟨⟨i + 1, x', F.set i ⟨r2, r3, y.amt + r1, y.uses⟩, _⟩, (by refine ⟨hu', by simp only [go_sem, nfb, ↓reduceIte], by simp only [go_sem, nbb, nqb, ↓reduceIte]; exact b3, by rw [List.length_set]; exact f1, by show i + 1 ≤ lg.fs.length; omega, fun k hk => ?_, fun k hk => ?_, .inr ⟨bf, by rw [List.length_set], by simp only [go_sem, nbf, ↓reduceIte]; rw [List.map_set]; rfl, q3, q4⟩, by simp only [go_sem]; omega⟩; (rw [fd_set (by omega)]; by_cases e : k = i; (rw [if_pos e, e, ← fi]; exact hym); (rw [if_neg e]; exact f3 k hk)); (have hk' : i + 1 ≤ k := hk; rw [fd_set (by omega), if_neg (by omega)]; exact f4 k (by omega))), by show lg.fs.length - (i + 1) < lg.fs.length - i; omega, (by repeat' (first | exact trivial | refine And.intro ?_ ?_ | rfl | (simp (disch := omega) only [go_sem, if_yes, if_no, ↓reduceIte, Nat.reduceAdd, Nat.reduceMul, Nat.reduceEqDiff, Nat.reduceBEq, Nat.reduceLeDiff]; rfl) | (simp (disch := omega) only [go_sem, if_yes, if_no, ↓reduceIte, Nat.reduceAdd, Nat.reduceMul, Nat.reduceEqDiff, Nat.reduceBEq, Nat.reduceLeDiff]))), (by repeat' (first | exact trivial | refine And.intro ?_ ?_ | rfl | (simp (disch := omega) only [go_sem, if_yes, if_no, ↓reduceIte, Nat.reduceAdd, Nat.reduceMul, Nat.reduceEqDiff, Nat.reduceBEq, Nat.reduceLeDiff]; rfl) | (simp (disch := omega) only [go_sem, if_yes, if_no, ↓reduceIte, Nat.reduceAdd, Nat.reduceMul, Nat.reduceEqDiff, Nat.reduceBEq, Nat.reduceLeDiff]))), rfl, HOld.refl _⟩
  obtain rfl : i = lg.fs.length := by omega
  have hal : alen (tt 22) fv = some ((F.length : Nat) : Int) := by
    rcases hV with ⟨rfl, e⟩ | ⟨bf, rfl, _⟩
    · rw [e]; rfl
    · rfl
  obtain ⟨mc, mp⟩ := more_none hlg hp f1 f3
  have km := c21ok mc mp
  have hfvc : ∀ b1 m, fv = .slc b1 4 0 m → b1.1 < bb.1 ∧ b.1 < b1.1 := fun b1 m e => by
    rcases hV with ⟨e', _⟩ | ⟨bf, e', _, q3, q4⟩
    · rw [e'] at e; cases e
    · rw [e'] at e; injection e with e1; rw [← e1]; exact ⟨q3, q4⟩
  have nbb : ¬ bb = b := fun e => by rw [e] at hbb; omega
  by_cases hnb : lg.bs.length = 0
  · have kl : Pure Try.prog 21 [(⟨lg.fs, lg.bs⟩ : Lg).av] (fun v => v = .tup [.lst 1 ((traceL lg).map rowA), .int .i64 0]) := c21ok h0 hp
    repeat' (first
        | refine st_seq_reg rfl (by first | (simp only [go_sem, hal, f1]; rfl) | rfl) (by first | (simp only [go_sem, hal, f1]; rfl) | rfl) ?_
        | refine st_reg rfl (by first | (simp only [go_sem, hal, f1]; rfl) | rfl) (by first | (simp only [go_sem, hal, f1]; rfl) | rfl) ?_
        | refine st_seq_draw rfl (by first | (simp only [go_sem, hal, f1]; rfl) | rfl) (by first | (simp only [go_sem, hal, f1]; rfl) | rfl) ?_
        | refine st_draw rfl (by first | (simp only [go_sem, hal, f1]; rfl) | rfl) (by first | (simp only [go_sem, hal, f1]; rfl) | rfl) ?_
        | refine st_op ?_
        | refine st_det rfl (by simp (disch := omega) only [go_sem, wr_i64, if_yes, if_no, ↓reduceIte, Nat.reduceAdd, Nat.reduceMul, Nat.reduceEqDiff, Nat.reduceBEq, Nat.reduceLeDiff, hal, f1]; rfl) ?_
        | refine st_dop rfl ?_
        | refine st_loc rfl (by simp (disch := omega) only [go_sem, wr_i64, if_yes, if_no, ↓reduceIte, Nat.reduceAdd, Nat.reduceMul, Nat.reduceEqDiff, Nat.reduceBEq, Nat.reduceLeDiff, hal, f1]; rfl) ?_
        | refine st_heap rfl (by simp (disch := omega) only [go_sem, wr_i64, if_yes, if_no, ↓reduceIte, Nat.reduceAdd, Nat.reduceMul, Nat.reduceEqDiff, Nat.reduceBEq, Nat.reduceLeDiff, hal, f1]; rfl) ?_
        | refine st_store (by simp (disch := omega) only [go_sem, wr_i64, if_yes, if_no, ↓reduceIte, Nat.reduceAdd, Nat.reduceMul, Nat.reduceEqDiff, Nat.reduceBEq, Nat.reduceLeDiff, hal, f1]; rfl) ?_
        | refine st_append (by simp (disch := omega) only [go_sem, wr_i64, if_yes, if_no, ↓reduceIte, Nat.reduceAdd, Nat.reduceMul, Nat.reduceEqDiff, Nat.reduceBEq, Nat.reduceLeDiff, hal, f1]; rfl) ?_
        | refine st_copy (by simp (disch := omega) only [go_sem, wr_i64, if_yes, if_no, ↓reduceIte, Nat.reduceAdd, Nat.reduceMul, Nat.reduceEqDiff, Nat.reduceBEq, Nat.reduceLeDiff, hal, f1]; rfl) ?_
        | refine st_gT rfl rfl rfl ?_
        | refine st_gF rfl rfl rfl ?_
        | refine st_dgT rfl rfl rfl rfl ?_
        | refine st_dgF rfl rfl rfl ?_
        | (refine st_gS rfl rfl ?_ ?_ <;> intro hg <;> (try simp only [decide_eq_true_eq, decide_eq_false_iff_not, Bool.not_eq_true', Bool.not_eq_false'] at hg))
        | (refine st_dgS rfl rfl ?_ ?_ <;> intro hg <;> (try simp only [decide_eq_true_eq, decide_eq_false_iff_not, Bool.not_eq_true', Bool.not_eq_false'] at hg))
        | refine st_condT rfl ?_
        | refine st_condF rfl ?_
        | (refine st_condS rfl ?_ ?_ <;> intro hg <;> (try simp only [decide_eq_true_eq, decide_eq_false_iff_not, Bool.not_eq_true', Bool.not_eq_false'] at hg))
        | refine st_nil ?_
        | refine st_dnil ?_
        | refine st_tN ?_
        | refine st_seq ?_
        | refine st_block ?_
        | refine st_skip ?_
        | refine st_exit ?_
        | refine st_ret ?_
        | refine st_tE ?_
        | refine st_tR ?_
        | refine st_bN ?_
        | refine st_bR ?_
        | refine st_bH ?_
        | refine st_noN ?_
        | refine st_noR ?_
        | refine st_noE ?_
        | refine st_label ?_
        | refine st_scope tab mixed (by decide) ?_
        | refine st_bM rfl ?_)
    all_goals try (exfalso; omega)
    refine st_free ?_
    refine ASem.cutX (K + 1, 8) (fun b2 => b2 = bb) (cs := [.lst 4 (lg.fs.map Fd.row), .slc bb 3 0 lg.bs.length]) (cs' := [.lst 4 (lg.fs.map Fd.row), .lst 3 (lg.bs.map Bl.row)]) (by simp only [go_sem]; simp) (.inr ⟨bb, _, by simp only [go_sem]; exact b3, ?_, rfl⟩) fun H3 h3a h3b h3c => ?_
    · simp only [frzs]; rw [← List.length_map Bl.row, frz_whole, frz_fd]
    refine ASem.cutX (K + 1, 7) (fun b2 => ∃ m, fv = .slc b2 4 0 m) (cs := [fv, .lst 3 (lg.bs.map Bl.row)]) (cs' := [.lst 4 (F.map Fd.row), .lst 3 (lg.bs.map Bl.row)]) (by simp only [go_sem]; simp) ?_ fun H4 h4a h4b h4c => ?_
    · rcases hV with ⟨e1, e2⟩ | ⟨bf, e1, q2, q3, q4⟩
      · refine .inl ⟨?_, fun _ => rfl⟩
        rw [e1, e2]; simp only [VLes]; exact ⟨_, _, rfl, VLe.nils 4, _, _, rfl, .refl _, rfl⟩
      · refine .inr ⟨bf, _, by rw [h3a bf (fun e => by rw [e] at q3; omega)]; simp only [go_sem]; exact q2, ?_, ⟨_, e1⟩⟩
        rw [e1]; simp only [frzs]; rw [← List.length_map Fd.row, frz_whole, frz_bl]
    refine st_run tab mixed (f2 := ⟨120, [4, 7, 8], [78], none, [(6, [0, 1, 0, 7, 0, 0, 63, 127], [(0, true), (2, true), (4, false), (5, false), (1, false), (3, false), (6, false), (7, false)]), (11, [0, 0, 0, 0, 8, 24, 56, 0, 128, 504, 0, 0, 2048, 6144, 14336, 32128, 0, 0, 131072, 393216, 917504, 2096512, 4194297, 8388601, 16777209, 33554427, 67108859, 134217723, 268435455, 536870911, 1073741823], [(0, false), (1, false), (2, false), (3, false), (4, false), (5, false), (6, true), (7, false), (10, false), (11, false), (12, false), (13, false), (14, true), (16, false), (17, false), (18, false), (19, false), (20, true), (8, false), (9, false), (15, false), (21, false), (22, false), (23, false), (24, false), (25, false), (26, false), (27, false), (28, false), (29, false), (30, false)]), (16, [0, 1, 0, 7, 0, 16, 0, 64, 240, 511, 1023, 2047], [(0, false), (1, true), (2, false), (3, false), (4, false), (5, true), (6, false), (7, false), (8, false), (9, false), (10, false), (11, false)])]⟩) rfl rfl (by decide) ?_
    repeat' (first
        | refine st_seq_reg rfl (by first | (simp only [go_sem]; rfl) | rfl) (by first | (simp only [go_sem]; rfl) | rfl) ?_
        | refine st_reg rfl (by first | (simp only [go_sem]; rfl) | rfl) (by first | (simp only [go_sem]; rfl) | rfl) ?_
        | refine st_seq_draw rfl (by first | (simp only [go_sem]; rfl) | rfl) (by first | (simp only [go_sem]; rfl) | rfl) ?_
        | refine st_draw rfl (by first | (simp only [go_sem]; rfl) | rfl) (by first | (simp only [go_sem]; rfl) | rfl) ?_
        | refine st_op ?_
        | refine st_det rfl (by simp (disch := omega) only [go_sem, wr_i64, if_yes, if_no, ↓reduceIte, Nat.reduceAdd, Nat.reduceMul, Nat.reduceEqDiff, Nat.reduceBEq, Nat.reduceLeDiff]; rfl) ?_
        | refine st_dop rfl ?_
        | refine st_loc rfl (by simp (disch := omega) only [go_sem, wr_i64, if_yes, if_no, ↓reduceIte, Nat.reduceAdd, Nat.reduceMul, Nat.reduceEqDiff, Nat.reduceBEq, Nat.reduceLeDiff]; rfl) ?_
        | refine st_heap rfl (by simp (disch := omega) only [go_sem, wr_i64, if_yes, if_no, ↓reduceIte, Nat.reduceAdd, Nat.reduceMul, Nat.reduceEqDiff, Nat.reduceBEq, Nat.reduceLeDiff]; rfl) ?_
        | refine st_store (by simp (disch := omega) only [go_sem, wr_i64, if_yes, if_no, ↓reduceIte, Nat.reduceAdd, Nat.reduceMul, Nat.reduceEqDiff, Nat.reduceBEq, Nat.reduceLeDiff]; rfl) ?_
        | refine st_append (by simp (disch := omega) only [go_sem, wr_i64, if_yes, if_no, ↓reduceIte, Nat.reduceAdd, Nat.reduceMul, Nat.reduceEqDiff, Nat.reduceBEq, Nat.reduceLeDiff]; rfl) ?_
        | refine st_copy (by simp (disch := omega) only [go_sem, wr_i64, if_yes, if_no, ↓reduceIte, Nat.reduceAdd, Nat.reduceMul, Nat.reduceEqDiff, Nat.reduceBEq, Nat.reduceLeDiff]; rfl) ?_
        | (refine st_pureE (by first | (simp (disch := omega) only [go_sem]; rfl) | rfl) rfl (km) (by first | (simp only [go_sem]; rfl) | rfl) (by intro n; simp (disch := omega) only [go_sem]; rfl) ?_; intro n hn)
        | (refine st_pureE (by first | (simp (disch := omega) only [go_sem]; rfl) | rfl) rfl (kl) (by first | (simp only [go_sem]; rfl) | rfl) (by intro n; simp (disch := omega) only [go_sem]; rfl) ?_; intro n hn)
        | (refine st_pureE (by first | (simp (disch := omega) only [go_sem]; rfl) | rfl) rfl (c15) (by first | (simp only [go_sem]; rfl) | rfl) (by intro n; simp (disch := omega) only [go_sem]; rfl) ?_; intro n hn)
        | refine st_gT rfl rfl rfl ?_
        | refine st_gF rfl rfl rfl ?_
        | refine st_dgT rfl rfl rfl rfl ?_
        | refine st_dgF rfl rfl rfl ?_
        | (refine st_gS rfl rfl ?_ ?_ <;> intro hg <;> (try simp only [decide_eq_true_eq, decide_eq_false_iff_not, Bool.not_eq_true', Bool.not_eq_false'] at hg))
        | (refine st_dgS rfl rfl ?_ ?_ <;> intro hg <;> (try simp only [decide_eq_true_eq, decide_eq_false_iff_not, Bool.not_eq_true', Bool.not_eq_false'] at hg))
        | refine st_condT rfl ?_
        | refine st_condF rfl ?_
        | (refine st_condS rfl ?_ ?_ <;> intro hg <;> (try simp only [decide_eq_true_eq, decide_eq_false_iff_not, Bool.not_eq_true', Bool.not_eq_false'] at hg))
        | refine st_nil ?_
        | refine st_dnil ?_
        | refine st_tN ?_
        | refine st_seq ?_
        | refine st_block ?_
        | refine st_skip ?_
        | refine st_exit ?_
        | refine st_ret ?_
        | refine st_tE ?_
        | refine st_tR ?_
        | refine st_bN ?_
        | refine st_bR ?_
        | refine st_bH ?_
        | refine st_noN ?_
        | refine st_noR ?_
        | refine st_noE ?_
        | refine st_label ?_
        | refine st_scope tab mixed (by decide) ?_
        | refine st_bM rfl ?_)
    all_goals try (exfalso; omega)
    simp (disch := omega) only [AEnd, Try.results8, aresK, fin, go_sem, ↓reduceIte, Nat.reduceEqDiff, Nat.reduceAdd, Nat.reduceLeDiff, if_yes, if_no, implies_true, true_and, and_true, List.reverse_cons, List.reverse_nil]
  · repeat' (first
        | refine st_seq_reg rfl (by first | (simp only [go_sem, hal, f1, d3, Int.toNat_zero, Nat.add_zero, Nat.sub_zero]; rfl) | rfl) (by first | (simp only [go_sem, hal, f1, d3, Int.toNat_zero, Nat.add_zero, Nat.sub_zero]; rfl) | rfl) ?_
        | refine st_reg rfl (by first | (simp only [go_sem, hal, f1, d3, Int.toNat_zero, Nat.add_zero, Nat.sub_zero]; rfl) | rfl) (by first | (simp only [go_sem, hal, f1, d3, Int.toNat_zero, Nat.add_zero, Nat.sub_zero]; rfl) | rfl) ?_
        | refine st_seq_draw rfl (by first | (simp only [go_sem, hal, f1, d3, Int.toNat_zero, Nat.add_zero, Nat.sub_zero]; rfl) | rfl) (by first | (simp only [go_sem, hal, f1, d3, Int.toNat_zero, Nat.add_zero, Nat.sub_zero]; rfl) | rfl) ?_
        | refine st_draw rfl (by first | (simp only [go_sem, hal, f1, d3, Int.toNat_zero, Nat.add_zero, Nat.sub_zero]; rfl) | rfl) (by first | (simp only [go_sem, hal, f1, d3, Int.toNat_zero, Nat.add_zero, Nat.sub_zero]; rfl) | rfl) ?_
        | refine st_op ?_
        | refine st_det rfl (by simp (disch := omega) only [go_sem, wr_i64, if_yes, if_no, ↓reduceIte, Nat.reduceAdd, Nat.reduceMul, Nat.reduceEqDiff, Nat.reduceBEq, Nat.reduceLeDiff, hal, f1, d3, Int.toNat_zero, Nat.add_zero, Nat.sub_zero]; rfl) ?_
        | refine st_dop rfl ?_
        | refine st_loc rfl (by simp (disch := omega) only [go_sem, wr_i64, if_yes, if_no, ↓reduceIte, Nat.reduceAdd, Nat.reduceMul, Nat.reduceEqDiff, Nat.reduceBEq, Nat.reduceLeDiff, hal, f1, d3, Int.toNat_zero, Nat.add_zero, Nat.sub_zero]; rfl) ?_
        | refine st_heap rfl (by simp (disch := omega) only [go_sem, wr_i64, if_yes, if_no, ↓reduceIte, Nat.reduceAdd, Nat.reduceMul, Nat.reduceEqDiff, Nat.reduceBEq, Nat.reduceLeDiff, hal, f1, d3, Int.toNat_zero, Nat.add_zero, Nat.sub_zero]; rfl) ?_
        | refine st_store (by simp (disch := omega) only [go_sem, wr_i64, if_yes, if_no, ↓reduceIte, Nat.reduceAdd, Nat.reduceMul, Nat.reduceEqDiff, Nat.reduceBEq, Nat.reduceLeDiff, hal, f1, d3, Int.toNat_zero, Nat.add_zero, Nat.sub_zero]; rfl) ?_
        | refine st_append (by simp (disch := omega) only [go_sem, wr_i64, if_yes, if_no, ↓reduceIte, Nat.reduceAdd, Nat.reduceMul, Nat.reduceEqDiff, Nat.reduceBEq, Nat.reduceLeDiff, hal, f1, d3, Int.toNat_zero, Nat.add_zero, Nat.sub_zero]; rfl) ?_
        | refine st_copy (by simp (disch := omega) only [go_sem, wr_i64, if_yes, if_no, ↓reduceIte, Nat.reduceAdd, Nat.reduceMul, Nat.reduceEqDiff, Nat.reduceBEq, Nat.reduceLeDiff, hal, f1, d3, Int.toNat_zero, Nat.add_zero, Nat.sub_zero]; rfl) ?_
        | (refine st_drum (by first | (simp (disch := omega) only [go_sem, hal, f1, d3, Int.toNat_zero, Nat.add_zero, Nat.sub_zero]; rfl) | rfl) rfl (c20' b _ (by omega)) (by first | (simp (disch := omega) only [go_sem, hal, f1, d3, Int.toNat_zero, Nat.add_zero, Nat.sub_zero]; rfl) | rfl) (by assumption) (by first | (simp only [go_sem, hal, f1, d3, Int.toNat_zero, Nat.add_zero, Nat.sub_zero]; rfl) | rfl) (by intro x' n; simp (disch := omega) only [go_sem]; rfl) ?_; rintro v x' n hu' ⟨r1, rfl, hr1⟩ hn)
        | refine st_gT rfl rfl rfl ?_
        | refine st_gF rfl rfl rfl ?_
        | refine st_dgT rfl rfl rfl rfl ?_
        | refine st_dgF rfl rfl rfl ?_
        | (refine st_gS rfl rfl ?_ ?_ <;> intro hg <;> (try simp only [decide_eq_true_eq, decide_eq_false_iff_not, Bool.not_eq_true', Bool.not_eq_false'] at hg))
        | (refine st_dgS rfl rfl ?_ ?_ <;> intro hg <;> (try simp only [decide_eq_true_eq, decide_eq_false_iff_not, Bool.not_eq_true', Bool.not_eq_false'] at hg))
        | refine st_condT rfl ?_
        | refine st_condF rfl ?_
        | (refine st_condS rfl ?_ ?_ <;> intro hg <;> (try simp only [decide_eq_true_eq, decide_eq_false_iff_not, Bool.not_eq_true', Bool.not_eq_false'] at hg))
        | refine st_nil ?_
        | refine st_dnil ?_
        | refine st_tN ?_
        | refine st_seq ?_
        | refine st_block ?_
        | refine st_skip ?_
        | refine st_exit ?_
        | refine st_ret ?_
        | refine st_tE ?_
        | refine st_tR ?_
        | refine st_bN ?_
        | refine st_bR ?_
        | refine st_bH ?_
        | refine st_noN ?_
        | refine st_noR ?_
        | refine st_noE ?_
        | refine st_label ?_
        | refine st_scope tab mixed (by decide) ?_
        | refine st_bM rfl ?_)
    all_goals try (exfalso; omega)
    obtain ⟨lc, lp⟩ := less_none hlg hp (k := r1.toNat) (by omega)
    have kl := c21ok lc lp
    have hsrc : List.take (lg.bs.length - (r1 + 1).toNat) (List.drop (r1 + 1).toNat (List.map Bl.row lg.bs)) = (lg.bs.drop (r1.toNat + 1)).map Bl.row := by
      rw [show (r1 + 1).toNat = r1.toNat + 1 by omega, List.map_drop, List.take_of_length_le (by simp)]
    have hlr : (lg.bs.drop (r1.toNat + 1)).length = lg.bs.length - (r1.toNat + 1) := List.length_drop
    repeat' (first
        | refine st_seq_reg rfl (by first | (simp only [go_sem, hsrc, b3, nbb, big, List.length_map, hlr]; rfl) | rfl) (by first | (simp only [go_sem, hsrc, b3, nbb, big, List.length_map, hlr]; rfl) | rfl) ?_
        | refine st_reg rfl (by first | (simp only [go_sem, hsrc, b3, nbb, big, List.length_map, hlr]; rfl) | rfl) (by first | (simp only [go_sem, hsrc, b3, nbb, big, List.length_map, hlr]; rfl) | rfl) ?_
        | refine st_seq_draw rfl (by first | (simp only [go_sem, hsrc, b3, nbb, big, List.length_map, hlr]; rfl) | rfl) (by first | (simp only [go_sem, hsrc, b3, nbb, big, List.length_map, hlr]; rfl) | rfl) ?_
        | refine st_draw rfl (by first | (simp only [go_sem, hsrc, b3, nbb, big, List.length_map, hlr]; rfl) | rfl) (by first | (simp only [go_sem, hsrc, b3, nbb, big, List.length_map, hlr]; rfl) | rfl) ?_
        | refine st_op ?_
        | refine st_det rfl (by simp (disch := omega) only [go_sem, wr_i64, if_yes, if_no, ↓reduceIte, Nat.reduceAdd, Nat.reduceMul, Nat.reduceEqDiff, Nat.reduceBEq, Nat.reduceLeDiff, hsrc, b3, nbb, big, List.length_map, hlr]; rfl) ?_
        | refine st_dop rfl ?_
        | refine st_loc rfl (by simp (disch := omega) only [go_sem, wr_i64, if_yes, if_no, ↓reduceIte, Nat.reduceAdd, Nat.reduceMul, Nat.reduceEqDiff, Nat.reduceBEq, Nat.reduceLeDiff, hsrc, b3, nbb, big, List.length_map, hlr]; rfl) ?_
        | refine st_heap rfl (by simp (disch := omega) only [go_sem, wr_i64, if_yes, if_no, ↓reduceIte, Nat.reduceAdd, Nat.reduceMul, Nat.reduceEqDiff, Nat.reduceBEq, Nat.reduceLeDiff, hsrc, b3, nbb, big, List.length_map, hlr]; rfl) ?_
        | refine st_store (by simp (disch := omega) only [go_sem, wr_i64, if_yes, if_no, ↓reduceIte, Nat.reduceAdd, Nat.reduceMul, Nat.reduceEqDiff, Nat.reduceBEq, Nat.reduceLeDiff, hsrc, b3, nbb, big, List.length_map, hlr]; rfl) ?_
        | refine st_append (by simp (disch := omega) only [go_sem, wr_i64, if_yes, if_no, ↓reduceIte, Nat.reduceAdd, Nat.reduceMul, Nat.reduceEqDiff, Nat.reduceBEq, Nat.reduceLeDiff, hsrc, b3, nbb, big, List.length_map, hlr]; rfl) ?_
        | refine st_copy (by simp (disch := omega) only [go_sem, wr_i64, if_yes, if_no, ↓reduceIte, Nat.reduceAdd, Nat.reduceMul, Nat.reduceEqDiff, Nat.reduceBEq, Nat.reduceLeDiff, hsrc, b3, nbb, big, List.length_map, hlr]; rfl) ?_
        | refine st_gT rfl rfl rfl ?_
        | refine st_gF rfl rfl rfl ?_
        | refine st_dgT rfl rfl rfl rfl ?_
        | refine st_dgF rfl rfl rfl ?_
        | (refine st_gS rfl rfl ?_ ?_ <;> intro hg <;> (try simp only [decide_eq_true_eq, decide_eq_false_iff_not, Bool.not_eq_true', Bool.not_eq_false'] at hg))
        | (refine st_dgS rfl rfl ?_ ?_ <;> intro hg <;> (try simp only [decide_eq_true_eq, decide_eq_false_iff_not, Bool.not_eq_true', Bool.not_eq_false'] at hg))
        | refine st_condT rfl ?_
        | refine st_condF rfl ?_
        | (refine st_condS rfl ?_ ?_ <;> intro hg <;> (try simp only [decide_eq_true_eq, decide_eq_false_iff_not, Bool.not_eq_true', Bool.not_eq_false'] at hg))
        | refine st_nil ?_
        | refine st_dnil ?_
        | refine st_tN ?_
        | refine st_seq ?_
        | refine st_block ?_
        | refine st_skip ?_
        | refine st_exit ?_
        | refine st_ret ?_
        | refine st_tE ?_
        | refine st_tR ?_
        | refine st_bN ?_
        | refine st_bR ?_
        | refine st_bH ?_
        | refine st_noN ?_
        | refine st_noR ?_
        | refine st_noE ?_
        | refine st_label ?_
        | refine st_scope tab mixed (by decide) ?_
        | refine st_bM rfl ?_)
    all_goals try (exfalso; omega)
    have hlm : (lg.bs.take r1.toNat ++ lg.bs.drop (r1.toNat + 1)).length = r1.toNat + (lg.bs.length - (r1.toNat + 1)) := by rw [List.length_append, List.length_take, List.length_drop]; omega
    have hmm : List.take r1.toNat (List.map Bl.row lg.bs) ++ List.map Bl.row (List.drop (r1.toNat + 1) lg.bs) = (lg.bs.take r1.toNat ++ lg.bs.drop (r1.toNat + 1)).map Bl.row := by rw [List.map_append, List.map_take]
    rw [hmm, ← hlm]
    generalize hB' : lg.bs.take r1.toNat ++ lg.bs.drop (r1.toNat + 1) = B' at *
    refine st_free ?_
    refine ASem.cutX (K + 1, 8) (fun b2 => b2 = (n, 99)) (cs := [.lst 4 (lg.fs.map Fd.row), .slc (n, 99) 3 0 B'.length]) (cs' := [.lst 4 (lg.fs.map Fd.row), .lst 3 (B'.map Bl.row)]) (by simp only [go_sem] <;> simp) (.inr ⟨(n, 99), _, by simp only [go_sem, ↓reduceIte] <;> rfl, ?_, rfl⟩) fun H3 h3a h3b h3c => ?_
    · simp only [frzs]; rw [← List.length_map Bl.row, frz_whole, frz_fd]
    refine ASem.cutX (K + 1, 7) (fun b2 => ∃ m, fv = .slc b2 4 0 m) (cs := [fv, .lst 3 (lg.bs.map Bl.row)]) (cs' := [.lst 4 (F.map Fd.row), .lst 3 (lg.bs.map Bl.row)]) (by simp only [go_sem]; simp) ?_ fun H4 h4a h4b h4c => ?_
    · rcases hV with ⟨e1, e2⟩ | ⟨bf, e1, q2, q3, q4⟩
      · refine .inl ⟨?_, fun _ => rfl⟩
        rw [e1, e2]; simp only [VLes]; exact ⟨_, _, rfl, VLe.nils 4, _, _, rfl, .refl _, rfl⟩
      · have z1 : ¬ bf = (n, 99) := fun e => by rw [e] at q3; dsimp only at q3; omega
        have z2 : ¬ bf = bb := fun e => by rw [e] at q3; omega
        have z3 : ¬ bf = b := fun e => by rw [e] at q4; omega
        refine .inr ⟨bf, _, by rw [h3a bf z1]; simp only [go_sem, z1, z2, z3, ↓reduceIte]; exact q2, ?_, ⟨_, e1⟩⟩
        rw [e1]; simp only [frzs]; rw [← List.length_map Fd.row, frz_whole, frz_bl]
    refine st_run tab mixed (f2 := ⟨120, [4, 7, 8], [78], none, [(6, [0, 1, 0, 7, 0, 0, 63, 127], [(0, true), (2, true), (4, false), (5, false), (1, false), (3, false), (6, false), (7, false)]), (11, [0, 0, 0, 0, 8, 24, 56, 0, 128, 504, 0, 0, 2048, 6144, 14336, 32128, 0, 0, 131072, 393216, 917504, 2096512, 4194297, 8388601, 16777209, 33554427, 67108859, 134217723, 268435455, 536870911, 1073741823], [(0, false), (1, false), (2, false), (3, false), (4, false), (5, false), (6, true), (7, false), (10, false), (11, false), (12, false), (13, false), (14, true), (16, false), (17, false), (18, false), (19, false), (20, true), (8, false), (9, false), (15, false), (21, false), (22, false), (23, false), (24, false), (25, false), (26, false), (27, false), (28, false), (29, false), (30, false)]), (16, [0, 1, 0, 7, 0, 16, 0, 64, 240, 511, 1023, 2047], [(0, false), (1, true), (2, false), (3, false), (4, false), (5, true), (6, false), (7, false), (8, false), (9, false), (10, false), (11, false)])]⟩) rfl rfl (by decide) ?_
    repeat' (first
        | refine st_seq_reg rfl (by first | (simp only [go_sem]; rfl) | rfl) (by first | (simp only [go_sem]; rfl) | rfl) ?_
        | refine st_reg rfl (by first | (simp only [go_sem]; rfl) | rfl) (by first | (simp only [go_sem]; rfl) | rfl) ?_
        | refine st_seq_draw rfl (by first | (simp only [go_sem]; rfl) | rfl) (by first | (simp only [go_sem]; rfl) | rfl) ?_
        | refine st_draw rfl (by first | (simp only [go_sem]; rfl) | rfl) (by first | (simp only [go_sem]; rfl) | rfl) ?_
        | refine st_op ?_
        | refine st_det rfl (by simp (disch := omega) only [go_sem, wr_i64, if_yes, if_no, ↓reduceIte, Nat.reduceAdd, Nat.reduceMul, Nat.reduceEqDiff, Nat.reduceBEq, Nat.reduceLeDiff]; rfl) ?_
        | refine st_dop rfl ?_
        | refine st_loc rfl (by simp (disch := omega) only [go_sem, wr_i64, if_yes, if_no, ↓reduceIte, Nat.reduceAdd, Nat.reduceMul, Nat.reduceEqDiff, Nat.reduceBEq, Nat.reduceLeDiff]; rfl) ?_
        | refine st_heap rfl (by simp (disch := omega) only [go_sem, wr_i64, if_yes, if_no, ↓reduceIte, Nat.reduceAdd, Nat.reduceMul, Nat.reduceEqDiff, Nat.reduceBEq, Nat.reduceLeDiff]; rfl) ?_
        | refine st_store (by simp (disch := omega) only [go_sem, wr_i64, if_yes, if_no, ↓reduceIte, Nat.reduceAdd, Nat.reduceMul, Nat.reduceEqDiff, Nat.reduceBEq, Nat.reduceLeDiff]; rfl) ?_
        | refine st_append (by simp (disch := omega) only [go_sem, wr_i64, if_yes, if_no, ↓reduceIte, Nat.reduceAdd, Nat.reduceMul, Nat.reduceEqDiff, Nat.reduceBEq, Nat.reduceLeDiff]; rfl) ?_
        | refine st_copy (by simp (disch := omega) only [go_sem, wr_i64, if_yes, if_no, ↓reduceIte, Nat.reduceAdd, Nat.reduceMul, Nat.reduceEqDiff, Nat.reduceBEq, Nat.reduceLeDiff]; rfl) ?_
        | (refine st_pureE (by first | (simp (disch := omega) only [go_sem]; rfl) | rfl) rfl (km) (by first | (simp only [go_sem]; rfl) | rfl) (by intro n; simp (disch := omega) only [go_sem]; rfl) ?_; intro n hn)
        | (refine st_pureE (by first | (simp (disch := omega) only [go_sem]; rfl) | rfl) rfl (kl) (by first | (simp only [go_sem]; rfl) | rfl) (by intro n; simp (disch := omega) only [go_sem]; rfl) ?_; intro n hn)
        | (refine st_pureE (by first | (simp (disch := omega) only [go_sem]; rfl) | rfl) rfl (c15) (by first | (simp only [go_sem]; rfl) | rfl) (by intro n; simp (disch := omega) only [go_sem]; rfl) ?_; intro n hn)
        | refine st_gT rfl rfl rfl ?_
        | refine st_gF rfl rfl rfl ?_
        | refine st_dgT rfl rfl rfl rfl ?_
        | refine st_dgF rfl rfl rfl ?_
        | (refine st_gS rfl rfl ?_ ?_ <;> intro hg <;> (try simp only [decide_eq_true_eq, decide_eq_false_iff_not, Bool.not_eq_true', Bool.not_eq_false'] at hg))
        | (refine st_dgS rfl rfl ?_ ?_ <;> intro hg <;> (try simp only [decide_eq_true_eq, decide_eq_false_iff_not, Bool.not_eq_true', Bool.not_eq_false'] at hg))
        | refine st_condT rfl ?_
        | refine st_condF rfl ?_
        | (refine st_condS rfl ?_ ?_ <;> intro hg <;> (try simp only [decide_eq_true_eq, decide_eq_false_iff_not, Bool.not_eq_true', Bool.not_eq_false'] at hg))
        | refine st_nil ?_
        | refine st_dnil ?_
        | refine st_tN ?_
        | refine st_seq ?_
        | refine st_block ?_
        | refine st_skip ?_
        | refine st_exit ?_
        | refine st_ret ?_
        | refine st_tE ?_
        | refine st_tR ?_
        | refine st_bN ?_
        | refine st_bR ?_
        | refine st_bH ?_
        | refine st_noN ?_
        | refine st_noR ?_
        | refine st_noE ?_
        | refine st_label ?_
        | refine st_scope tab mixed (by decide) ?_
        | refine st_bM rfl ?_)
    all_goals try (exfalso; omega)
    simp (disch := omega) only [AEnd, Try.results8, aresK, fin, go_sem, ↓reduceIte, Nat.reduceEqDiff, Nat.reduceAdd, Nat.reduceLeDiff, if_yes, if_no, implies_true, true_and, and_true, List.reverse_cons, List.reverse_nil]
end Go.Proofs.Ytbbkeakbomngoaa
