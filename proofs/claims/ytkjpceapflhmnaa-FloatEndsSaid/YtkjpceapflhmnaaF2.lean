/- Contracts of functions that the claim reaches: what each call gives, told in our own logic. Conditions: those of each theorem. -/
import Derived.Test.YtkjpceapflhmnaaF1
set_option linter.all false
set_option linter.unusedSimpArgs false
set_option linter.unusedVariables false
namespace Go.Proofs.Ytkjpceapflhmnaa
open Go.Av
attribute [local irreducible] thenA blockA awp awpOps awpD awp1
set_option maxHeartbeats 4000000
set_option maxRecDepth 20000

theorem c79a (lo hi a : Int) : Pure Try.prog 79 [.int .i64 lo, .int .i64 hi, .lst 1 [[.int .i64 a]]] (fun v => v = .bool (decide (lo ≤ a ∧ a ≤ hi))) := by
  have h := c79 lo hi [a] (by simp)
  have e : allIn lo hi [a] = decide (lo ≤ a ∧ a ≤ hi) := by simp [allIn]
  rw [e] at h; exact h
theorem c79b (lo hi a b : Int) : Pure Try.prog 79 [.int .i64 lo, .int .i64 hi, .lst 1 [[.int .i64 a], [.int .i64 b]]] (fun v => v = .bool (decide (lo ≤ a ∧ a ≤ hi ∧ lo ≤ b ∧ b ≤ hi))) := by
  have h := c79 lo hi [a, b] (by simp)
  have e : allIn lo hi [a, b] = decide (lo ≤ a ∧ a ≤ hi ∧ lo ≤ b ∧ b ≤ hi) := by simp [allIn, Bool.decide_and, Bool.and_assoc]
  rw [e] at h; exact h

/-- A load. -/
structure Ld where
  at_ : Int
  lo : Int
  hi : Int
  tlo : Int
  thi : Int
  kind : Int
  watts : Int
def Ld.row (x : Ld) : List AV := [.int .i64 x.at_, .int .i64 x.lo, .int .i64 x.hi, .int .i64 x.tlo, .int .i64 x.thi, .int .i64 x.kind, .int .i64 x.watts]
@[go_sem] theorem Ld.row_eq (x : Ld) : x.row = [.int .i64 x.at_, .int .i64 x.lo, .int .i64 x.hi, .int .i64 x.tlo, .int .i64 x.thi, .int .i64 x.kind, .int .i64 x.watts] := rfl
/-- A float. -/
structure Fl where
  len : Int
  wid : Int
  front : Int
  rear : Int
  turn : Int
  kilos : Int
  mid : Int
  high : Int
  loads : List Ld
def Fl.av (f : Fl) : AV := .agg [.int .i64 f.len, .int .i64 f.wid, .int .i64 f.front, .int .i64 f.rear, .int .i64 f.turn, .int .i64 f.kilos, .int .i64 f.mid, .int .i64 f.high, .lst 7 (f.loads.map Ld.row)]
@[go_sem] theorem Fl.av_eq (f : Fl) : f.av = .agg [.int .i64 f.len, .int .i64 f.wid, .int .i64 f.front, .int .i64 f.rear, .int .i64 f.turn, .int .i64 f.kilos, .int .i64 f.mid, .int .i64 f.high, .lst 7 (f.loads.map Ld.row)] := rfl
/-- A float with one more load. -/
def Tk.av (f : Fl) (p m : Int) : AV := .agg [.int .i64 f.len, .int .i64 f.wid, .int .i64 f.front, .int .i64 f.rear, .int .i64 f.turn, .int .i64 f.kilos, .int .i64 f.mid, .int .i64 f.high, .lst 7 (f.loads.map Ld.row), .int .i64 p, .int .i64 m]
@[go_sem] theorem Tk.av_eq (f : Fl) (p m : Int) : Tk.av f p m = .agg [.int .i64 f.len, .int .i64 f.wid, .int .i64 f.front, .int .i64 f.rear, .int .i64 f.turn, .int .i64 f.kilos, .int .i64 f.mid, .int .i64 f.high, .lst 7 (f.loads.map Ld.row), .int .i64 p, .int .i64 m] := rfl
/-- A hurdle. -/
structure Hu where
  kind : Int
  a : Int
  b : Int
def Hu.row (x : Hu) : List AV := [.int .i64 x.kind, .int .i64 x.a, .int .i64 x.b]
@[go_sem] theorem Hu.row_eq (x : Hu) : x.row = [.int .i64 x.kind, .int .i64 x.a, .int .i64 x.b] := rfl
def Hu.av (x : Hu) : AV := .agg [.int .i64 x.kind, .int .i64 x.a, .int .i64 x.b]
@[go_sem] theorem Hu.av_eq (x : Hu) : x.av = .agg [.int .i64 x.kind, .int .i64 x.a, .int .i64 x.b] := rfl
def rav (l : List Hu) : AV := .lst 3 (l.map Hu.row)
@[go_sem] theorem rav_eq (l : List Hu) : rav l = .lst 3 (l.map Hu.row) := rfl
def ld (l : List Ld) (i : Nat) : Ld := l.getD i ⟨0, 0, 0, 0, 0, 0, 0⟩
def hu (l : List Hu) (i : Nat) : Hu := l.getD i ⟨0, 0, 0⟩
@[go_sem] theorem lrow_getD {l : List Ld} {i : Nat} (h : i < l.length) : (l.map Ld.row).getD i [] = (ld l i).row := by
  simp [List.getD_eq_getElem?_getD, h, ld]
@[go_sem] theorem hrow_getD {l : List Hu} {i : Nat} (h : i < l.length) : (l.map Hu.row).getD i [] = (hu l i).row := by
  simp [List.getD_eq_getElem?_getD, h, hu]
theorem drop_ld {l : List Ld} {i : Nat} (h : i < l.length) : l.drop i = ld l i :: l.drop (i + 1) := drop_getD _ h
theorem drop_hu {l : List Hu} {i : Nat} (h : i < l.length) : l.drop i = hu l i :: l.drop (i + 1) := drop_getD _ h

/-! ### What is checked -/
def spanE (lo hi top : Int) : Int := if ¬ (0 ≤ lo ∧ lo ≤ top ∧ 0 ≤ hi ∧ hi ≤ top) then 2 else if lo > hi then 9 else 0
theorem c113 (lo hi top : Int) : Pure Try.prog 113 [.agg [.int .i64 lo, .int .i64 hi], .int .i64 top] (fun v => v = .int .i64 (spanE lo hi top)) := by
  intro h
  refine ACalls.forget (ACalls.of tab mixed Try.call113 Try.func113 rfl (fi := ⟨20, [], [2, 11], none, []⟩) rfl rfl (Nat.le_of_ble_eq_true rfl) (by decide) ?_)
  unfold startA
  repeat' (first
      | refine st_seq_reg rfl (by first | (simp only [go_sem]; rfl) | rfl) (by first | (simp only [go_sem]; rfl) | rfl) ?_
      | refine st_reg rfl (by first | (simp only [go_sem]; rfl) | rfl) (by first | (simp only [go_sem]; rfl) | rfl) ?_
      | refine st_seq_draw rfl (by first | (simp only [go_sem]; rfl) | rfl) (by first | (simp only [go_sem]; rfl) | rfl) ?_
      | refine st_draw rfl (by first | (simp only [go_sem]; rfl) | rfl) (by first | (simp only [go_sem]; rfl) | rfl) ?_
      | refine st_op ?_
      | refine st_det rfl (by simp (disch := omega) only [go_sem, wr_i64, if_yes, if_no, ↓reduceIte, Nat.reduceAdd, Nat.reduceMul, Nat.reduceEqDiff, Nat.reduceBEq, Nat.reduceLeDiff]; rfl) ?_
      | refine st_dop rfl ?_
      | refine st_loc rfl (by simp (disch := omega) only [go_sem, wr_i64, if_yes, if_no, ↓reduceIte, Nat.reduceAdd, Nat.reduceMul, Nat.reduceEqDiff, Nat.reduceBEq, Nat.reduceLeDiff]; rfl) ?_
      | refine st_heap rfl (by simp (disch := omega) only [go_sem, wr_i64, if_yes, if_no, ↓reduceIte, Nat.reduceAdd, Nat.reduceMul, Nat.reduceEqDiff, Nat.reduceBEq, Nat.reduceLeDiff]; rfl) ?_
      | refine st_store (by simp (disch := omega) only [go_sem, wr_i64, if_yes, if_no, ↓reduceIte, Nat.reduceAdd, Nat.reduceMul, Nat.reduceEqDiff, Nat.reduceBEq, Nat.reduceLeDiff]; rfl) ?_
      | refine st_append (by simp (disch := omega) only [go_sem, wr_i64, if_yes, if_no, ↓reduceIte, Nat.reduceAdd, Nat.reduceMul, Nat.reduceEqDiff, Nat.reduceBEq, Nat.reduceLeDiff]; rfl) ?_
      | (refine st_pureE (by first | (simp (disch := omega) only [go_sem]; rfl) | rfl) rfl (c79b _ _ _ _) (by first | (simp only [go_sem]; rfl) | rfl) (by intro n; simp (disch := omega) only [go_sem]; rfl) ?_; intro n hn)
      | refine st_gT rfl rfl rfl ?_
      | refine st_gF rfl rfl rfl ?_
      | refine st_dgT rfl rfl rfl rfl ?_
      | refine st_dgF rfl rfl rfl ?_
      | (refine st_gS rfl rfl ?_ ?_ <;> intro hg <;> (try simp only [decide_eq_true_eq, decide_eq_false_iff_not, Bool.not_eq_true', Bool.not_eq_false'] at hg))
      | (refine st_dgS rfl rfl ?_ ?_ <;> intro hg <;> (try simp only [decide_eq_true_eq, decide_eq_false_iff_not, Bool.not_eq_true', Bool.not_eq_false'] at hg))
      | refine st_condT rfl ?_
      | refine st_condF rfl ?_
      | (refine st_condS rfl ?_ ?_ <;> intro hg <;> (try simp only [decide_eq_true_eq, decide_eq_false_iff_not, Bool.not_eq_true', Bool.not_eq_false'] at hg))
      | refine st_nil ?_
      | refine st_dnil ?_
      | refine st_tN ?_
      | refine st_seq ?_
      | refine st_block ?_
      | refine st_skip ?_
      | refine st_exit ?_
      | refine st_ret ?_
      | refine st_tE ?_
      | refine st_tR ?_
      | refine st_bN ?_
      | refine st_bR ?_
      | refine st_bH ?_
      | refine st_bM rfl ?_)
  all_goals
    simp (disch := omega) only [AEnd, Try.results113, aresK, fin, go_sem, ↓reduceIte, Nat.reduceEqDiff, Nat.reduceAdd, Nat.reduceLeDiff, if_yes, if_no, implies_true, true_and, and_true, List.reverse_cons, List.reverse_nil]
    simp [spanE] <;> omega
def loadE (f : Fl) (x : Ld) : Int :=
  if ¬ (f.front ≤ x.at_ ∧ x.at_ ≤ f.rear) then 2 else if spanE x.lo x.hi 100000 ≠ 0 then spanE x.lo x.hi 100000 else if spanE x.tlo x.thi 2000 ≠ 0 then spanE x.tlo x.thi 2000
  else if ¬ (1 ≤ x.kind ∧ x.kind ≤ 4) then 3 else if ¬ (0 ≤ x.watts ∧ x.watts ≤ 1000000) then 2 else if 0 < x.watts ∧ ¬ (x.kind = 2 ∨ x.kind = 3) then 1 else 0
theorem c101 (f : Fl) (x : Ld) : Pure Try.prog 101 [f.av, .agg x.row] (fun v => v = .int .i64 (loadE f x)) := by
  intro h
  refine ACalls.forget (ACalls.of tab mixed Try.call101 Try.func101 rfl (fi := ⟨52, [], [2, 3, 14, 41], none, []⟩) rfl rfl (Nat.le_of_ble_eq_true rfl) (by decide) ?_)
  unfold startA
  simp only [go_sem]
  repeat' (first
      | refine st_seq_reg rfl (by first | (simp only [go_sem]; rfl) | rfl) (by first | (simp only [go_sem]; rfl) | rfl) ?_
      | refine st_reg rfl (by first | (simp only [go_sem]; rfl) | rfl) (by first | (simp only [go_sem]; rfl) | rfl) ?_
      | refine st_seq_draw rfl (by first | (simp only [go_sem]; rfl) | rfl) (by first | (simp only [go_sem]; rfl) | rfl) ?_
      | refine st_draw rfl (by first | (simp only [go_sem]; rfl) | rfl) (by first | (simp only [go_sem]; rfl) | rfl) ?_
      | refine st_op ?_
      | refine st_det rfl (by simp (disch := omega) only [go_sem, wr_i64, if_yes, if_no, ↓reduceIte, Nat.reduceAdd, Nat.reduceMul, Nat.reduceEqDiff, Nat.reduceBEq, Nat.reduceLeDiff]; rfl) ?_
      | refine st_dop rfl ?_
      | refine st_loc rfl (by simp (disch := omega) only [go_sem, wr_i64, if_yes, if_no, ↓reduceIte, Nat.reduceAdd, Nat.reduceMul, Nat.reduceEqDiff, Nat.reduceBEq, Nat.reduceLeDiff]; rfl) ?_
      | refine st_heap rfl (by simp (disch := omega) only [go_sem, wr_i64, if_yes, if_no, ↓reduceIte, Nat.reduceAdd, Nat.reduceMul, Nat.reduceEqDiff, Nat.reduceBEq, Nat.reduceLeDiff]; rfl) ?_
      | refine st_store (by simp (disch := omega) only [go_sem, wr_i64, if_yes, if_no, ↓reduceIte, Nat.reduceAdd, Nat.reduceMul, Nat.reduceEqDiff, Nat.reduceBEq, Nat.reduceLeDiff]; rfl) ?_
      | refine st_append (by simp (disch := omega) only [go_sem, wr_i64, if_yes, if_no, ↓reduceIte, Nat.reduceAdd, Nat.reduceMul, Nat.reduceEqDiff, Nat.reduceBEq, Nat.reduceLeDiff]; rfl) ?_
      | (refine st_pureE (by first | (simp (disch := omega) only [go_sem]; rfl) | rfl) rfl (c79a _ _ _) (by first | (simp only [go_sem]; rfl) | rfl) (by intro n; simp (disch := omega) only [go_sem]; rfl) ?_; intro n hn)
      | (refine st_pureE (by first | (simp (disch := omega) only [go_sem]; rfl) | rfl) rfl (c113 _ _ _) (by first | (simp only [go_sem]; rfl) | rfl) (by intro n; simp (disch := omega) only [go_sem]; rfl) ?_; intro n hn)
      | refine st_gT rfl rfl rfl ?_
      | refine st_gF rfl rfl rfl ?_
      | refine st_dgT rfl rfl rfl rfl ?_
      | refine st_dgF rfl rfl rfl ?_
      | (refine st_gS rfl rfl ?_ ?_ <;> intro hg <;> (try simp only [decide_eq_true_eq, decide_eq_false_iff_not, Bool.not_eq_true', Bool.not_eq_false'] at hg))
      | (refine st_dgS rfl rfl ?_ ?_ <;> intro hg <;> (try simp only [decide_eq_true_eq, decide_eq_false_iff_not, Bool.not_eq_true', Bool.not_eq_false'] at hg))
      | refine st_condT rfl ?_
      | refine st_condF rfl ?_
      | (refine st_condS rfl ?_ ?_ <;> intro hg <;> (try simp only [decide_eq_true_eq, decide_eq_false_iff_not, Bool.not_eq_true', Bool.not_eq_false'] at hg))
      | refine st_nil ?_
      | refine st_dnil ?_
      | refine st_tN ?_
      | refine st_seq ?_
      | refine st_block ?_
      | refine st_skip ?_
      | refine st_exit ?_
      | refine st_ret ?_
      | refine st_tE ?_
      | refine st_tR ?_
      | refine st_bN ?_
      | refine st_bR ?_
      | refine st_bH ?_
      | refine st_bM rfl ?_)
  all_goals
    simp (disch := omega) only [AEnd, Try.results101, aresK, fin, go_sem, ↓reduceIte, Nat.reduceEqDiff, Nat.reduceAdd, Nat.reduceLeDiff, if_yes, if_no, implies_true, true_and, and_true, List.reverse_cons, List.reverse_nil]
    simp [loadE] <;> omega
def hurdleE (x : Hu) : Int :=
  if x.kind = 1 then (if ¬ (0 ≤ x.a ∧ x.a ≤ 20000 ∧ 0 ≤ x.b ∧ x.b ≤ 20000) then 2 else if x.a ≥ x.b then 9 else 0)
  else if x.kind = 2 then (if ¬ (0 ≤ x.a ∧ x.a ≤ 2000) then 2 else if x.b ≠ 0 then 1 else 0)
  else if x.kind = 3 then (if ¬ (0 ≤ x.a ∧ x.a ≤ 10000000 ∧ 0 ≤ x.b ∧ x.b ≤ 10000000) then 2 else 0) else 3
theorem c89 (x : Hu) : Pure Try.prog 89 [x.av] (fun v => v = .int .i64 (hurdleE x)) := by
  intro h
  refine ACalls.forget (ACalls.of tab mixed Try.call89 Try.func89 rfl (fi := ⟨42, [], [1, 12, 26, 39], none, []⟩) rfl rfl (Nat.le_of_ble_eq_true rfl) (by decide) ?_)
  unfold startA
  simp only [go_sem]
  repeat' (first
      | refine st_seq_reg rfl (by first | (simp only [go_sem]; rfl) | rfl) (by first | (simp only [go_sem]; rfl) | rfl) ?_
      | refine st_reg rfl (by first | (simp only [go_sem]; rfl) | rfl) (by first | (simp only [go_sem]; rfl) | rfl) ?_
      | refine st_seq_draw rfl (by first | (simp only [go_sem]; rfl) | rfl) (by first | (simp only [go_sem]; rfl) | rfl) ?_
      | refine st_draw rfl (by first | (simp only [go_sem]; rfl) | rfl) (by first | (simp only [go_sem]; rfl) | rfl) ?_
      | refine st_op ?_
      | refine st_det rfl (by simp (disch := omega) only [go_sem, wr_i64, if_yes, if_no, ↓reduceIte, Nat.reduceAdd, Nat.reduceMul, Nat.reduceEqDiff, Nat.reduceBEq, Nat.reduceLeDiff]; rfl) ?_
      | refine st_dop rfl ?_
      | refine st_loc rfl (by simp (disch := omega) only [go_sem, wr_i64, if_yes, if_no, ↓reduceIte, Nat.reduceAdd, Nat.reduceMul, Nat.reduceEqDiff, Nat.reduceBEq, Nat.reduceLeDiff]; rfl) ?_
      | refine st_heap rfl (by simp (disch := omega) only [go_sem, wr_i64, if_yes, if_no, ↓reduceIte, Nat.reduceAdd, Nat.reduceMul, Nat.reduceEqDiff, Nat.reduceBEq, Nat.reduceLeDiff]; rfl) ?_
      | refine st_store (by simp (disch := omega) only [go_sem, wr_i64, if_yes, if_no, ↓reduceIte, Nat.reduceAdd, Nat.reduceMul, Nat.reduceEqDiff, Nat.reduceBEq, Nat.reduceLeDiff]; rfl) ?_
      | refine st_append (by simp (disch := omega) only [go_sem, wr_i64, if_yes, if_no, ↓reduceIte, Nat.reduceAdd, Nat.reduceMul, Nat.reduceEqDiff, Nat.reduceBEq, Nat.reduceLeDiff]; rfl) ?_
      | (refine st_pureE (by first | (simp (disch := omega) only [go_sem]; rfl) | rfl) rfl (c79a _ _ _) (by first | (simp only [go_sem]; rfl) | rfl) (by intro n; simp (disch := omega) only [go_sem]; rfl) ?_; intro n hn)
      | (refine st_pureE (by first | (simp (disch := omega) only [go_sem]; rfl) | rfl) rfl (c79b _ _ _ _) (by first | (simp only [go_sem]; rfl) | rfl) (by intro n; simp (disch := omega) only [go_sem]; rfl) ?_; intro n hn)
      | refine st_gT rfl rfl rfl ?_
      | refine st_gF rfl rfl rfl ?_
      | refine st_dgT rfl rfl rfl rfl ?_
      | refine st_dgF rfl rfl rfl ?_
      | (refine st_gS rfl rfl ?_ ?_ <;> intro hg <;> (try simp only [decide_eq_true_eq, decide_eq_false_iff_not, Bool.not_eq_true', Bool.not_eq_false'] at hg))
      | (refine st_dgS rfl rfl ?_ ?_ <;> intro hg <;> (try simp only [decide_eq_true_eq, decide_eq_false_iff_not, Bool.not_eq_true', Bool.not_eq_false'] at hg))
      | refine st_condT rfl ?_
      | refine st_condF rfl ?_
      | (refine st_condS rfl ?_ ?_ <;> intro hg <;> (try simp only [decide_eq_true_eq, decide_eq_false_iff_not, Bool.not_eq_true', Bool.not_eq_false'] at hg))
      | refine st_nil ?_
      | refine st_dnil ?_
      | refine st_tN ?_
      | refine st_seq ?_
      | refine st_block ?_
      | refine st_skip ?_
      | refine st_exit ?_
      | refine st_ret ?_
      | refine st_tE ?_
      | refine st_tR ?_
      | refine st_bN ?_
      | refine st_bR ?_
      | refine st_bH ?_
      | refine st_bM rfl ?_)
  all_goals
    simp (disch := omega) only [AEnd, Try.results89, aresK, fin, go_sem, ↓reduceIte, Nat.reduceEqDiff, Nat.reduceAdd, Nat.reduceLeDiff, if_yes, if_no, implies_true, true_and, and_true, List.reverse_cons, List.reverse_nil]
    simp [hurdleE] <;> omega
end Go.Proofs.Ytkjpceapflhmnaa
