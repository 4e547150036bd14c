/- Contracts of functions that the claim reaches: what each call gives, told in our own logic. Conditions: those of each theorem. -/
import Derived.Test.YtbbkeakbomngoaaAvT
set_option linter.all false
set_option linter.unusedSimpArgs false
set_option linter.unusedVariables false
namespace Go.Proofs.Ytbbkeakbomngoaa
open Go.Av
attribute [local irreducible] thenA blockA awp awpOps awpD awp1
set_option maxHeartbeats 4000000
set_option maxRecDepth 20000
theorem mixed : Try.prog.follows .mixedOrders = true := by decide
/-- A list of integers, as rows of a slice. -/
def iv (n : Int) : List AV := [.int .i64 n]
@[go_sem] theorem iv_eq (n : Int) : iv n = [.int .i64 n] := rfl
@[go_sem] theorem map_len {α β : Type} (f : α → β) (l : List α) : (l.map f).length = l.length := List.length_map f
@[go_sem] theorem ivs_getD {l : List Int} {i : Nat} (h : i < l.length) : (l.map iv).getD i [] = [.int .i64 (l.getD i 0)] := by
  simp [List.getD_eq_getElem?_getD, h, iv]
@[go_sem] theorem toNat_cast (n : Nat) : ((n : Nat) : Int).toNat = n := rfl
def allIn (lo hi : Int) (l : List Int) : Bool := l.all fun a => decide (lo ≤ a ∧ a ≤ hi)
theorem drop_getD {α : Type} {l : List α} {i : Nat} (d : α) (h : i < l.length) : l.drop i = l.getD i d :: l.drop (i + 1) := by
  rw [List.drop_eq_getElem_cons h, List.getD_eq_getElem?_getD, List.getElem?_eq_getElem h]; rfl
theorem c65 (lo hi : Int) (es : List Int) (hl : (es.length : Int) < 1000000) : Pure Try.prog 65 [.int .i64 lo, .int .i64 hi, .lst 1 (es.map iv)] (fun v => v = .bool (allIn lo hi es)) := by
  intro h
  refine ACalls.forget (ACalls.of tab mixed Try.call65 Try.func65 rfl (fi := ⟨24, [], [], none, []⟩) rfl rfl (Nat.le_of_ble_eq_true rfl) (by decide) ?_)
  unfold startA
  repeat' (first | refine st_seq_reg rfl (by first | (simp only [go_sem]; rfl) | rfl) (by first | (simp only [go_sem]; rfl) | rfl) ?_ | refine st_reg rfl (by first | (simp only [go_sem]; rfl) | rfl) (by first | (simp only [go_sem]; rfl) | rfl) ?_ | refine st_op ?_ | refine st_det rfl (by simp (disch := omega) only [go_sem, wr_i64, if_yes, if_no, ↓reduceIte, Nat.reduceAdd, Nat.reduceMul, Nat.reduceEqDiff, Nat.reduceBEq, Nat.reduceLeDiff]; rfl) ?_ | refine st_gT rfl rfl rfl ?_ | refine st_gF rfl rfl rfl ?_ | (refine st_gS rfl rfl ?_ ?_ <;> intro hg <;> (try simp only [decide_eq_true_eq, decide_eq_false_iff_not, Bool.not_eq_true', Bool.not_eq_false'] at hg)) | refine st_condT rfl ?_ | refine st_condF rfl ?_ | (refine st_condS rfl ?_ ?_ <;> intro hg <;> (try simp only [decide_eq_true_eq, decide_eq_false_iff_not, Bool.not_eq_true', Bool.not_eq_false'] at hg)) | refine st_nil ?_ | refine st_tN ?_ | refine st_seq ?_ | refine st_block ?_ | refine st_skip ?_ | refine st_exit ?_ | refine st_ret ?_ | refine st_tE ?_ | refine st_tR ?_ | refine st_bN ?_ | refine st_bR ?_ | refine st_bH ?_ | refine st_bM rfl ?_)
  refine st_loopC (α := Nat) tab mixed [] [] (by repeat (first | exact trivial | refine ⟨rfl, ?_⟩)) [] [] (by repeat (first | exact trivial | refine ⟨rfl, ?_⟩)) (fun i => [(11, .int .i64 i)]) [(0, _), (1, _), (6, _), (9, _), (10, _)] (fun _ => []) [] (fun i => i ≤ es.length ∧ allIn lo hi (es.drop i) = allIn lo hi es) (fun i => es.length - i) (by decide) 0 ⟨by omega, rfl⟩ (by (try simp only [go_sem]); repeat' (first | exact trivial | refine And.intro ?_ ?_ | rfl | (simp (disch := omega) only [go_sem, if_yes, if_no, ↓reduceIte, Nat.reduceAdd, Nat.reduceMul, Nat.reduceEqDiff, Nat.reduceBEq, Nat.reduceLeDiff]; rfl) | (simp (disch := omega) only [go_sem, if_yes, if_no, ↓reduceIte, Nat.reduceAdd, Nat.reduceMul, Nat.reduceEqDiff, Nat.reduceBEq, Nat.reduceLeDiff]))) (by (try simp only [go_sem]); repeat' (first | exact trivial | refine And.intro ?_ ?_ | rfl | (simp (disch := omega) only [go_sem, if_yes, if_no, ↓reduceIte, Nat.reduceAdd, Nat.reduceMul, Nat.reduceEqDiff, Nat.reduceBEq, Nat.reduceLeDiff]; rfl) | (simp (disch := omega) only [go_sem, if_yes, if_no, ↓reduceIte, Nat.reduceAdd, Nat.reduceMul, Nat.reduceEqDiff, Nat.reduceBEq, Nat.reduceLeDiff]))) (by first | (simp only [go_sem]; rfl) | rfl) (by intro n; simp only [go_sem]; rfl) ?_
  rintro i c ⟨hi', hall⟩ hc
  simp only [go_sem]
  repeat' (first | refine st_seq_reg rfl (by first | (simp only [go_sem]; rfl) | rfl) (by first | (simp only [go_sem]; rfl) | rfl) ?_ | refine st_reg rfl (by first | (simp only [go_sem]; rfl) | rfl) (by first | (simp only [go_sem]; rfl) | rfl) ?_ | refine st_op ?_ | refine st_det rfl (by simp (disch := omega) only [go_sem, wr_i64, if_yes, if_no, ↓reduceIte, Nat.reduceAdd, Nat.reduceMul, Nat.reduceEqDiff, Nat.reduceBEq, Nat.reduceLeDiff]; rfl) ?_ | refine st_gT rfl rfl rfl ?_ | refine st_gF rfl rfl rfl ?_ | (refine st_gS rfl rfl ?_ ?_ <;> intro hg <;> (try simp only [decide_eq_true_eq, decide_eq_false_iff_not, Bool.not_eq_true', Bool.not_eq_false'] at hg)) | refine st_condT rfl ?_ | refine st_condF rfl ?_ | (refine st_condS rfl ?_ ?_ <;> intro hg <;> (try simp only [decide_eq_true_eq, decide_eq_false_iff_not, Bool.not_eq_true', Bool.not_eq_false'] at hg)) | refine st_nil ?_ | refine st_tN ?_ | refine st_seq ?_ | refine st_block ?_ | refine st_skip ?_ | refine st_exit ?_ | refine st_ret ?_ | refine st_tE ?_ | refine st_tR ?_ | refine st_bN ?_ | refine st_bR ?_ | refine st_bH ?_ | refine st_bM rfl ?_)
  · simp (disch := omega) only [AEnd, Try.results65, aresK, fin, go_sem, ↓reduceIte, Nat.reduceEqDiff, Nat.reduceAdd, Nat.reduceLeDiff, if_yes, if_no, implies_true, true_and, and_true, List.reverse_cons, List.reverse_nil]
    rw [← hall, drop_getD 0 (by omega)]; simp [allIn, -List.getD_eq_getElem?_getD]; omega
  · simp (disch := omega) only [AEnd, Try.results65, aresK, fin, go_sem, ↓reduceIte, Nat.reduceEqDiff, Nat.reduceAdd, Nat.reduceLeDiff, if_yes, if_no, implies_true, true_and, and_true, List.reverse_cons, List.reverse_nil]
    rw [← hall, drop_getD 0 (by omega)]; simp [allIn, -List.getD_eq_getElem?_getD]; omega
  · refine ⟨i + 1, ⟨by omega, by rw [← hall, drop_getD 0 (by omega : i < es.length)]; simp [allIn, -List.getD_eq_getElem?_getD]; omega⟩, by omega, (by repeat' (first | exact trivial | refine And.intro ?_ ?_ | rfl | (simp (disch := omega) only [go_sem, if_yes, if_no, ↓reduceIte, Nat.reduceAdd, Nat.reduceMul, Nat.reduceEqDiff, Nat.reduceBEq, Nat.reduceLeDiff]; rfl) | (simp (disch := omega) only [go_sem, if_yes, if_no, ↓reduceIte, Nat.reduceAdd, Nat.reduceMul, Nat.reduceEqDiff, Nat.reduceBEq, Nat.reduceLeDiff]))), (by repeat' (first | exact trivial | refine And.intro ?_ ?_ | rfl | (simp (disch := omega) only [go_sem, if_yes, if_no, ↓reduceIte, Nat.reduceAdd, Nat.reduceMul, Nat.reduceEqDiff, Nat.reduceBEq, Nat.reduceLeDiff]; rfl) | (simp (disch := omega) only [go_sem, if_yes, if_no, ↓reduceIte, Nat.reduceAdd, Nat.reduceMul, Nat.reduceEqDiff, Nat.reduceBEq, Nat.reduceLeDiff]))), rfl, HOld.of _ (by omega)⟩
  · simp (disch := omega) only [AEnd, Try.results65, aresK, fin, go_sem, ↓reduceIte, Nat.reduceEqDiff, Nat.reduceAdd, Nat.reduceLeDiff, if_yes, if_no, implies_true, true_and, and_true, List.reverse_cons, List.reverse_nil]
    rw [← hall, List.drop_eq_nil_of_le (by omega)]; rfl
theorem c65a (lo hi a : Int) : Pure Try.prog 65 [.int .i64 lo, .int .i64 hi, .lst 1 [[.int .i64 a]]] (fun v => v = .bool (decide (lo ≤ a ∧ a ≤ hi))) := by
  have h := c65 lo hi [a] (by simp)
  have e : allIn lo hi [a] = decide (lo ≤ a ∧ a ≤ hi) := by simp [allIn]
  rw [e] at h; exact h
theorem c65b (lo hi a b : Int) : Pure Try.prog 65 [.int .i64 lo, .int .i64 hi, .lst 1 [[.int .i64 a], [.int .i64 b]]] (fun v => v = .bool (decide (lo ≤ a ∧ a ≤ hi ∧ lo ≤ b ∧ b ≤ hi))) := by
  have h := c65 lo hi [a, b] (by simp)
  have e : allIn lo hi [a, b] = decide (lo ≤ a ∧ a ≤ hi ∧ lo ≤ b ∧ b ≤ hi) := by simp [allIn, Bool.decide_and, Bool.and_assoc]
  rw [e] at h; exact h
/-! ### Sets of small numbers -/
def hasB (s n : Int) : Bool := decide (bitop .and .i64 (shr .i64 s n) 1 = 1)
def wthB (s n : Int) : Int := bitop .or .i64 s (shl .i64 1 n)
theorem c64 (s n : Int) (hn : 0 ≤ n) : Pure Try.prog 64 [.int .i64 s, .int .i64 n] (fun v => v = .bool (hasB s n)) := by
  intro h
  refine ACalls.forget (ACalls.of tab mixed Try.call64 Try.func64 rfl (fi := ⟨10, [], [], none, []⟩) rfl rfl (Nat.le_of_ble_eq_true rfl) (by decide) ?_)
  unfold startA
  repeat' (first | refine st_seq_reg rfl (by first | (simp only [go_sem]; rfl) | rfl) (by first | (simp only [go_sem]; rfl) | rfl) ?_ | refine st_reg rfl (by first | (simp only [go_sem]; rfl) | rfl) (by first | (simp only [go_sem]; rfl) | rfl) ?_ | refine st_op ?_ | refine st_det rfl (by simp (disch := omega) only [go_sem, wr_i64, if_yes, if_no, ↓reduceIte, Nat.reduceAdd, Nat.reduceMul, Nat.reduceEqDiff, Nat.reduceBEq, Nat.reduceLeDiff]; rfl) ?_ | refine st_nil ?_ | refine st_tN ?_ | refine st_seq ?_ | refine st_skip ?_ | refine st_ret ?_ | refine st_tE ?_ | refine st_tR ?_)
  simp (disch := omega) only [AEnd, Try.results64, aresK, fin, go_sem, ↓reduceIte, Nat.reduceEqDiff, Nat.reduceAdd, Nat.reduceLeDiff, if_yes, if_no, implies_true, true_and, and_true, List.reverse_cons, List.reverse_nil]
  trace_state
  rfl
theorem c87 (s n : Int) (hn : 0 ≤ n) : Pure Try.prog 87 [.int .i64 s, .int .i64 n] (fun v => v = .int .i64 (wthB s n)) := by
  intro h
  refine ACalls.forget (ACalls.of tab mixed Try.call87 Try.func87 rfl (fi := ⟨9, [], [], none, []⟩) rfl rfl (Nat.le_of_ble_eq_true rfl) (by decide) ?_)
  unfold startA
  repeat' (first | refine st_seq_reg rfl (by first | (simp only [go_sem]; rfl) | rfl) (by first | (simp only [go_sem]; rfl) | rfl) ?_ | refine st_reg rfl (by first | (simp only [go_sem]; rfl) | rfl) (by first | (simp only [go_sem]; rfl) | rfl) ?_ | refine st_op ?_ | refine st_det rfl (by simp (disch := omega) only [go_sem, wr_i64, if_yes, if_no, ↓reduceIte, Nat.reduceAdd, Nat.reduceMul, Nat.reduceEqDiff, Nat.reduceBEq, Nat.reduceLeDiff]; rfl) ?_ | refine st_nil ?_ | refine st_tN ?_ | refine st_seq ?_ | refine st_skip ?_ | refine st_ret ?_ | refine st_tE ?_ | refine st_tR ?_)
  simp (disch := omega) only [AEnd, Try.results87, aresK, fin, go_sem, ↓reduceIte, Nat.reduceEqDiff, Nat.reduceAdd, Nat.reduceLeDiff, if_yes, if_no, implies_true, true_and, and_true, List.reverse_cons, List.reverse_nil]
  trace_state
  rfl
end Go.Proofs.Ytbbkeakbomngoaa
