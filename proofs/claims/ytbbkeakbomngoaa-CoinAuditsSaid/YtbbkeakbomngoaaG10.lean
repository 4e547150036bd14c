/- Contracts of functions that the claim reaches: what each call gives, told in our own logic. Conditions: those of each theorem. -/
import Derived.Test.YtbbkeakbomngoaaG7
set_option linter.all false
set_option linter.unusedSimpArgs false
set_option linter.unusedVariables false
namespace Go.Proofs.Ytbbkeakbomngoaa
open Go.Av
attribute [local irreducible] thenA blockA awp awpOps awpD awp1
set_option maxHeartbeats 8000000
set_option maxRecDepth 20000
/-! ### A raffle -/
def elt (l : List Int) (i : Nat) : Int := l.getD i 0
def sumL (l : List Int) : Int := sumF (elt l) l.length
def drwE (ts ss : List Int) : Int :=
  if 12 < ts.length then 5 else if allIn 0 1000 ts = false then 2 else if ss.length ≠ ts.length then 1 else if allIn 0 1000000000 ss = false then 2 else if sumL ts = 0 then 4 else 0
def drwR (ts ss : List Int) (v : AV) : Prop :=
  if drwE ts ss ≠ 0 then v = .tup [.int .i64 0, .int .i64 0, .int .i64 (drwE ts ss)] else
  ∃ k : Nat, k < ts.length ∧ sumF (elt ts) k ≤ (sumL ss).tmod (sumL ts) ∧ (sumL ss).tmod (sumL ts) < sumF (elt ts) (k + 1) ∧ v = .tup [.int .i64 ((sumL ss).tmod (sumL ts)), .int .i64 (k : Nat), .int .i64 0]
theorem allIn_elt {lo hi : Int} {l : List Int} (h : allIn lo hi l = true) (i : Nat) (hi' : i < l.length) : lo ≤ elt l i ∧ elt l i ≤ hi := by
  have := List.all_eq_true.1 h (elt l i) (by unfold elt; rw [List.getD_eq_getElem?_getD, List.getElem?_eq_getElem hi']; exact List.getElem_mem _)
  exact of_decide_eq_true this
theorem sumL_nn {lo hi : Int} (h0 : 0 ≤ lo) {l : List Int} (h : allIn lo hi l = true) : ∀ i, i ≤ l.length → 0 ≤ sumF (elt l) i := fun i hi =>
  sumF_nn fun j hj => by have := allIn_elt h j (by omega); omega
theorem sumL_bd {lo hi : Int} (h0 : 0 ≤ lo) {l : List Int} (h : allIn lo hi l = true) (i : Nat) (hi' : i ≤ l.length) : sumF (elt l) i ≤ i * hi := by
  by_cases e : i = 0
  · subst e; show (0 : Int) ≤ _; simp
  have := sumF_bd (F := elt l) (B := hi) i (fun j hj => by have := allIn_elt h j (by omega); omega)
  exact this.2
theorem all_stepP {p : Nat → Prop} {i : Nat} (h : ∀ j, j < i → p j) (hi : p i) : ∀ j, j < i + 1 → p j := fun j hj => by
  by_cases e : j = i
  · rw [e]; exact hi
  · exact h j (by omega)
theorem c71 (i n : Int) : Pure Try.prog 71 ([.int .i64 i, .int .i64 n] ++ []) (fun v => v = .int .i64 n) := by
  intro h
  refine ACalls.forget (ACalls.of tab mixed Try.call71 Try.func71 rfl (fi := ⟨6, [], [], none, []⟩) rfl rfl (Nat.le_of_ble_eq_true rfl) (by decide) ?_)
  unfold startA
  repeat' (first | refine st_seq_reg rfl (by first | (simp only [go_sem]; rfl) | rfl) (by first | (simp only [go_sem]; rfl) | rfl) ?_ | refine st_reg rfl (by first | (simp only [go_sem]; rfl) | rfl) (by first | (simp only [go_sem]; rfl) | rfl) ?_ | refine st_op ?_ | refine st_det rfl (by simp (disch := omega) only [go_sem, wr_i64, if_yes, if_no, ↓reduceIte, Nat.reduceAdd, Nat.reduceMul, Nat.reduceEqDiff, Nat.reduceBEq, Nat.reduceLeDiff]; rfl) ?_ | refine st_nil ?_ | refine st_tN ?_ | refine st_seq ?_ | refine st_skip ?_ | refine st_ret ?_ | refine st_tE ?_ | refine st_tR ?_)
  simp (disch := omega) only [AEnd, Try.results71, aresK, fin, go_sem, ↓reduceIte, Nat.reduceEqDiff, Nat.reduceAdd, Nat.reduceLeDiff, if_yes, if_no, implies_true, true_and, and_true, List.reverse_cons, List.reverse_nil]
theorem c72n (l : List Int) {lo hi : Int} (h0 : 0 ≤ lo) (h1 : hi ≤ 1000000000) (hl : l.length ≤ 1000) (ha : allIn lo hi l = true) : Pure Try.prog 72 [.lst 1 (l.map iv), .fn (.func 71) [] []] (fun v => v = .int .i64 (sumL l)) :=
  c72 l 71 [] (elt l) rfl hl (fun i hi => by have := allIn_elt ha i hi; omega) (fun i _ => c71 i (elt l i))
theorem c73 (l : List Int) {lo hi : Int} (h0 : 0 ≤ lo) (h1 : hi ≤ 1000000000) (hl : l.length ≤ 1000) (ha : allIn lo hi l = true) : Pure Try.prog 73 [.lst 1 (l.map iv)] (fun v => v = .int .i64 (sumL l)) := by
  intro h
  refine ACalls.forget (ACalls.of tab mixed Try.call73 Try.func73 rfl (fi := ⟨18, [], [], none, []⟩) rfl rfl (Nat.le_of_ble_eq_true rfl) (by decide) ?_)
  unfold startA
  repeat' (first | refine st_seq_reg rfl (by first | (simp only [go_sem]; rfl) | rfl) (by first | (simp only [go_sem]; rfl) | rfl) ?_ | refine st_reg rfl (by first | (simp only [go_sem]; rfl) | rfl) (by first | (simp only [go_sem]; rfl) | rfl) ?_ | refine st_op ?_ | refine st_det rfl (by simp (disch := omega) only [go_sem, wr_i64, if_yes, if_no, ↓reduceIte, Nat.reduceAdd, Nat.reduceMul, Nat.reduceEqDiff, Nat.reduceBEq, Nat.reduceLeDiff]; rfl) ?_ | refine st_condT rfl ?_ | refine st_condF rfl ?_ | (refine st_condS rfl ?_ ?_ <;> intro hg <;> (try simp only [decide_eq_true_eq, decide_eq_false_iff_not, Bool.not_eq_true', Bool.not_eq_false'] at hg)) | refine st_nil ?_ | refine st_tN ?_ | refine st_seq ?_ | refine st_block ?_ | refine st_skip ?_ | refine st_exit ?_ | refine st_ret ?_ | refine st_tE ?_ | refine st_tR ?_ | refine st_bN ?_ | refine st_bR ?_ | refine st_bH ?_ | refine st_bM rfl ?_)
  refine st_loopC (α := Nat) tab mixed [] [] (by repeat (first | exact trivial | refine ⟨rfl, ?_⟩)) [] [] (by repeat (first | exact trivial | refine ⟨rfl, ?_⟩)) (fun i => [(4, .int .i64 (i : Nat)), (3, .int .i64 (sumF (elt l) i))]) [(0, _)] (fun _ => []) [] (fun i => i ≤ l.length) (fun i => l.length - i) (by decide) 0 (Nat.zero_le _) (by (try simp only [go_sem]); repeat' (first | exact trivial | refine And.intro ?_ ?_ | rfl | (simp (disch := omega) only [go_sem, if_yes, if_no, ↓reduceIte, Nat.reduceAdd, Nat.reduceMul, Nat.reduceEqDiff, Nat.reduceBEq, Nat.reduceLeDiff]; rfl) | (simp (disch := omega) only [go_sem, if_yes, if_no, ↓reduceIte, Nat.reduceAdd, Nat.reduceMul, Nat.reduceEqDiff, Nat.reduceBEq, Nat.reduceLeDiff]))) (by (try simp only [go_sem]); repeat' (first | exact trivial | refine And.intro ?_ ?_ | rfl | (simp (disch := omega) only [go_sem, if_yes, if_no, ↓reduceIte, Nat.reduceAdd, Nat.reduceMul, Nat.reduceEqDiff, Nat.reduceBEq, Nat.reduceLeDiff]; rfl) | (simp (disch := omega) only [go_sem, if_yes, if_no, ↓reduceIte, Nat.reduceAdd, Nat.reduceMul, Nat.reduceEqDiff, Nat.reduceBEq, Nat.reduceLeDiff]))) (by first | (simp only [go_sem]; rfl) | rfl) (by intro n; simp only [go_sem]; rfl) ?_
  intro i c i1 hc
  simp only [go_sem]
  have hs := sumF_le hl (F := elt l) (fun i hi => by have := allIn_elt ha i hi; omega) i1
  have hf := fun hi => allIn_elt ha i hi
  have he : elt l i = l.getD i 0 := rfl
  have hr : sumF (elt l) (i + 1) = sumF (elt l) i + elt l i := rfl
  repeat' (first | refine st_seq_reg rfl (by first | (simp only [go_sem]; rfl) | rfl) (by first | (simp only [go_sem]; rfl) | rfl) ?_ | refine st_reg rfl (by first | (simp only [go_sem]; rfl) | rfl) (by first | (simp only [go_sem]; rfl) | rfl) ?_ | refine st_op ?_ | refine st_det rfl (by simp (disch := omega) only [go_sem, wr_i64, if_yes, if_no, ↓reduceIte, Nat.reduceAdd, Nat.reduceMul, Nat.reduceEqDiff, Nat.reduceBEq, Nat.reduceLeDiff]; rfl) ?_ | refine st_condT rfl ?_ | refine st_condF rfl ?_ | (refine st_condS rfl ?_ ?_ <;> intro hg <;> (try simp only [decide_eq_true_eq, decide_eq_false_iff_not, Bool.not_eq_true', Bool.not_eq_false'] at hg)) | refine st_nil ?_ | refine st_tN ?_ | refine st_seq ?_ | refine st_block ?_ | refine st_skip ?_ | refine st_exit ?_ | refine st_ret ?_ | refine st_tE ?_ | refine st_tR ?_ | refine st_bN ?_ | refine st_bR ?_ | refine st_bH ?_ | refine st_bM rfl ?_)
  · refine ⟨i + 1, (by show i + 1 ≤ l.length; omega), by show l.length - (i + 1) < l.length - i; omega, (by (try (simp only [hr, he])); repeat' (first | exact trivial | refine And.intro ?_ ?_ | rfl | (simp (disch := omega) only [go_sem, if_yes, if_no, ↓reduceIte, Nat.reduceAdd, Nat.reduceMul, Nat.reduceEqDiff, Nat.reduceBEq, Nat.reduceLeDiff]; rfl) | (simp (disch := omega) only [go_sem, if_yes, if_no, ↓reduceIte, Nat.reduceAdd, Nat.reduceMul, Nat.reduceEqDiff, Nat.reduceBEq, Nat.reduceLeDiff]))), (by (try (simp only [hr, he])); repeat' (first | exact trivial | refine And.intro ?_ ?_ | rfl | (simp (disch := omega) only [go_sem, if_yes, if_no, ↓reduceIte, Nat.reduceAdd, Nat.reduceMul, Nat.reduceEqDiff, Nat.reduceBEq, Nat.reduceLeDiff]; rfl) | (simp (disch := omega) only [go_sem, if_yes, if_no, ↓reduceIte, Nat.reduceAdd, Nat.reduceMul, Nat.reduceEqDiff, Nat.reduceBEq, Nat.reduceLeDiff]))), rfl, HOld.of _ (by omega)⟩
  · simp (disch := omega) only [AEnd, Try.results73, aresK, fin, go_sem, ↓reduceIte, Nat.reduceEqDiff, Nat.reduceAdd, Nat.reduceLeDiff, if_yes, if_no, implies_true, true_and, and_true, List.reverse_cons, List.reverse_nil]
    obtain rfl : i = l.length := by omega
    rfl
theorem tk_bd {ts ss : List Int} (h1 : allIn 0 1000 ts = true) (h2 : allIn 0 1000000000 ss = true) (hn : ¬ sumL ts = 0) : 0 < sumL ts ∧ 0 ≤ (sumL ss).tmod (sumL ts) ∧ (sumL ss).tmod (sumL ts) < sumL ts := by
  have a := sumL_nn (by omega) h1 ts.length (Nat.le_refl _)
  have b := sumL_nn (by omega) h2 ss.length (Nat.le_refl _)
  have a' : 0 ≤ sumL ts := a
  exact ⟨by omega, Int.tmod_nonneg _ b, Int.tmod_lt_of_pos _ (by omega)⟩
theorem c33 (ts ss : List Int) (hl : (ts.length : Int) < 1000000) (hs : (ss.length : Int) < 1000000) : Pure Try.prog 33 [.lst 1 (ts.map iv), .lst 1 (ss.map iv)] (drwR ts ss) := by
  intro h
  refine ACalls.forget (ACalls.of tab mixed Try.call33 Try.func33 rfl (fi := ⟨55, [], [], none, []⟩) rfl rfl (Nat.le_of_ble_eq_true rfl) (by decide) ?_)
  unfold startA
  repeat' (first | refine st_seq_reg rfl (by first | (simp only [go_sem, List.length_map]; rfl) | rfl) (by first | (simp only [go_sem, List.length_map]; rfl) | rfl) ?_ | refine st_reg rfl (by first | (simp only [go_sem, List.length_map]; rfl) | rfl) (by first | (simp only [go_sem, List.length_map]; rfl) | rfl) ?_ | refine st_op ?_ | refine st_det rfl (by simp (disch := omega) only [go_sem, wr_i64, if_yes, if_no, ↓reduceIte, Nat.reduceAdd, Nat.reduceMul, Nat.reduceEqDiff, Nat.reduceBEq, Nat.reduceLeDiff, List.length_map]; rfl) ?_ | (refine st_pureE (by first | (simp (disch := omega) only [go_sem, List.length_map]; rfl) | rfl) rfl (c65 _ _ ts hl) (by first | (simp only [go_sem, List.length_map]; rfl) | rfl) (by intro n; simp (disch := omega) only [go_sem]; rfl) ?_; intro n hn) | (refine st_pureE (by first | (simp (disch := omega) only [go_sem, List.length_map]; rfl) | rfl) rfl (c65 _ _ ss hs) (by first | (simp only [go_sem, List.length_map]; rfl) | rfl) (by intro n; simp (disch := omega) only [go_sem]; rfl) ?_; intro n hn) | (refine st_pureE (by first | (simp (disch := omega) only [go_sem, List.length_map]; rfl) | rfl) rfl (c72n (lo := 0) (hi := 1000) ts (by decide) (by decide) (by omega) (by assumption)) (by first | (simp only [go_sem, List.length_map]; rfl) | rfl) (by intro n; simp (disch := omega) only [go_sem]; rfl) ?_; intro n hn) | (refine st_pureE (by first | (simp (disch := omega) only [go_sem, List.length_map]; rfl) | rfl) rfl (c72n (lo := 0) (hi := 1000000000) ss (by decide) (by decide) (by omega) (by assumption)) (by first | (simp only [go_sem, List.length_map]; rfl) | rfl) (by intro n; simp (disch := omega) only [go_sem]; rfl) ?_; intro n hn) | refine st_condT rfl ?_ | refine st_condF rfl ?_ | (refine st_condS rfl ?_ ?_ <;> intro hg <;> (try simp only [decide_eq_true_eq, decide_eq_false_iff_not, Bool.not_eq_true', Bool.not_eq_false'] at hg)) | refine st_nil ?_ | refine st_tN ?_ | refine st_seq ?_ | refine st_block ?_ | refine st_skip ?_ | refine st_exit ?_ | refine st_ret ?_ | refine st_tE ?_ | refine st_tR ?_ | refine st_bN ?_ | refine st_bR ?_ | refine st_bH ?_ | refine st_bM rfl ?_)
  · simp (disch := omega) only [AEnd, Try.results33, aresK, fin, go_sem, ↓reduceIte, Nat.reduceEqDiff, Nat.reduceAdd, Nat.reduceLeDiff, if_yes, if_no, implies_true, true_and, and_true, List.reverse_cons, List.reverse_nil]
    have e : drwE ts ss = 5 := by unfold drwE; rw [if_pos (by omega)]
    unfold drwR; rw [e, if_pos (by decide)]
  · have e : drwE ts ss = 2 := by unfold drwE; rw [if_neg (by omega), if_pos (by assumption)]
    simp (disch := omega) only [AEnd, Try.results33, aresK, fin, go_sem, ↓reduceIte, Nat.reduceEqDiff, Nat.reduceAdd, Nat.reduceLeDiff, if_yes, if_no, implies_true, true_and, and_true, List.reverse_cons, List.reverse_nil]
    unfold drwR; rw [e, if_pos (by decide)]
  · have e : drwE ts ss = 1 := by unfold drwE; rw [if_neg (by omega), if_neg (by simp [*]), if_pos (by omega)]
    simp (disch := omega) only [AEnd, Try.results33, aresK, fin, go_sem, ↓reduceIte, Nat.reduceEqDiff, Nat.reduceAdd, Nat.reduceLeDiff, if_yes, if_no, implies_true, true_and, and_true, List.reverse_cons, List.reverse_nil]
    unfold drwR; rw [e, if_pos (by decide)]
  · have e : drwE ts ss = 2 := by unfold drwE; rw [if_neg (by omega), if_neg (by simp [*]), if_neg (by omega), if_pos (by assumption)]
    simp (disch := omega) only [AEnd, Try.results33, aresK, fin, go_sem, ↓reduceIte, Nat.reduceEqDiff, Nat.reduceAdd, Nat.reduceLeDiff, if_yes, if_no, implies_true, true_and, and_true, List.reverse_cons, List.reverse_nil]
    unfold drwR; rw [e, if_pos (by decide)]
  · have e : drwE ts ss = 4 := by unfold drwE; rw [if_neg (by omega), if_neg (by simp [*]), if_neg (by omega), if_neg (by simp [*]), if_pos (by assumption)]
    simp (disch := omega) only [AEnd, Try.results33, aresK, fin, go_sem, ↓reduceIte, Nat.reduceEqDiff, Nat.reduceAdd, Nat.reduceLeDiff, if_yes, if_no, implies_true, true_and, and_true, List.reverse_cons, List.reverse_nil]
    unfold drwR; rw [e, if_pos (by decide)]
  have t1 : allIn 0 1000 ts = true := by assumption
  have t2 : allIn 0 1000000000 ss = true := by assumption
  obtain ⟨p1, p2, p3⟩ := tk_bd t1 t2 hg
  have q1 : sumL ts ≤ ts.length * 1000 := sumL_bd (by decide) t1 ts.length (Nat.le_refl _)
  have q2 : sumL ss ≤ ss.length * 1000000000 := sumL_bd (by decide) t2 ss.length (Nat.le_refl _)
  have q3 : 0 ≤ sumL ss := sumL_nn (by decide) t2 ss.length (Nat.le_refl _)
  have e : drwE ts ss = 0 := by unfold drwE; rw [if_neg (by omega), if_neg (by simp [*]), if_neg (by omega), if_neg (by simp [*]), if_neg hg]
  have hlast : sumF (elt ts) ts.length = sumL ts := rfl
  have hR : ∀ v, (∃ k : Nat, k < ts.length ∧ sumF (elt ts) k ≤ (sumL ss).tmod (sumL ts) ∧ (sumL ss).tmod (sumL ts) < sumF (elt ts) (k + 1) ∧ v = .tup [.int .i64 ((sumL ss).tmod (sumL ts)), .int .i64 (k : Nat), .int .i64 0]) → drwR ts ss v := fun v hv => by
    unfold drwR; rw [e, if_neg (by decide)]; exact hv
  generalize (sumL ss).tmod (sumL ts) = T at *
  repeat' (first | refine st_seq_reg rfl (by first | (simp only [go_sem]; rfl) | rfl) (by first | (simp only [go_sem]; rfl) | rfl) ?_ | refine st_reg rfl (by first | (simp only [go_sem]; rfl) | rfl) (by first | (simp only [go_sem]; rfl) | rfl) ?_ | refine st_op ?_ | refine st_det rfl (by simp (disch := omega) only [go_sem, wr_i64, if_yes, if_no, ↓reduceIte, Nat.reduceAdd, Nat.reduceMul, Nat.reduceEqDiff, Nat.reduceBEq, Nat.reduceLeDiff]; rfl) ?_ | refine st_condT rfl ?_ | refine st_condF rfl ?_ | (refine st_condS rfl ?_ ?_ <;> intro hg <;> (try simp only [decide_eq_true_eq, decide_eq_false_iff_not, Bool.not_eq_true', Bool.not_eq_false'] at hg)) | refine st_nil ?_ | refine st_tN ?_ | refine st_seq ?_ | refine st_block ?_ | refine st_skip ?_ | refine st_exit ?_ | refine st_ret ?_ | refine st_tE ?_ | refine st_tR ?_ | refine st_bN ?_ | refine st_bR ?_ | refine st_bH ?_ | refine st_bM rfl ?_)
  have hn0 : 0 < ts.length := by
    rcases Nat.eq_zero_or_pos ts.length with h0 | h0
    · exfalso; rw [← hlast, h0] at p1; exact absurd p1 (Int.lt_irrefl 0)
    · exact h0
  refine st_loopC (α := Nat × Int) tab mixed [] [] (by repeat (first | exact trivial | refine ⟨rfl, ?_⟩)) [] [] (by repeat (first | exact trivial | refine ⟨rfl, ?_⟩)) (fun a => [(5, .int .i64 (a.1 : Nat)), (9, .int .i64 a.2)]) [(0, _), (4, _)] (fun _ => []) [] (fun a => a.1 < ts.length ∧ sumF (elt ts) a.1 ≤ T ∧ a.2 = T - sumF (elt ts) a.1) (fun a => ts.length - a.1) (by decide) (0, T) ⟨hn0, p2, by show T = T - 0; omega⟩ (by (try simp only [go_sem]); repeat' (first | exact trivial | refine And.intro ?_ ?_ | rfl | (simp (disch := omega) only [go_sem, if_yes, if_no, ↓reduceIte, Nat.reduceAdd, Nat.reduceMul, Nat.reduceEqDiff, Nat.reduceBEq, Nat.reduceLeDiff]; rfl) | (simp (disch := omega) only [go_sem, if_yes, if_no, ↓reduceIte, Nat.reduceAdd, Nat.reduceMul, Nat.reduceEqDiff, Nat.reduceBEq, Nat.reduceLeDiff]))) (by (try simp only [go_sem]); repeat' (first | exact trivial | refine And.intro ?_ ?_ | rfl | (simp (disch := omega) only [go_sem, if_yes, if_no, ↓reduceIte, Nat.reduceAdd, Nat.reduceMul, Nat.reduceEqDiff, Nat.reduceBEq, Nat.reduceLeDiff]; rfl) | (simp (disch := omega) only [go_sem, if_yes, if_no, ↓reduceIte, Nat.reduceAdd, Nat.reduceMul, Nat.reduceEqDiff, Nat.reduceBEq, Nat.reduceLeDiff]))) (by first | (simp only [go_sem]; rfl) | rfl) (by intro n; simp only [go_sem]; rfl) ?_
  rintro ⟨k, r⟩ c ⟨k1, k2, k3⟩ hc
  dsimp only at k1 k2 k3
  simp only [go_sem]
  have hk := allIn_elt t1 k k1
  have hnn := sumL_nn (by decide) t1 k (by omega)
  have hr : sumF (elt ts) (k + 1) = sumF (elt ts) k + elt ts k := rfl
  have he : ts.getD k 0 = elt ts k := rfl
  repeat' (first | refine st_seq_reg rfl (by first | (simp only [go_sem, he]; rfl) | rfl) (by first | (simp only [go_sem, he]; rfl) | rfl) ?_ | refine st_reg rfl (by first | (simp only [go_sem, he]; rfl) | rfl) (by first | (simp only [go_sem, he]; rfl) | rfl) ?_ | refine st_op ?_ | refine st_det rfl (by simp (disch := omega) only [go_sem, wr_i64, if_yes, if_no, ↓reduceIte, Nat.reduceAdd, Nat.reduceMul, Nat.reduceEqDiff, Nat.reduceBEq, Nat.reduceLeDiff, he]; rfl) ?_ | refine st_condT rfl ?_ | refine st_condF rfl ?_ | (refine st_condS rfl ?_ ?_ <;> intro hg <;> (try simp only [decide_eq_true_eq, decide_eq_false_iff_not, Bool.not_eq_true', Bool.not_eq_false'] at hg)) | refine st_nil ?_ | refine st_tN ?_ | refine st_seq ?_ | refine st_block ?_ | refine st_skip ?_ | refine st_exit ?_ | refine st_ret ?_ | refine st_tE ?_ | refine st_tR ?_ | refine st_bN ?_ | refine st_bR ?_ | refine st_bH ?_ | refine st_bM rfl ?_)
  · have hk2 : k + 1 < ts.length := by
      rcases Nat.lt_or_ge (k + 1) ts.length with h' | h'
      · exact h'
      · obtain rfl' : k + 1 = ts.length := by omega
        rw [rfl', hlast] at hr
        omega
    refine ⟨(k + 1, r - elt ts k), ⟨hk2, by show sumF (elt ts) (k + 1) ≤ T; omega, by show r - elt ts k = T - sumF (elt ts) (k + 1); omega⟩, by show ts.length - (k + 1) < ts.length - k; omega, (by repeat' (first | exact trivial | refine And.intro ?_ ?_ | rfl | (simp (disch := omega) only [go_sem, if_yes, if_no, ↓reduceIte, Nat.reduceAdd, Nat.reduceMul, Nat.reduceEqDiff, Nat.reduceBEq, Nat.reduceLeDiff]; rfl) | (simp (disch := omega) only [go_sem, if_yes, if_no, ↓reduceIte, Nat.reduceAdd, Nat.reduceMul, Nat.reduceEqDiff, Nat.reduceBEq, Nat.reduceLeDiff]))), (by repeat' (first | exact trivial | refine And.intro ?_ ?_ | rfl | (simp (disch := omega) only [go_sem, if_yes, if_no, ↓reduceIte, Nat.reduceAdd, Nat.reduceMul, Nat.reduceEqDiff, Nat.reduceBEq, Nat.reduceLeDiff]; rfl) | (simp (disch := omega) only [go_sem, if_yes, if_no, ↓reduceIte, Nat.reduceAdd, Nat.reduceMul, Nat.reduceEqDiff, Nat.reduceBEq, Nat.reduceLeDiff]))), rfl, HOld.of _ (by omega)⟩
  · simp (disch := omega) only [AEnd, Try.results33, aresK, fin, go_sem, ↓reduceIte, Nat.reduceEqDiff, Nat.reduceAdd, Nat.reduceLeDiff, if_yes, if_no, implies_true, true_and, and_true, List.reverse_cons, List.reverse_nil]
    exact hR _ ⟨k, k1, k2, by omega, rfl⟩
end Go.Proofs.Ytbbkeakbomngoaa
