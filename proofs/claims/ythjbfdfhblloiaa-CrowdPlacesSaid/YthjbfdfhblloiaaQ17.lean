/- Contracts of functions that the claim reaches: what each call gives, told in our own logic. Conditions: those of each theorem. -/
import Derived.Test.YthjbfdfhblloiaaQ25
import Derived.Test.YthjbfdfhblloiaaW2
set_option linter.all false
set_option linter.unusedSimpArgs false
set_option linter.unusedVariables false
namespace Go.Proofs.Ythjbfdfhblloiaa
open Go.Av
attribute [local irreducible] thenA blockA awp awpOps awpD awp1
set_option maxHeartbeats 8000000
set_option maxRecDepth 20000
theorem catN_pre {α : Type} (g : Nat → List α) {i : Nat} : ∀ {n : Nat}, i ≤ n → ∃ r, catN g n = catN g i ++ r
  | 0, h => by
    obtain rfl : i = 0 := by omega
    exact ⟨[], by simp⟩
  | n + 1, h => by
    by_cases e : i = n + 1
    · exact ⟨[], by rw [e, List.append_nil]⟩
    · obtain ⟨r, hr⟩ := catN_pre g (i := i) (n := n) (by omega)
      exact ⟨r ++ g n, by show catN g n ++ g n = _; rw [hr, List.append_assoc]⟩
theorem crL_at (t : Tw) (s : Nat → Int) {st q : Nat} (h1 : st < (t.steps + 1).toNat) (h2 : q < t.rooms.length) : ∃ r, crL t s = (catN (crS t s) st ++ catN (crF t s st) q) ++ (crF t s st q ++ r) := by
  obtain ⟨r1, e1⟩ := catN_pre (crS t s) (i := st + 1) (n := (t.steps + 1).toNat) h1
  obtain ⟨r2, e2⟩ := catN_pre (crF t s st) (i := q + 1) (n := t.rooms.length) h2
  refine ⟨r2 ++ r1, ?_⟩
  unfold crL
  rw [e1]
  show (catN (crS t s) st ++ crS t s st) ++ r1 = _
  have e3 : crS t s st = (catN (crF t s st) q ++ crF t s st q) ++ r2 := e2
  rw [e3]
  simp only [List.append_assoc]
theorem c90 (t : Tw) (f : Nat → Int) : Pure Try.prog 90 [.agg (stR f), t.av] (fun v => v = .fn (.func 108) [] [.iptr t.cells 0, .iptr (stR f) 0]) := by
  intro h
  refine ACalls.forget (ACalls.of tab mixed Try.call90 Try.func90 rfl (fi := ⟨6, [], [2, 3], none, []⟩) rfl rfl (Nat.le_of_ble_eq_true rfl) (by decide) ?_)
  unfold startA
  simp only [go_sem]
  repeat' (first | refine st_seq_reg rfl (by first | (simp only [go_sem]; rfl) | rfl) (by first | (simp only [go_sem]; rfl) | rfl) ?_ | refine st_op ?_ | refine st_det rfl (by simp (disch := omega) only [go_sem, wr_i64, if_yes, if_no, ↓reduceIte, Nat.reduceAdd, Nat.reduceMul, Nat.reduceEqDiff, Nat.reduceBEq, Nat.reduceLeDiff]; rfl) ?_ | refine st_nil ?_ | refine st_ret ?_)
  simp (disch := omega) only [AEnd, Try.results90, aresK, fin, go_sem, ↓reduceIte, Nat.reduceEqDiff, Nat.reduceAdd, Nat.reduceLeDiff, if_yes, if_no, implies_true, true_and, and_true, List.reverse_cons, List.reverse_nil]
  try rfl
theorem c108 (t : Tw) (f : Nat → Int) (l : Nat) (hT : TwOk t) (I : List Cr → AH → Prop) (D : List Cr → Cr → AH → Prop) (hI : ∀ p g' n, I p g' → g'.clk ≤ n → I p (g'.tick n)) (hD : ∀ p x g' n, D p x g' → g'.clk ≤ n → D p x (g'.tick n))
    (hy : ∀ p x g', (∃ r, crL t f = p ++ x :: r) → I p g' → AYields Try.prog l [.agg x.row] g' (fun v h' => (v = .bool true ∧ I (p ++ [x]) h') ∨ (v = .bool false ∧ D p x h'))) (h : AH) (h0 : I [] h) :
    ACalls Try.prog 108 [.fn (.yield l) [] [], .iptr t.cells 0, .iptr (stR f) 0] h (fun _ h' => I (crL t f) h' ∨ ∃ p x r, crL t f = p ++ x :: r ∧ D p x h') := by
  have hst := hT.steps
  have hrn := hT.rn
  have hsN : ((t.steps + 1).toNat : Int) = t.steps + 1 := by omega
  refine ACalls.of tab mixed Try.call108 Try.func108 rfl (fi := ⟨42, [], [], none, []⟩) rfl rfl (Nat.le_of_ble_eq_true rfl) (by decide) ?_
  unfold startA
  unfold Tw.cells
  repeat' (first | refine st_seq_reg rfl (by first | (simp only [go_sem]; rfl) | rfl) (by first | (simp only [go_sem]; rfl) | rfl) ?_ | refine st_op ?_ | refine st_det rfl (by simp (disch := omega) only [go_sem, wr_i64, if_yes, if_no, ↓reduceIte, Nat.reduceAdd, Nat.reduceMul, Nat.reduceEqDiff, Nat.reduceBEq, Nat.reduceLeDiff]; rfl) ?_ | refine st_nil ?_ | refine st_block ?_)
  refine st_loopH (α := Nat × AH) tab mixed [] [] (by repeat (first | exact trivial | refine ⟨rfl, ?_⟩)) [] [] (by repeat (first | exact trivial | refine ⟨rfl, ?_⟩)) (fun a => [(11, .int .i64 (a.1 : Nat))]) [(0, _), (1, _), (2, _), (10, _)] (fun _ => []) [] (fun a => a.2) (fun a => a.1 ≤ (t.steps + 1).toNat ∧ I (catN (crS t f) a.1) a.2) (fun a => (t.steps + 1).toNat - a.1) (by decide) (0, h) ⟨Nat.zero_le _, h0⟩ (by (try simp only [go_sem]); repeat' (first | exact trivial | refine And.intro ?_ ?_ | rfl | (simp (disch := omega) only [go_sem, if_yes, if_no, ↓reduceIte, Nat.reduceAdd, Nat.reduceMul, Nat.reduceEqDiff, Nat.reduceBEq, Nat.reduceLeDiff]; rfl) | (simp (disch := omega) only [go_sem, if_yes, if_no, ↓reduceIte, Nat.reduceAdd, Nat.reduceMul, Nat.reduceEqDiff, Nat.reduceBEq, Nat.reduceLeDiff]))) (by (try simp only [go_sem]); repeat' (first | exact trivial | refine And.intro ?_ ?_ | rfl | (simp (disch := omega) only [go_sem, if_yes, if_no, ↓reduceIte, Nat.reduceAdd, Nat.reduceMul, Nat.reduceEqDiff, Nat.reduceBEq, Nat.reduceLeDiff]; rfl) | (simp (disch := omega) only [go_sem, if_yes, if_no, ↓reduceIte, Nat.reduceAdd, Nat.reduceMul, Nat.reduceEqDiff, Nat.reduceBEq, Nat.reduceLeDiff]))) (HOld.tick (by simp only [go_sem]; omega)) ?_
  rintro ⟨st, g⟩ c ⟨i1, i2⟩ hc
  dsimp only at i1 i2 hc
  simp only [go_sem]
  by_cases hlt : st < (t.steps + 1).toNat
  case neg =>
    have e : st = (t.steps + 1).toNat := by omega
    subst e
    repeat' (first | refine st_seq_reg rfl (by first | (simp only [go_sem]; rfl) | rfl) (by first | (simp only [go_sem]; rfl) | rfl) ?_ | refine st_op ?_ | refine st_det rfl (by simp (disch := omega) only [go_sem, wr_i64, if_yes, if_no, ↓reduceIte, Nat.reduceAdd, Nat.reduceMul, Nat.reduceEqDiff, Nat.reduceBEq, Nat.reduceLeDiff]; rfl) ?_ | (refine st_condS rfl ?_ ?_ <;> intro hg <;> (try simp only [decide_eq_true_eq, decide_eq_false_iff_not, Bool.not_eq_true', Bool.not_eq_false'] at hg)) | refine st_nil ?_ | refine st_tN ?_ | refine st_seq ?_ | refine st_block ?_ | refine st_skip ?_ | refine st_exit ?_ | refine st_tE ?_ | refine st_bH ?_)
    all_goals try (exfalso; omega)
    simp (disch := omega) only [AEnd, Try.results108, aresK, fin, go_sem, ↓reduceIte, Nat.reduceEqDiff, Nat.reduceAdd, Nat.reduceLeDiff, if_yes, if_no, implies_true, true_and, and_true, List.reverse_cons, List.reverse_nil]
    exact .inl (hI _ _ _ i2 (by omega))
  repeat' (first | refine st_seq_reg rfl (by first | (simp only [go_sem, List.length_map]; rfl) | rfl) (by first | (simp only [go_sem, List.length_map]; rfl) | rfl) ?_ | refine st_op ?_ | refine st_det rfl (by simp (disch := omega) only [go_sem, wr_i64, if_yes, if_no, ↓reduceIte, Nat.reduceAdd, Nat.reduceMul, Nat.reduceEqDiff, Nat.reduceBEq, Nat.reduceLeDiff, List.length_map]; rfl) ?_ | (refine st_condS rfl ?_ ?_ <;> intro hg <;> (try simp only [decide_eq_true_eq, decide_eq_false_iff_not, Bool.not_eq_true', Bool.not_eq_false'] at hg)) | refine st_nil ?_ | refine st_tN ?_ | refine st_seq ?_ | refine st_block ?_ | refine st_skip ?_ | refine st_exit ?_ | refine st_tE ?_ | refine st_bH ?_)
  all_goals try (exfalso; omega)
  refine st_loopH (α := Nat × AH) tab mixed [] [] (by repeat (first | exact trivial | refine ⟨rfl, ?_⟩)) [] [] (by repeat (first | exact trivial | refine ⟨rfl, ?_⟩)) (fun a => [(17, .int .i64 (a.1 : Nat))]) [(0, _), (1, _), (2, _), (10, _), (11, _), (4, _), (15, _), (16, _)] (fun _ => []) [] (fun a => a.2) (fun a => a.1 ≤ t.rooms.length ∧ I (catN (crS t f) st ++ catN (crF t f st) a.1) a.2) (fun a => t.rooms.length - a.1) (by decide) (0, g) ⟨Nat.zero_le _, by show I (_ ++ []) _; rw [List.append_nil]; exact i2⟩ (by (try simp only [go_sem]); repeat' (first | exact trivial | refine And.intro ?_ ?_ | rfl | (simp (disch := omega) only [go_sem, if_yes, if_no, ↓reduceIte, Nat.reduceAdd, Nat.reduceMul, Nat.reduceEqDiff, Nat.reduceBEq, Nat.reduceLeDiff]; rfl) | (simp (disch := omega) only [go_sem, if_yes, if_no, ↓reduceIte, Nat.reduceAdd, Nat.reduceMul, Nat.reduceEqDiff, Nat.reduceBEq, Nat.reduceLeDiff]))) (by (try simp only [go_sem]); repeat' (first | exact trivial | refine And.intro ?_ ?_ | rfl | (simp (disch := omega) only [go_sem, if_yes, if_no, ↓reduceIte, Nat.reduceAdd, Nat.reduceMul, Nat.reduceEqDiff, Nat.reduceBEq, Nat.reduceLeDiff]; rfl) | (simp (disch := omega) only [go_sem, if_yes, if_no, ↓reduceIte, Nat.reduceAdd, Nat.reduceMul, Nat.reduceEqDiff, Nat.reduceBEq, Nat.reduceLeDiff]))) (HOld.tick (by simp only [go_sem]; omega)) ?_
  rintro ⟨q, g2⟩ c2 ⟨j1, j2⟩ hc2
  dsimp only at j1 j2 hc2
  simp only [go_sem]
  by_cases hq : q < t.rooms.length
  case neg =>
    have e : q = t.rooms.length := by omega
    subst e
    repeat' (first | refine st_seq_reg rfl (by first | (simp only [go_sem, List.length_map]; rfl) | rfl) (by first | (simp only [go_sem, List.length_map]; rfl) | rfl) ?_ | refine st_reg rfl (by first | (simp only [go_sem, List.length_map]; rfl) | rfl) (by first | (simp only [go_sem, List.length_map]; rfl) | rfl) ?_ | refine st_op ?_ | refine st_det rfl (by simp (disch := omega) only [go_sem, wr_i64, if_yes, if_no, ↓reduceIte, Nat.reduceAdd, Nat.reduceMul, Nat.reduceEqDiff, Nat.reduceBEq, Nat.reduceLeDiff, List.length_map]; rfl) ?_ | (refine st_condS rfl ?_ ?_ <;> intro hg <;> (try simp only [decide_eq_true_eq, decide_eq_false_iff_not, Bool.not_eq_true', Bool.not_eq_false'] at hg)) | refine st_nil ?_ | refine st_tN ?_ | refine st_seq ?_ | refine st_block ?_ | refine st_skip ?_ | refine st_exit ?_ | refine st_tE ?_ | refine st_bN ?_ | refine st_bH ?_)
    all_goals try (exfalso; omega)
    refine ⟨(st + 1, g2), ⟨by show st + 1 ≤ _; omega, j2⟩, by show (t.steps + 1).toNat - (st + 1) < (t.steps + 1).toNat - st; omega, (by repeat' (first | exact trivial | refine And.intro ?_ ?_ | rfl | (simp (disch := omega) only [go_sem, if_yes, if_no, ↓reduceIte, Nat.reduceAdd, Nat.reduceMul, Nat.reduceEqDiff, Nat.reduceBEq, Nat.reduceLeDiff]; rfl) | (simp (disch := omega) only [go_sem, if_yes, if_no, ↓reduceIte, Nat.reduceAdd, Nat.reduceMul, Nat.reduceEqDiff, Nat.reduceBEq, Nat.reduceLeDiff]))), (by repeat' (first | exact trivial | refine And.intro ?_ ?_ | rfl | (simp (disch := omega) only [go_sem, if_yes, if_no, ↓reduceIte, Nat.reduceAdd, Nat.reduceMul, Nat.reduceEqDiff, Nat.reduceBEq, Nat.reduceLeDiff]; rfl) | (simp (disch := omega) only [go_sem, if_yes, if_no, ↓reduceIte, Nat.reduceAdd, Nat.reduceMul, Nat.reduceEqDiff, Nat.reduceBEq, Nat.reduceLeDiff]))), rfl, HOld.tick (by simp only [go_sem]; omega)⟩
  have k71 := c71 t f (q : Nat) (st : Nat) hT ⟨by omega, by omega⟩
  have hF : crF t f st q = if elt t.rooms q < ldHi t f (q : Nat) (st : Nat) then [⟨(st : Nat), (q : Nat), ldHi t f (q : Nat) (st : Nat)⟩] else [] := rfl
  obtain ⟨r, hr⟩ := crL_at t f hlt hq
  have hS : catN (crF t f st) (q + 1) = catN (crF t f st) q ++ crF t f st q := rfl
  by_cases hb : elt t.rooms q < ldHi t f (q : Nat) (st : Nat)
  · rw [if_pos hb] at hF
    rw [hF] at hr hS
    repeat' (first | refine st_seq_reg rfl (by first | (simp only [go_sem, List.length_map, Nat.zero_add]; rfl) | rfl) (by first | (simp only [go_sem, List.length_map, Nat.zero_add]; rfl) | rfl) ?_ | refine st_reg rfl (by first | (simp only [go_sem, List.length_map, Nat.zero_add]; rfl) | rfl) (by first | (simp only [go_sem, List.length_map, Nat.zero_add]; rfl) | rfl) ?_ | refine st_op ?_ | refine st_det rfl (by simp (disch := omega) only [go_sem, wr_i64, if_yes, if_no, ↓reduceIte, Nat.reduceAdd, Nat.reduceMul, Nat.reduceEqDiff, Nat.reduceBEq, Nat.reduceLeDiff, List.length_map, Nat.zero_add]; rfl) ?_ | (refine st_pureE (by first | (simp (disch := omega) only [go_sem, List.length_map, Nat.zero_add]; rfl) | rfl) rfl (k71) (by first | (simp only [go_sem, List.length_map, Nat.zero_add]; rfl) | rfl) (by intro n; first | (simp (disch := omega) only [go_sem]; rfl) | rfl) ?_; intro n hn) | (refine st_yield rfl (by first | (simp (disch := omega) only [go_sem]; rfl) | (simp (disch := omega) only [go_sem])) rfl (hy _ ⟨(st : Nat), (q : Nat), ldHi t f (q : Nat) (st : Nat)⟩ _ ⟨r, hr⟩ (hI _ _ _ j2 (by omega))) ?_; rintro v h' (⟨rfl, hi2⟩ | ⟨rfl, hd2⟩)) | refine st_gT rfl rfl rfl ?_ | refine st_gF rfl rfl rfl ?_ | (refine st_gS rfl rfl ?_ ?_ <;> intro hg <;> (try simp only [decide_eq_true_eq, decide_eq_false_iff_not, Bool.not_eq_true', Bool.not_eq_false'] at hg)) | refine st_condT rfl ?_ | refine st_condF rfl ?_ | (refine st_condS rfl ?_ ?_ <;> intro hg <;> (try simp only [decide_eq_true_eq, decide_eq_false_iff_not, Bool.not_eq_true', Bool.not_eq_false'] at hg)) | refine st_nil ?_ | refine st_tN ?_ | refine st_seq ?_ | refine st_block ?_ | refine st_skip ?_ | refine st_exit ?_ | refine st_ret ?_ | refine st_tE ?_ | refine st_tR ?_ | refine st_bN ?_ | refine st_bR ?_ | refine st_bH ?_)
    all_goals try (exfalso; omega)
    · refine ⟨(q + 1, h'), ⟨by show q + 1 ≤ _; omega, by show I (_ ++ catN (crF t f st) (q + 1)) _; rw [hS, ← List.append_assoc]; exact hi2⟩, by show t.rooms.length - (q + 1) < t.rooms.length - q; omega, (by repeat' (first | exact trivial | refine And.intro ?_ ?_ | rfl | (simp (disch := omega) only [go_sem, if_yes, if_no, ↓reduceIte, Nat.reduceAdd, Nat.reduceMul, Nat.reduceEqDiff, Nat.reduceBEq, Nat.reduceLeDiff]; rfl) | (simp (disch := omega) only [go_sem, if_yes, if_no, ↓reduceIte, Nat.reduceAdd, Nat.reduceMul, Nat.reduceEqDiff, Nat.reduceBEq, Nat.reduceLeDiff]))), (by repeat' (first | exact trivial | refine And.intro ?_ ?_ | rfl | (simp (disch := omega) only [go_sem, if_yes, if_no, ↓reduceIte, Nat.reduceAdd, Nat.reduceMul, Nat.reduceEqDiff, Nat.reduceBEq, Nat.reduceLeDiff]; rfl) | (simp (disch := omega) only [go_sem, if_yes, if_no, ↓reduceIte, Nat.reduceAdd, Nat.reduceMul, Nat.reduceEqDiff, Nat.reduceBEq, Nat.reduceLeDiff]))), rfl, HOld.tick (by simp only [go_sem]; omega)⟩
    · simp (disch := omega) only [AEnd, Try.results108, aresK, fin, go_sem, ↓reduceIte, Nat.reduceEqDiff, Nat.reduceAdd, Nat.reduceLeDiff, if_yes, if_no, implies_true, true_and, and_true, List.reverse_cons, List.reverse_nil]
      exact .inr ⟨_, _, r, hr, by first | exact hd2 | exact hD _ _ _ _ hd2 (by omega)⟩
  · rw [if_neg hb] at hF
    rw [hF, List.append_nil] at hS
    repeat' (first | refine st_seq_reg rfl (by first | (simp only [go_sem, List.length_map, Nat.zero_add]; rfl) | rfl) (by first | (simp only [go_sem, List.length_map, Nat.zero_add]; rfl) | rfl) ?_ | refine st_reg rfl (by first | (simp only [go_sem, List.length_map, Nat.zero_add]; rfl) | rfl) (by first | (simp only [go_sem, List.length_map, Nat.zero_add]; rfl) | rfl) ?_ | refine st_op ?_ | refine st_det rfl (by simp (disch := omega) only [go_sem, wr_i64, if_yes, if_no, ↓reduceIte, Nat.reduceAdd, Nat.reduceMul, Nat.reduceEqDiff, Nat.reduceBEq, Nat.reduceLeDiff, List.length_map, Nat.zero_add]; rfl) ?_ | (refine st_pureE (by first | (simp (disch := omega) only [go_sem, List.length_map, Nat.zero_add]; rfl) | rfl) rfl (k71) (by first | (simp only [go_sem, List.length_map, Nat.zero_add]; rfl) | rfl) (by intro n; first | (simp (disch := omega) only [go_sem]; rfl) | rfl) ?_; intro n hn) | refine st_gT rfl rfl rfl ?_ | refine st_gF rfl rfl rfl ?_ | (refine st_gS rfl rfl ?_ ?_ <;> intro hg <;> (try simp only [decide_eq_true_eq, decide_eq_false_iff_not, Bool.not_eq_true', Bool.not_eq_false'] at hg)) | refine st_condF rfl ?_ | (refine st_condS rfl ?_ ?_ <;> intro hg <;> (try simp only [decide_eq_true_eq, decide_eq_false_iff_not, Bool.not_eq_true', Bool.not_eq_false'] at hg)) | refine st_nil ?_ | refine st_tN ?_ | refine st_seq ?_ | refine st_block ?_ | refine st_skip ?_ | refine st_exit ?_ | refine st_tE ?_ | refine st_bN ?_ | refine st_bH ?_)
    all_goals try (exfalso; omega)
    refine ⟨(q + 1, g2), ⟨by show q + 1 ≤ _; omega, by show I (_ ++ catN (crF t f st) (q + 1)) _; rw [hS]; exact j2⟩, by show t.rooms.length - (q + 1) < t.rooms.length - q; omega, (by repeat' (first | exact trivial | refine And.intro ?_ ?_ | rfl | (simp (disch := omega) only [go_sem, if_yes, if_no, ↓reduceIte, Nat.reduceAdd, Nat.reduceMul, Nat.reduceEqDiff, Nat.reduceBEq, Nat.reduceLeDiff]; rfl) | (simp (disch := omega) only [go_sem, if_yes, if_no, ↓reduceIte, Nat.reduceAdd, Nat.reduceMul, Nat.reduceEqDiff, Nat.reduceBEq, Nat.reduceLeDiff]))), (by repeat' (first | exact trivial | refine And.intro ?_ ?_ | rfl | (simp (disch := omega) only [go_sem, if_yes, if_no, ↓reduceIte, Nat.reduceAdd, Nat.reduceMul, Nat.reduceEqDiff, Nat.reduceBEq, Nat.reduceLeDiff]; rfl) | (simp (disch := omega) only [go_sem, if_yes, if_no, ↓reduceIte, Nat.reduceAdd, Nat.reduceMul, Nat.reduceEqDiff, Nat.reduceBEq, Nat.reduceLeDiff]))), rfl, HOld.tick (by simp only [go_sem]; omega)⟩
def crV (t : Tw) (f : Nat → Int) : AV := match crL t f with
  | x :: _ => .tup [.agg x.row, .bool true]
  | [] => .tup [.agg [.int .i64 0, .int .i64 0, .int .i64 0], .bool false]
theorem c95 (t : Tw) (f : Nat → Int) (hT : TwOk t) : Pure Try.prog 95 [.agg (stR f), t.av] (fun v => v = crV t f) := by
  have k90 := c90 t f
  intro h
  refine ACalls.forget (ACalls.of tab mixed Try.call95 Try.func95 rfl (fi := ⟨13, [6], [2, 3], none, []⟩) rfl rfl (Nat.le_of_ble_eq_true rfl) (by decide) ?_)
  unfold startA
  simp only [go_sem]
  repeat' (first | refine st_seq_reg rfl (by first | (simp only [go_sem]; rfl) | rfl) (by first | (simp only [go_sem]; rfl) | rfl) ?_ | refine st_op ?_ | refine st_det rfl (by simp (disch := omega) only [go_sem, wr_i64, if_yes, if_no, ↓reduceIte, Nat.reduceAdd, Nat.reduceMul, Nat.reduceEqDiff, Nat.reduceBEq, Nat.reduceLeDiff]; rfl) ?_ | refine st_heap rfl (by simp (disch := omega) only [go_sem, wr_i64, if_yes, if_no, ↓reduceIte, Nat.reduceAdd, Nat.reduceMul, Nat.reduceEqDiff, Nat.reduceBEq, Nat.reduceLeDiff]; rfl) ?_ | (refine st_pureE (by first | (simp (disch := omega) only [go_sem]; rfl) | rfl) rfl (k90) (by first | (simp only [go_sem]; rfl) | rfl) (by intro n; first | (simp (disch := omega) only [go_sem]; rfl) | rfl) ?_; intro n hn) | refine st_nil ?_ | refine st_seq ?_ | refine st_block ?_)
  refine st_rangeFunc rfl (by simp only [go_sem]; rfl) (fun l D R hR hlp => ?_)
  simp only [go_sem] at hlp
  have hn4 : ∀ b' : Nat × Nat, b'.1 < h.clk → ¬ b' = (h.clk, 4) := fun b' hb' => ne_fst hb' (Nat.le_refl _)
  have hn5 : ∀ b' : Nat × Nat, b'.1 < h.clk → ¬ b' = (h.clk, 5) := fun b' hb' => ne_fst hb' (Nat.le_refl _)
  have h45 : ¬ ((h.clk, 4) : Nat × Nat) = (h.clk, 5) := ne_snd (by decide)
  have h54 : ¬ ((h.clk, 5) : Nat × Nat) = (h.clk, 4) := ne_snd (by decide)
  let A : AH → Prop := fun g => h.clk + 1 ≤ g.clk ∧ (∀ b' : Bid, b'.1 < h.clk → g.at_ b' = h.at_ b') ∧ (∀ l', l' ≠ l → g.lp l' = h.lp l')
  let I : List Cr → AH → Prop := fun p g => p = [] ∧ g.lp l = some R ∧ A g ∧ g.at_ (h.clk, 4) = some ⟨3, [[.int .i64 0, .int .i64 0, .int .i64 0]]⟩ ∧ g.at_ (h.clk, 5) = some ⟨1, [[.bool false]]⟩
  let E : List Cr → Cr → AH → Prop := fun p x g => p = [] ∧ g.lp l = some (R.stop .ret) ∧ A g ∧ g.at_ (h.clk, 4) = some ⟨3, [x.row]⟩ ∧ g.at_ (h.clk, 5) = some ⟨1, [[.bool true]]⟩
  have hlp2 : ∀ h' : AH, A h' → (h'.lpSet l none).lp = h.lp := by
    intro h' ⟨_, _, h3⟩
    funext l'
    by_cases e : l' = l
    · rw [e, lpSet_same, hlp]
    · rw [lpSet_ne _ _ e]; exact h3 l' e
  refine (c108 t f l hT I E ?_ ?_ ?_ _ ?_).mono ?_
  · rintro p g' m ⟨h1, h2, ⟨h3, h4, h5⟩, h6, h7⟩ hm
    exact ⟨h1, h2, ⟨by show h.clk + 1 ≤ m; omega, h4, h5⟩, h6, h7⟩
  · rintro p x g' m ⟨h1, h2, ⟨h3, h4, h5⟩, h6, h7⟩ hm
    exact ⟨h1, h2, ⟨by show h.clk + 1 ≤ m; omega, h4, h5⟩, h6, h7⟩
  · rintro p x g' _ ⟨h1, h2, ⟨h3, h4, h5⟩, h6, h7⟩
    refine AYields.canonD tab mixed [6] [] [] hR h2 rfl (by intro p hp; simp at hp; rcases hp with rfl; decide) [(10, .agg x.row), (4, .ptr (h.clk, 4) 0 0), (5, .ptr (h.clk, 5) 0 0)] ⟨rfl, rfl, rfl, trivial⟩ (by decide) (by decide) ?_
    simp only [go_sem]
    repeat' (first | refine st_reg rfl (by first | (simp only [go_sem]; rfl) | rfl) (by first | (simp only [go_sem]; rfl) | rfl) ?_ | refine st_op ?_ | refine st_loc rfl (by simp (disch := omega) only [go_sem, wr_i64, if_yes, if_no, ↓reduceIte, Nat.reduceAdd, Nat.reduceMul, Nat.reduceEqDiff, Nat.reduceBEq, Nat.reduceLeDiff]; rfl) ?_ | refine st_store (by simp (disch := omega) only [go_sem, wr_i64, if_yes, if_no, ↓reduceIte, Nat.reduceAdd, Nat.reduceMul, Nat.reduceEqDiff, Nat.reduceBEq, Nat.reduceLeDiff]; rfl) ?_ | refine st_nil ?_ | refine st_tN ?_)
    refine ⟨by simp only [go_sem]; exact h2, ?_⟩
    dsimp only
    repeat' (first | refine st_seq_reg rfl (by first | (simp only [go_sem, h6, h7, h45, h54]; rfl) | rfl) (by first | (simp only [go_sem, h6, h7, h45, h54]; rfl) | rfl) ?_ | refine st_op ?_ | refine st_det rfl (by simp (disch := omega) only [go_sem, wr_i64, if_yes, if_no, ↓reduceIte, Nat.reduceAdd, Nat.reduceMul, Nat.reduceEqDiff, Nat.reduceBEq, Nat.reduceLeDiff, h6, h7, h45, h54]; rfl) ?_ | refine st_store (by simp (disch := omega) only [go_sem, wr_i64, if_yes, if_no, ↓reduceIte, Nat.reduceAdd, Nat.reduceMul, Nat.reduceEqDiff, Nat.reduceBEq, Nat.reduceLeDiff, h6, h7, h45, h54]; rfl) ?_ | refine st_nil ?_ | refine st_block ?_ | refine st_ret ?_ | refine st_bR ?_)
    refine ⟨by simp only [go_sem], .inr ⟨rfl, h1, lpSet_same _ _ _, ⟨by simp only [go_sem]; omega, fun b' hb' => ?_, fun l' hl' => ?_⟩, ?_, ?_⟩⟩
    · simp only [go_sem, if_neg (hn4 b' hb'), if_neg (hn5 b' hb')]; exact h4 b' hb'
    · rw [lpSet_ne _ _ hl']; simp only [go_sem]; rw [lpSet_ne _ _ hl']; exact h5 l' hl'
    · simp only [go_sem, h45, h54, ↓reduceIte] <;> rfl
    · simp only [go_sem, h45, h54, ↓reduceIte] <;> rfl
  · exact ⟨rfl, lpSet_same _ _ _, ⟨by simp only [go_sem]; omega, fun b' hb' => by simp only [go_sem, if_neg (hn4 b' hb'), if_neg (hn5 b' hb')], fun l' hl' => by rw [lpSet_ne _ _ hl']; rfl⟩, by simp only [go_sem, h45, h54, ↓reduceIte], by simp only [go_sem, h45, h54, ↓reduceIte]⟩
  · rintro v h' (⟨h1, h2, h3, h4, h5⟩ | ⟨p, x, r, e, h1, h2, h3, h4, h5⟩)
    · refine .inl ⟨h2, st_bN (st_tN ?_)⟩
      have hl2 := hlp2 h' h3
      repeat' (first | refine st_seq_reg rfl (by first | (simp only [go_sem, h4, h5, h45, h54]; rfl) | rfl) (by first | (simp only [go_sem, h4, h5, h45, h54]; rfl) | rfl) ?_ | refine st_op ?_ | refine st_det rfl (by simp (disch := omega) only [go_sem, wr_i64, if_yes, if_no, ↓reduceIte, Nat.reduceAdd, Nat.reduceMul, Nat.reduceEqDiff, Nat.reduceBEq, Nat.reduceLeDiff, h4, h5, h45, h54]; rfl) ?_ | refine st_store (by simp (disch := omega) only [go_sem, wr_i64, if_yes, if_no, ↓reduceIte, Nat.reduceAdd, Nat.reduceMul, Nat.reduceEqDiff, Nat.reduceBEq, Nat.reduceLeDiff, h4, h5, h45, h54]; rfl) ?_ | refine st_nil ?_ | refine st_ret ?_)
      simp (disch := omega) only [AEnd, Try.results95, aresK, fin, go_sem, ↓reduceIte, Nat.reduceEqDiff, Nat.reduceAdd, Nat.reduceLeDiff, if_yes, if_no, implies_true, true_and, and_true, List.reverse_cons, List.reverse_nil, h45, h54]
      refine ⟨fun b' hb' => ?_, hl2, ?_⟩
      · rw [if_neg (hn5 b' hb'), if_neg (hn4 b' hb')]; exact h3.2.1 b' hb'
      · unfold crV; rw [h1]
    · refine .inr ⟨.ret, h2, ASem.ret (st_bR (st_tR ?_))⟩
      have hl2 := hlp2 h' h3
      subst h1
      repeat' (first | refine st_seq_reg rfl (by first | (simp only [go_sem]; rfl) | rfl) (by first | (simp only [go_sem]; rfl) | rfl) ?_)
      simp (disch := omega) only [AEnd, Try.results95, aresK, fin, go_sem, ↓reduceIte, Nat.reduceEqDiff, Nat.reduceAdd, Nat.reduceLeDiff, if_yes, if_no, implies_true, true_and, and_true, List.reverse_cons, List.reverse_nil, h4, h5, hl2]
      refine ⟨h3.2.1, ?_⟩
      unfold crV; rw [e]; first | done | rfl
theorem cells_one {v : AV} (h : v.cell = true) : v.cells = [v] := by
  cases v <;> first | rfl | (cases h; done)
theorem catN_len {α : Type} {g : Nat → List α} {B : Nat} : ∀ {n : Nat}, (∀ i, i < n → (g i).length ≤ B) → (catN g n).length ≤ n * B
  | 0, _ => by simp [catN]
  | n + 1, h => by
    have ih := catN_len (n := n) (g := g) (B := B) fun i hi => h i (by omega)
    have h1 := h n (by omega)
    show (catN g n ++ g n).length ≤ _
    rw [List.length_append, Nat.add_mul]
    omega
theorem crL_len {t : Tw} (hT : TwOk t) (f : Nat → Int) : (crL t f).length ≤ 1164 := by
  have hst := hT.steps
  have hrn := hT.rn
  have h1 : ∀ st, (crS t f st).length ≤ 12 := fun st => by
    have := catN_len (g := crF t f st) (B := 1) (n := t.rooms.length) fun i _ => by unfold crF; split <;> simp
    unfold crS; omega
  have h2 := catN_len (g := crS t f) (B := 12) (n := (t.steps + 1).toNat) fun i _ => h1 i
  unfold crL; omega
def crsV (t : Tw) (c : List Int) : AV := if cloE t c ≠ 0 then .tup [.lst 3 [], .int .i64 (cloE t c)] else .tup [.lst 3 ((crL t (cls c)).map Cr.row), .int .i64 0]
theorem c49 (t : Tw) (c : List Int) (hcl : c.length ≤ 1000000) : Pure Try.prog 49 [t.av, .lst 1 (c.map iv)] (fun v => v = crsV t c) := by
  have k74 := c74 t c hcl
  refine Pure.give Try.call49 fun h hall => ?_
  by_cases h0 : cloE t c = 0
  case neg =>
    refine ACalls.of tab mixed Try.call49 Try.func49 rfl (fi := ⟨25, [8], [2, 22], none, [(5, [0, 1, 0, 7], [(0, false), (2, true), (1, false), (3, false)])]⟩) rfl rfl (Nat.le_of_ble_eq_true rfl) (by decide) ?_
    unfold startA
    simp only [go_sem]
    repeat' (first | refine st_seq_reg rfl (by first | (simp only [go_sem]; rfl) | rfl) (by first | (simp only [go_sem]; rfl) | rfl) ?_ | refine st_seq_draw rfl (by first | (simp only [go_sem]; rfl) | rfl) (by first | (simp only [go_sem]; rfl) | rfl) ?_ | refine st_op ?_ | refine st_det rfl (by simp (disch := omega) only [go_sem, wr_i64, if_yes, if_no, ↓reduceIte, Nat.reduceAdd, Nat.reduceMul, Nat.reduceEqDiff, Nat.reduceBEq, Nat.reduceLeDiff]; rfl) ?_ | refine st_dop rfl ?_ | refine st_heap rfl (by simp (disch := omega) only [go_sem, wr_i64, if_yes, if_no, ↓reduceIte, Nat.reduceAdd, Nat.reduceMul, Nat.reduceEqDiff, Nat.reduceBEq, Nat.reduceLeDiff]; rfl) ?_ | (refine st_pureE (by first | (simp (disch := omega) only [go_sem]; rfl) | rfl) rfl (k74) (by first | (simp only [go_sem]; rfl) | rfl) (by intro n; first | (simp (disch := omega) only [go_sem]; rfl) | rfl) ?_; intro n hn) | (refine st_condS rfl ?_ ?_ <;> intro hg <;> (try simp only [decide_eq_true_eq, decide_eq_false_iff_not, Bool.not_eq_true', Bool.not_eq_false'] at hg)) | refine st_nil ?_ | refine st_tN ?_ | refine st_seq ?_ | refine st_skip ?_ | refine st_ret ?_ | refine st_tR ?_)
    all_goals try (exfalso; omega)
    simp (disch := omega) only [AEnd, Try.results49, aresK, fin, go_sem, ↓reduceIte, Nat.reduceEqDiff, Nat.reduceAdd, Nat.reduceLeDiff, if_yes, if_no, implies_true, true_and, and_true, List.reverse_cons, List.reverse_nil]
    refine .inl ⟨_, le_nil2 _ 3, ?_⟩
    unfold crsV; rw [if_pos h0]
  rw [h0] at k74
  obtain ⟨hT, hc⟩ := cloOk h0
  have hsn := hT.sn
  have k83 := c83 c hcl (fun i hi => by have := hc i hi; omega)
  have k90 := c90 t (cls c)
  have hln := crL_len hT (cls c)
  have hE : crsV t c = .tup [.lst 3 ((crL t (cls c)).map Cr.row), .int .i64 0] := by
    unfold crsV; rw [if_neg (fun e => e h0)]
  refine ACalls.of tab mixed Try.call49 Try.func49 rfl (fi := ⟨25, [8], [2, 22], none, [(5, [0, 1, 0, 7], [(0, false), (2, true), (1, false), (3, false)])]⟩) rfl rfl (Nat.le_of_ble_eq_true rfl) (by decide) ?_
  unfold startA
  simp only [go_sem]
  repeat' (first | refine st_seq_reg rfl (by first | (simp only [go_sem]; rfl) | rfl) (by first | (simp only [go_sem]; rfl) | rfl) ?_ | refine st_seq_draw rfl (by first | (simp only [go_sem]; rfl) | rfl) (by first | (simp only [go_sem]; rfl) | rfl) ?_ | refine st_op ?_ | refine st_det rfl (by simp (disch := omega) only [go_sem, wr_i64, if_yes, if_no, ↓reduceIte, Nat.reduceAdd, Nat.reduceMul, Nat.reduceEqDiff, Nat.reduceBEq, Nat.reduceLeDiff]; rfl) ?_ | refine st_dop rfl ?_ | refine st_heap rfl (by simp (disch := omega) only [go_sem, wr_i64, if_yes, if_no, ↓reduceIte, Nat.reduceAdd, Nat.reduceMul, Nat.reduceEqDiff, Nat.reduceBEq, Nat.reduceLeDiff]; rfl) ?_ | (refine st_pureE (by first | (simp (disch := omega) only [go_sem]; rfl) | rfl) rfl (k74) (by first | (simp only [go_sem]; rfl) | rfl) (by intro n; first | (simp (disch := omega) only [go_sem]; rfl) | rfl) ?_; intro n hn) | (refine st_pureE (by first | (simp (disch := omega) only [go_sem]; rfl) | rfl) rfl (k83) (by first | (simp only [go_sem]; rfl) | rfl) (by intro n; first | (simp (disch := omega) only [go_sem]; rfl) | rfl) ?_; intro n hn) | (refine st_pureE (by first | (simp (disch := omega) only [go_sem]; rfl) | rfl) rfl (k90) (by first | (simp only [go_sem]; rfl) | rfl) (by intro n; first | (simp (disch := omega) only [go_sem]; rfl) | rfl) ?_; intro n hn) | refine st_condF rfl ?_ | refine st_nil ?_ | refine st_dnil ?_ | refine st_tN ?_ | refine st_seq ?_ | refine st_block ?_ | refine st_skip ?_)
  all_goals try (exfalso; omega)
  rename_i n1 hn1 n2 hn2
  refine st_rangeFunc rfl (by simp only [go_sem]; rfl) (fun l D R hR hlp => ?_)
  simp only [go_sem] at hlp
  have hn7 : ∀ b' : Nat × Nat, b'.1 < h.clk → ¬ b' = (n1 + 1, 7) := fun b' hb' => ne_fst hb' (by show h.clk ≤ n1 + 1; omega)
  let A : AH → Prop := fun g => n1 + 2 ≤ g.clk ∧ (∀ b' : Bid, b'.1 < h.clk → g.at_ b' = h.at_ b') ∧ (∀ l', l' ≠ l → g.lp l' = h.lp l')
  let I : List Cr → AH → Prop := fun p g => g.lp l = some R ∧ A g ∧ ∃ v, g.at_ (n1 + 1, 7) = some ⟨1, [[v]]⟩ ∧ SlA (n1 + 2) g v 3 (p.map Cr.row)
  have hlp2 : ∀ h' : AH, A h' → (h'.lpSet l none).lp = h.lp := by
    intro h' ⟨_, _, h3⟩
    funext l'
    by_cases e : l' = l
    · rw [e, lpSet_same, hlp]
    · rw [lpSet_ne _ _ e]; exact h3 l' e
  refine (c108 t (cls c) l hT I (fun _ _ _ => False) ?_ ?_ ?_ _ ?_).mono ?_
  · rintro p g' m ⟨h1, ⟨h3, h4, h5⟩, v, h6, h7⟩ hm
    exact ⟨h1, ⟨by show n1 + 2 ≤ m; omega, h4, h5⟩, v, h6, h7.to (fun _ _ _ _ _ => rfl) hm⟩
  · exact fun _ _ _ _ h _ => h
  · rintro p x g0 ⟨r, hr⟩ ⟨h1, ⟨h3, h4, h5⟩, v, h6, h7⟩
    have hpl : p.length < 1164 := by rw [hr, List.length_append, List.length_cons] at hln; omega
    refine AYields.canonD tab mixed [8] [22] [] hR h1 rfl (by intro p hp; simp at hp; rcases hp with rfl; decide) [(19, .agg x.row), (7, .ptr (n1 + 1, 7) 0 0)] ⟨rfl, rfl, trivial⟩ (by decide) (by decide) ?_
    simp only [go_sem]
    repeat' (first | refine st_reg rfl (by first | (simp only [go_sem]; rfl) | rfl) (by first | (simp only [go_sem]; rfl) | rfl) ?_ | refine st_op ?_ | refine st_loc rfl (by simp (disch := omega) only [go_sem, wr_i64, if_yes, if_no, ↓reduceIte, Nat.reduceAdd, Nat.reduceMul, Nat.reduceEqDiff, Nat.reduceBEq, Nat.reduceLeDiff]; rfl) ?_ | refine st_store (by simp (disch := omega) only [go_sem, wr_i64, if_yes, if_no, ↓reduceIte, Nat.reduceAdd, Nat.reduceMul, Nat.reduceEqDiff, Nat.reduceBEq, Nat.reduceLeDiff]; rfl) ?_ | refine st_nil ?_ | refine st_tN ?_)
    refine ⟨by simp only [go_sem]; exact h1, ?_⟩
    dsimp only
    have hnc := h7.noL
    have hcc := h7.cell
    repeat' (first | refine st_reg rfl (by first | (simp only [go_sem, h6]; rfl) | rfl) (by first | (simp only [go_sem, h6]; rfl) | rfl) ?_ | refine st_op ?_ | refine st_det rfl (by simp (disch := omega) only [go_sem, wr_i64, if_yes, if_no, ↓reduceIte, Nat.reduceAdd, Nat.reduceMul, Nat.reduceEqDiff, Nat.reduceBEq, Nat.reduceLeDiff, h6]; rfl) ?_ | (refine st_appS (by intro h id x y; simp only [go_sem]; rfl) rfl (by simp only [go_sem, h6]; rfl) (by simp only [go_sem, h6]; rfl) (by decide) h7 (fun _ _ _ => rfl) (by omega) (by simp only [List.length_map, List.length_cons, List.length_nil, big, h6]; omega) (by omega) (by omega) ?_; intro v' g' hA) | refine st_block ?_)
    have hvn : ∀ m, v ≠ .slc (n1 + 1, 7) 3 0 m := fun m e => by have := (h7.lt e).1; dsimp only at this; omega
    have hb7 : g'.at_ (n1 + 1, 7) = some ⟨1, [[v]]⟩ := by
      rw [hA.keep _ hvn (fun e => by have := congrArg Prod.snd e; simp at this)]
      simp only [go_sem]; exact h6
    have hnc' := hA.nol
    have hcc' := hA.sl.cell
    have hce' := cells_one hcc'
    repeat' (first | refine st_store (by simp (disch := omega) only [go_sem, wr_i64, if_yes, if_no, ↓reduceIte, Nat.reduceAdd, Nat.reduceMul, Nat.reduceEqDiff, Nat.reduceBEq, Nat.reduceLeDiff, hb7, hcc', hnc', hce']; rfl) ?_ | refine st_nil ?_ | refine st_bN ?_)
    refine ⟨by simp only [go_sem]; rw [hA.lp]; simp only [go_sem], .inl ⟨rfl, lpSet_same _ _ _, ⟨by simp only [go_sem]; omega, fun b' hb' => ?_, fun l' hl' => ?_⟩, v', ?_, ?_⟩⟩
    · simp only [go_sem, if_neg (hn7 b' hb')]; rw [hA.old b' (by omega)]; simp only [go_sem]; exact h4 b' hb'
    · rw [lpSet_ne _ _ hl']; simp only [go_sem]; rw [hA.lp]; simp only [go_sem]; rw [lpSet_ne _ _ hl']; exact h5 l' hl'
    · simp only [go_sem, ↓reduceIte] <;> rfl
    · rw [List.map_append]
      exact hA.sl.to (fun b1 m e q1 q2 => by simp only [go_sem]; rw [if_neg (fun e => by rw [e] at q1; dsimp only at q1; omega)]) (by simp only [go_sem]; omega)
  · exact ⟨lpSet_same _ _ _, ⟨by simp only [go_sem]; omega, fun b' hb' => by simp only [go_sem, if_neg (hn7 b' hb')], fun l' hl' => by rw [lpSet_ne _ _ hl']; rfl⟩, .nils, by simp only [go_sem, ↓reduceIte], .inl ⟨rfl, rfl⟩⟩
  · rintro v h' (⟨h1, h2, v, h3, h4⟩ | ⟨p, x, r, e, hf⟩)
    · refine .inl ⟨h1, st_bN (st_tN ?_)⟩
      have hl2 := hlp2 h' h2
      have hnc := h4.noL
      have hcc := h4.cell
      have hce := cells_one hcc
      repeat' (first | refine st_seq_reg rfl (by first | (simp only [go_sem, h3]; rfl) | rfl) (by first | (simp only [go_sem, h3]; rfl) | rfl) ?_ | refine st_op ?_ | refine st_det rfl (by simp (disch := omega) only [go_sem, wr_i64, if_yes, if_no, ↓reduceIte, Nat.reduceAdd, Nat.reduceMul, Nat.reduceEqDiff, Nat.reduceBEq, Nat.reduceLeDiff, h3]; rfl) ?_ | refine st_nil ?_ | refine st_ret ?_)
      simp (disch := omega) only [AEnd, Try.results49, aresK, fin, go_sem, ↓reduceIte, Nat.reduceEqDiff, Nat.reduceAdd, Nat.reduceLeDiff, if_yes, if_no, implies_true, true_and, and_true, List.reverse_cons, List.reverse_nil]
      refine ⟨hnc, h2.2.1, hl2, SlA.ans2 ((h4.weak (by omega : h.clk ≤ n1 + 2)).to (fun _ _ _ _ _ => rfl) (by first | exact Nat.le_refl _ | (simp only [go_sem]; omega) | omega)) ?_⟩
      rw [hE]
    · exact hf.elim
end Go.Proofs.Ythjbfdfhblloiaa
