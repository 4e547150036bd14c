/- Contracts of functions that the claim reaches: what each call gives, told in our own logic. Conditions: those of each theorem. -/
import Derived.Test.YtbbkeakbomngoaaP2
import Derived.Test.YtbbkeakbomngoaaG10
set_option linter.all false
set_option linter.unusedSimpArgs false
set_option linter.unusedVariables false
namespace Go.Proofs.Ytbbkeakbomngoaa
open Go.Av
attribute [local irreducible] thenA blockA awp awpOps awpD awp1
set_option maxHeartbeats 8000000
set_option maxRecDepth 20000
/-! ### The reference: which fund can pay, and what is left of a set -/
def canN (f : Fd) (u : Int) : Nat → Bool
  | 0 => false
  | i + 1 => canN f u i || decide (elt f.uses i = u)
def canB (f : Fd) (b : Bl) : Bool := canN f b.use f.uses.length && decide (f.day ≤ b.day ∧ b.day ≤ f.till)
theorem with_nat : ∀ s, s < 256 → ∀ n, n < 8 → (0 ≤ wthB ((s : Nat) : Int) ((n : Nat) : Int) ∧ wthB ((s : Nat) : Int) ((n : Nat) : Int) < 256) ∧ ∀ u, u < 8 → hasB (wthB ((s : Nat) : Int) ((n : Nat) : Int)) ((u : Nat) : Int) = (hasB ((s : Nat) : Int) ((u : Nat) : Int) || decide (n = u)) := by decide +kernel
theorem has_zero : ∀ u, u < 8 → hasB 0 ((u : Nat) : Int) = false := by decide +kernel
theorem set_has {f : Fd} (hf : FdOk f) {u : Int} (hu : 0 ≤ u ∧ u ≤ 7) : ∀ i, i ≤ f.uses.length → (0 ≤ setN f.uses i ∧ setN f.uses i < 256) ∧ hasB (setN f.uses i) u = canN f u i
  | 0, _ => by
    refine ⟨by show (0 : Int) ≤ 0 ∧ (0 : Int) < 256; omega, ?_⟩
    have := has_zero u.toNat (by omega)
    rw [show ((u.toNat : Nat) : Int) = u by omega] at this
    exact this
  | i + 1, h => by
    obtain ⟨h1, h2⟩ := set_has hf hu i (by omega)
    have hx : 0 ≤ elt f.uses i ∧ elt f.uses i ≤ 7 := by
      unfold elt
      rw [List.getD_eq_getElem?_getD, List.getElem?_eq_getElem (by omega : i < f.uses.length)]
      exact hf.uses _ (List.getElem_mem _)
    have e : setN f.uses (i + 1) = wthB (setN f.uses i) (elt f.uses i) := rfl
    have ec : canN f u (i + 1) = (canN f u i || decide (elt f.uses i = u)) := rfl
    rw [e, ec]
    generalize elt f.uses i = x at *
    generalize setN f.uses i = s at *
    obtain ⟨w1, w2⟩ := with_nat s.toNat (by omega) x.toNat (by omega)
    have w3 := w2 u.toNat (by omega)
    rw [show ((s.toNat : Nat) : Int) = s by omega, show ((x.toNat : Nat) : Int) = x by omega] at w1 w3
    rw [show ((u.toNat : Nat) : Int) = u by omega] at w3
    refine ⟨w1, ?_⟩
    rw [w3, h2]
    have : (x.toNat = u.toNat) = (x = u) := propext ⟨fun h => by omega, fun h => by omega⟩
    simp only [this]
theorem canB_pay {f : Fd} {b : Bl} (hf : FdOk f) (hb : BlOk b) : canB f b = payB f b := by
  unfold canB payB setB
  rw [(set_has hf hb.use _ (Nat.le_refl _)).2, Bool.and_comm]
theorem c37 (f : Fd) (b : Bl) (h1 : f.uses.length ≤ 1000) : Pure Try.prog 37 [.agg f.row, .agg b.row] (fun v => v = .bool (canB f b)) := by
  intro h
  refine ACalls.forget (ACalls.of tab mixed Try.call37 Try.func37 rfl (fi := ⟨35, [], [2, 3], none, [(5, [0, 1, 3, 7, 3, 31, 63, 3, 131, 511, 1023, 2047], [(0, false), (1, false), (2, false), (3, true), (4, false), (5, false), (6, true), (7, false), (8, true), (9, false), (10, false), (11, false)])]⟩) rfl rfl (Nat.le_of_ble_eq_true rfl) (by decide) ?_)
  unfold startA
  simp only [go_sem]
  repeat' (first | refine st_seq_reg rfl (by first | (simp only [go_sem]; rfl) | rfl) (by first | (simp only [go_sem]; rfl) | rfl) ?_ | refine st_op ?_ | refine st_det rfl (by simp (disch := omega) only [go_sem, wr_i64, if_yes, if_no, ↓reduceIte, Nat.reduceAdd, Nat.reduceMul, Nat.reduceEqDiff, Nat.reduceBEq, Nat.reduceLeDiff]; rfl) ?_ | refine st_nil ?_ | refine st_seq ?_ | refine st_block ?_)
  refine st_loopC (α := Nat) tab mixed [] [] (by repeat (first | exact trivial | refine ⟨rfl, ?_⟩)) [] [] (by repeat (first | exact trivial | refine ⟨rfl, ?_⟩)) (fun i => [(6, .int .i64 (i : Nat)), (5, .bool (canN f b.use i))]) [(2, _), (3, _)] (fun _ => []) [] (fun i => i ≤ f.uses.length) (fun i => f.uses.length - i) (by decide) 0 (Nat.zero_le _) (by (try simp only [go_sem]); repeat' (first | exact trivial | refine And.intro ?_ ?_ | rfl | (simp (disch := omega) only [go_sem, if_yes, if_no, ↓reduceIte, Nat.reduceAdd, Nat.reduceMul, Nat.reduceEqDiff, Nat.reduceBEq, Nat.reduceLeDiff]; rfl) | (simp (disch := omega) only [go_sem, if_yes, if_no, ↓reduceIte, Nat.reduceAdd, Nat.reduceMul, Nat.reduceEqDiff, Nat.reduceBEq, Nat.reduceLeDiff]))) (by (try simp only [go_sem]); repeat' (first | exact trivial | refine And.intro ?_ ?_ | rfl | (simp (disch := omega) only [go_sem, if_yes, if_no, ↓reduceIte, Nat.reduceAdd, Nat.reduceMul, Nat.reduceEqDiff, Nat.reduceBEq, Nat.reduceLeDiff]; rfl) | (simp (disch := omega) only [go_sem, if_yes, if_no, ↓reduceIte, Nat.reduceAdd, Nat.reduceMul, Nat.reduceEqDiff, Nat.reduceBEq, Nat.reduceLeDiff]))) (by first | (simp only [go_sem]; rfl) | rfl) (by intro n; simp only [go_sem]; rfl) ?_
  rintro i c i1 hc
  have hst : canN f b.use (i + 1) = (canN f b.use i || decide (elt f.uses i = b.use)) := rfl
  have hel : elt f.uses i = f.uses.getD i 0 := rfl
  simp only [go_sem]
  by_cases hi : i < f.uses.length
  · cases hq : canN f b.use i
    · rw [hq] at hst
      by_cases hu : elt f.uses i = b.use
      · have e : canN f b.use (i + 1) = true := by rw [hst]; simp [hu]
        repeat' (first | refine st_seq_reg rfl (by first | (simp only [go_sem]; rfl) | rfl) (by first | (simp only [go_sem]; rfl) | rfl) ?_ | refine st_reg rfl (by first | (simp only [go_sem]; rfl) | rfl) (by first | (simp only [go_sem]; rfl) | rfl) ?_ | refine st_draw rfl (by first | (simp only [go_sem]; rfl) | rfl) (by first | (simp only [go_sem]; rfl) | rfl) ?_ | refine st_op ?_ | refine st_det rfl (by simp (disch := omega) only [go_sem, wr_i64, if_yes, if_no, ↓reduceIte, Nat.reduceAdd, Nat.reduceMul, Nat.reduceEqDiff, Nat.reduceBEq, Nat.reduceLeDiff]; rfl) ?_ | refine st_dop rfl ?_ | refine st_gF rfl rfl rfl ?_ | refine st_dgT rfl rfl rfl rfl ?_ | (refine st_condS rfl ?_ ?_ <;> intro hg <;> (try simp only [decide_eq_true_eq, decide_eq_false_iff_not, Bool.not_eq_true', Bool.not_eq_false'] at hg)) | refine st_nil ?_ | refine st_dnil ?_ | refine st_tN ?_ | refine st_seq ?_ | refine st_block ?_ | refine st_skip ?_ | refine st_exit ?_ | refine st_ret ?_ | refine st_tE ?_ | refine st_bN ?_ | refine st_bH ?_)
        all_goals try (exfalso; omega)
        all_goals
          refine ⟨i + 1, (by show i + 1 ≤ f.uses.length; omega), by show f.uses.length - (i + 1) < f.uses.length - i; omega, (by (try (simp only [e, hu, ← hel, decide_true, go_sem])); repeat' (first | exact trivial | refine And.intro ?_ ?_ | rfl | (simp (disch := omega) only [go_sem, if_yes, if_no, ↓reduceIte, Nat.reduceAdd, Nat.reduceMul, Nat.reduceEqDiff, Nat.reduceBEq, Nat.reduceLeDiff]; rfl) | (simp (disch := omega) only [go_sem, if_yes, if_no, ↓reduceIte, Nat.reduceAdd, Nat.reduceMul, Nat.reduceEqDiff, Nat.reduceBEq, Nat.reduceLeDiff]))), (by (try (simp only [e, hu, ← hel, decide_true, go_sem])); repeat' (first | exact trivial | refine And.intro ?_ ?_ | rfl | (simp (disch := omega) only [go_sem, if_yes, if_no, ↓reduceIte, Nat.reduceAdd, Nat.reduceMul, Nat.reduceEqDiff, Nat.reduceBEq, Nat.reduceLeDiff]; rfl) | (simp (disch := omega) only [go_sem, if_yes, if_no, ↓reduceIte, Nat.reduceAdd, Nat.reduceMul, Nat.reduceEqDiff, Nat.reduceBEq, Nat.reduceLeDiff]))), rfl, HOld.of _ (by omega)⟩
      · have e : canN f b.use (i + 1) = false := by rw [hst]; simp [hu]
        repeat' (first | refine st_seq_reg rfl (by first | (simp only [go_sem]; rfl) | rfl) (by first | (simp only [go_sem]; rfl) | rfl) ?_ | refine st_reg rfl (by first | (simp only [go_sem]; rfl) | rfl) (by first | (simp only [go_sem]; rfl) | rfl) ?_ | refine st_draw rfl (by first | (simp only [go_sem]; rfl) | rfl) (by first | (simp only [go_sem]; rfl) | rfl) ?_ | refine st_op ?_ | refine st_det rfl (by simp (disch := omega) only [go_sem, wr_i64, if_yes, if_no, ↓reduceIte, Nat.reduceAdd, Nat.reduceMul, Nat.reduceEqDiff, Nat.reduceBEq, Nat.reduceLeDiff]; rfl) ?_ | refine st_dop rfl ?_ | refine st_gF rfl rfl rfl ?_ | refine st_dgT rfl rfl rfl rfl ?_ | (refine st_condS rfl ?_ ?_ <;> intro hg <;> (try simp only [decide_eq_true_eq, decide_eq_false_iff_not, Bool.not_eq_true', Bool.not_eq_false'] at hg)) | refine st_nil ?_ | refine st_dnil ?_ | refine st_tN ?_ | refine st_seq ?_ | refine st_block ?_ | refine st_skip ?_ | refine st_exit ?_ | refine st_ret ?_ | refine st_tE ?_ | refine st_bN ?_ | refine st_bH ?_)
        all_goals try (exfalso; omega)
        all_goals
          refine ⟨i + 1, (by show i + 1 ≤ f.uses.length; omega), by show f.uses.length - (i + 1) < f.uses.length - i; omega, (by (try (simp only [e, hu, ← hel, decide_false, go_sem])); repeat' (first | exact trivial | refine And.intro ?_ ?_ | rfl | (simp (disch := omega) only [go_sem, if_yes, if_no, ↓reduceIte, Nat.reduceAdd, Nat.reduceMul, Nat.reduceEqDiff, Nat.reduceBEq, Nat.reduceLeDiff]; rfl) | (simp (disch := omega) only [go_sem, if_yes, if_no, ↓reduceIte, Nat.reduceAdd, Nat.reduceMul, Nat.reduceEqDiff, Nat.reduceBEq, Nat.reduceLeDiff]))), (by (try (simp only [e, hu, ← hel, decide_false, go_sem])); repeat' (first | exact trivial | refine And.intro ?_ ?_ | rfl | (simp (disch := omega) only [go_sem, if_yes, if_no, ↓reduceIte, Nat.reduceAdd, Nat.reduceMul, Nat.reduceEqDiff, Nat.reduceBEq, Nat.reduceLeDiff]; rfl) | (simp (disch := omega) only [go_sem, if_yes, if_no, ↓reduceIte, Nat.reduceAdd, Nat.reduceMul, Nat.reduceEqDiff, Nat.reduceBEq, Nat.reduceLeDiff]))), rfl, HOld.of _ (by omega)⟩
    · have e : canN f b.use (i + 1) = true := by rw [hst, hq]; rfl
      repeat' (first | refine st_seq_reg rfl (by first | (simp only [go_sem]; rfl) | rfl) (by first | (simp only [go_sem]; rfl) | rfl) ?_ | refine st_reg rfl (by first | (simp only [go_sem]; rfl) | rfl) (by first | (simp only [go_sem]; rfl) | rfl) ?_ | refine st_draw rfl (by first | (simp only [go_sem]; rfl) | rfl) (by first | (simp only [go_sem]; rfl) | rfl) ?_ | refine st_op ?_ | refine st_det rfl (by simp (disch := omega) only [go_sem, wr_i64, if_yes, if_no, ↓reduceIte, Nat.reduceAdd, Nat.reduceMul, Nat.reduceEqDiff, Nat.reduceBEq, Nat.reduceLeDiff]; rfl) ?_ | refine st_dop rfl ?_ | refine st_gT rfl rfl rfl ?_ | refine st_dgF rfl rfl rfl ?_ | (refine st_condS rfl ?_ ?_ <;> intro hg <;> (try simp only [decide_eq_true_eq, decide_eq_false_iff_not, Bool.not_eq_true', Bool.not_eq_false'] at hg)) | refine st_nil ?_ | refine st_dnil ?_ | refine st_tN ?_ | refine st_seq ?_ | refine st_block ?_ | refine st_skip ?_ | refine st_exit ?_ | refine st_tE ?_ | refine st_bN ?_ | refine st_bH ?_)
      all_goals try (exfalso; omega)
      all_goals
        refine ⟨i + 1, (by show i + 1 ≤ f.uses.length; omega), by show f.uses.length - (i + 1) < f.uses.length - i; omega, (by (try (simp only [e, go_sem])); repeat' (first | exact trivial | refine And.intro ?_ ?_ | rfl | (simp (disch := omega) only [go_sem, if_yes, if_no, ↓reduceIte, Nat.reduceAdd, Nat.reduceMul, Nat.reduceEqDiff, Nat.reduceBEq, Nat.reduceLeDiff]; rfl) | (simp (disch := omega) only [go_sem, if_yes, if_no, ↓reduceIte, Nat.reduceAdd, Nat.reduceMul, Nat.reduceEqDiff, Nat.reduceBEq, Nat.reduceLeDiff]))), (by (try (simp only [e, go_sem])); repeat' (first | exact trivial | refine And.intro ?_ ?_ | rfl | (simp (disch := omega) only [go_sem, if_yes, if_no, ↓reduceIte, Nat.reduceAdd, Nat.reduceMul, Nat.reduceEqDiff, Nat.reduceBEq, Nat.reduceLeDiff]; rfl) | (simp (disch := omega) only [go_sem, if_yes, if_no, ↓reduceIte, Nat.reduceAdd, Nat.reduceMul, Nat.reduceEqDiff, Nat.reduceBEq, Nat.reduceLeDiff]))), rfl, HOld.of _ (by omega)⟩
  · obtain rfl : i = f.uses.length := by omega
    have k68 := c68 b.day f.day f.till
    repeat' (first | refine st_seq_reg rfl (by first | (simp only [go_sem]; rfl) | rfl) (by first | (simp only [go_sem]; rfl) | rfl) ?_ | refine st_reg rfl (by first | (simp only [go_sem]; rfl) | rfl) (by first | (simp only [go_sem]; rfl) | rfl) ?_ | refine st_draw rfl (by first | (simp only [go_sem]; rfl) | rfl) (by first | (simp only [go_sem]; rfl) | rfl) ?_ | refine st_op ?_ | refine st_det rfl (by simp (disch := omega) only [go_sem, wr_i64, if_yes, if_no, ↓reduceIte, Nat.reduceAdd, Nat.reduceMul, Nat.reduceEqDiff, Nat.reduceBEq, Nat.reduceLeDiff]; rfl) ?_ | refine st_dop rfl ?_ | (refine st_pureE (by first | (simp (disch := omega) only [go_sem]; rfl) | rfl) rfl (k68) (by first | (simp only [go_sem]; rfl) | rfl) (by intro n; simp (disch := omega) only [go_sem]; rfl) ?_; intro n hn) | refine st_gT rfl rfl rfl ?_ | refine st_gF rfl rfl rfl ?_ | refine st_dgT rfl rfl rfl rfl ?_ | refine st_dgF rfl rfl rfl ?_ | (refine st_gS rfl rfl ?_ ?_ <;> intro hg <;> (try simp only [decide_eq_true_eq, decide_eq_false_iff_not, Bool.not_eq_true', Bool.not_eq_false'] at hg)) | (refine st_dgS rfl rfl ?_ ?_ <;> intro hg <;> (try simp only [decide_eq_true_eq, decide_eq_false_iff_not, Bool.not_eq_true', Bool.not_eq_false'] at hg)) | (refine st_condS rfl ?_ ?_ <;> intro hg <;> (try simp only [decide_eq_true_eq, decide_eq_false_iff_not, Bool.not_eq_true', Bool.not_eq_false'] at hg)) | refine st_nil ?_ | refine st_dnil ?_ | refine st_tN ?_ | refine st_seq ?_ | refine st_block ?_ | refine st_skip ?_ | refine st_exit ?_ | refine st_ret ?_ | refine st_tE ?_ | refine st_bN ?_ | refine st_bH ?_)
    all_goals try (exfalso; omega)
    all_goals
      simp (disch := omega) only [AEnd, Try.results37, aresK, fin, go_sem, ↓reduceIte, Nat.reduceEqDiff, Nat.reduceAdd, Nat.reduceLeDiff, if_yes, if_no, implies_true, true_and, and_true, List.reverse_cons, List.reverse_nil]
      unfold canB
      simp [*]
theorem c37o {l : Lg} {k i : Nat} (hl : LgOk l) (hk : k < l.fs.length) (hi : i < l.bs.length) : Pure Try.prog 37 [.agg (fd l.fs k).row, .agg (bl l.bs i).row] (fun v => v = .bool (payB (fd l.fs k) (bl l.bs i))) := by
  have hf := hl.f _ (fd_mem hk)
  have hb := hl.b _ (bl_mem hi)
  rw [← canB_pay hf hb]
  exact c37 _ _ (by have := hf.many; omega)
theorem c62 (l : Lg) (k : Nat) (s : Int) (hl : LgOk l) (hk : k < l.fs.length) : Pure Try.prog 62 [l.av, .int .i64 (k : Nat), .int .i64 s] (fun v => v = .bool (payerB l k s)) := by
  have hb := hl.bn; have hfn := hl.fn
  intro h
  refine ACalls.forget (ACalls.of tab mixed Try.call62 Try.func62 rfl (fi := ⟨33, [], [3], none, [(4, [0, 0, 3, 7, 15, 31, 63, 127, 63, 511, 1023, 63, 2111, 63, 14399, 30783, 65535, 131071], [(0, false), (1, false), (2, false), (3, false), (4, false), (5, false), (6, false), (7, true), (8, false), (9, false), (10, true), (11, false), (12, true), (13, false), (14, false), (15, true), (16, false), (17, false)])]⟩) rfl rfl (Nat.le_of_ble_eq_true rfl) (by decide) ?_)
  unfold startA
  simp only [go_sem]
  repeat' (first | refine st_seq_reg rfl (by first | (simp only [go_sem]; rfl) | rfl) (by first | (simp only [go_sem]; rfl) | rfl) ?_ | refine st_op ?_ | refine st_det rfl (by simp (disch := omega) only [go_sem, wr_i64, if_yes, if_no, ↓reduceIte, Nat.reduceAdd, Nat.reduceMul, Nat.reduceEqDiff, Nat.reduceBEq, Nat.reduceLeDiff]; rfl) ?_ | refine st_nil ?_ | refine st_seq ?_ | refine st_block ?_)
  refine st_loopC (α := Nat) tab mixed [] [] (by repeat (first | exact trivial | refine ⟨rfl, ?_⟩)) [] [] (by repeat (first | exact trivial | refine ⟨rfl, ?_⟩)) (fun i => [(7, .int .i64 (i : Nat))]) [(1, _), (2, _), (3, _)] (fun _ => []) [] (fun i => i ≤ l.bs.length ∧ ∀ j, j < i → (hasB s j && payB (fd l.fs k) (bl l.bs j)) = false) (fun i => l.bs.length - i) (by decide) 0 ⟨Nat.zero_le _, fun j hj => absurd hj (Nat.not_lt_zero _)⟩ (by (try simp only [go_sem]); repeat' (first | exact trivial | refine And.intro ?_ ?_ | rfl | (simp (disch := omega) only [go_sem, if_yes, if_no, ↓reduceIte, Nat.reduceAdd, Nat.reduceMul, Nat.reduceEqDiff, Nat.reduceBEq, Nat.reduceLeDiff]; rfl) | (simp (disch := omega) only [go_sem, if_yes, if_no, ↓reduceIte, Nat.reduceAdd, Nat.reduceMul, Nat.reduceEqDiff, Nat.reduceBEq, Nat.reduceLeDiff]))) (by (try simp only [go_sem]); repeat' (first | exact trivial | refine And.intro ?_ ?_ | rfl | (simp (disch := omega) only [go_sem, if_yes, if_no, ↓reduceIte, Nat.reduceAdd, Nat.reduceMul, Nat.reduceEqDiff, Nat.reduceBEq, Nat.reduceLeDiff]; rfl) | (simp (disch := omega) only [go_sem, if_yes, if_no, ↓reduceIte, Nat.reduceAdd, Nat.reduceMul, Nat.reduceEqDiff, Nat.reduceBEq, Nat.reduceLeDiff]))) (by first | (simp only [go_sem]; rfl) | rfl) (by intro n; simp only [go_sem]; rfl) ?_
  rintro i c ⟨i1, i2⟩ hc
  have hs : hasB s ((i : Nat) : Int) = decide (bitop .and .i64 (shr .i64 s ((i : Nat) : Int)) 1 = 1) := rfl
  simp only [go_sem]
  have hp := fun (hi : i < l.bs.length) => c37o hl hk hi
  repeat' (first | refine st_seq_reg rfl (by first | (simp only [go_sem, List.length_map]; rfl) | rfl) (by first | (simp only [go_sem, List.length_map]; rfl) | rfl) ?_ | refine st_reg rfl (by first | (simp only [go_sem, List.length_map]; rfl) | rfl) (by first | (simp only [go_sem, List.length_map]; rfl) | rfl) ?_ | refine st_seq_draw rfl (by first | (simp only [go_sem, List.length_map]; rfl) | rfl) (by first | (simp only [go_sem, List.length_map]; rfl) | rfl) ?_ | refine st_op ?_ | refine st_det rfl (by simp (disch := omega) only [go_sem, wr_i64, if_yes, if_no, ↓reduceIte, Nat.reduceAdd, Nat.reduceMul, Nat.reduceEqDiff, Nat.reduceBEq, Nat.reduceLeDiff, List.length_map]; rfl) ?_ | refine st_dop rfl ?_ | (refine st_pureE (by first | (simp (disch := omega) only [go_sem, List.length_map]; rfl) | rfl) rfl (hp (by omega)) (by first | (simp only [go_sem, List.length_map]; rfl) | rfl) (by intro n; simp (disch := omega) only [go_sem]; rfl) ?_; intro n hn) | refine st_dgT rfl rfl rfl rfl ?_ | refine st_dgF rfl rfl rfl ?_ | (refine st_dgS rfl rfl ?_ ?_ <;> intro hg <;> (try simp only [decide_eq_true_eq, decide_eq_false_iff_not, Bool.not_eq_true', Bool.not_eq_false'] at hg)) | refine st_condF rfl ?_ | (refine st_condS rfl ?_ ?_ <;> intro hg <;> (try simp only [decide_eq_true_eq, decide_eq_false_iff_not, Bool.not_eq_true', Bool.not_eq_false'] at hg)) | refine st_nil ?_ | refine st_dnil ?_ | refine st_tN ?_ | refine st_seq ?_ | refine st_block ?_ | refine st_skip ?_ | refine st_exit ?_ | refine st_ret ?_ | refine st_tE ?_ | refine st_tR ?_ | refine st_bN ?_ | refine st_bR ?_ | refine st_bH ?_)
  all_goals try (exfalso; omega)
  all_goals try
    have e : payerB l k s = true := List.any_eq_true.2 ⟨i, List.mem_range.2 (by omega), by rw [hs]; simp [*]⟩
    simp (disch := omega) only [AEnd, Try.results62, aresK, fin, go_sem, ↓reduceIte, Nat.reduceEqDiff, Nat.reduceAdd, Nat.reduceLeDiff, if_yes, if_no, implies_true, true_and, and_true, List.reverse_cons, List.reverse_nil]
    rw [e]
    done
  all_goals try
    obtain rfl : i = l.bs.length := by omega
    have e : payerB l k s = false := List.any_eq_false.2 fun j hj => by rw [i2 j (List.mem_range.1 hj)]; decide
    simp (disch := omega) only [AEnd, Try.results62, aresK, fin, go_sem, ↓reduceIte, Nat.reduceEqDiff, Nat.reduceAdd, Nat.reduceLeDiff, if_yes, if_no, implies_true, true_and, and_true, List.reverse_cons, List.reverse_nil]
    rw [e]
    done
  all_goals
    refine ⟨i + 1, ⟨by show i + 1 ≤ l.bs.length; omega, all_step i2 (by rw [hs]; simp [*])⟩, by show l.bs.length - (i + 1) < l.bs.length - i; omega, (by repeat' (first | exact trivial | refine And.intro ?_ ?_ | rfl | (simp (disch := omega) only [go_sem, if_yes, if_no, ↓reduceIte, Nat.reduceAdd, Nat.reduceMul, Nat.reduceEqDiff, Nat.reduceBEq, Nat.reduceLeDiff]; rfl) | (simp (disch := omega) only [go_sem, if_yes, if_no, ↓reduceIte, Nat.reduceAdd, Nat.reduceMul, Nat.reduceEqDiff, Nat.reduceBEq, Nat.reduceLeDiff]))), (by repeat' (first | exact trivial | refine And.intro ?_ ?_ | rfl | (simp (disch := omega) only [go_sem, if_yes, if_no, ↓reduceIte, Nat.reduceAdd, Nat.reduceMul, Nat.reduceEqDiff, Nat.reduceBEq, Nat.reduceLeDiff]; rfl) | (simp (disch := omega) only [go_sem, if_yes, if_no, ↓reduceIte, Nat.reduceAdd, Nat.reduceMul, Nat.reduceEqDiff, Nat.reduceBEq, Nat.reduceLeDiff]))), rfl, HOld.of _ (by omega)⟩
theorem c39 (l : Lg) (s : Int) (hl : LgOk l) : Pure Try.prog 39 [l.av, .int .i64 s] (fun v => v = .int .i64 (slackB l (amts l.fs) s)) := by
  have hb := hl.bn; have hfn := hl.fn
  have hgb : ∀ i, i < l.fs.length → -10000000000 ≤ givF l (amts l.fs) s i ∧ givF l (amts l.fs) s i ≤ 10000000000 := fun i hi => by
    have := (hl.f _ (fd_mem hi)).amt
    unfold givF
    rw [amts_get (by omega)]
    split <;> omega
  have hdb : ∀ i, i < l.bs.length → -10000000000 ≤ dueF l s i ∧ dueF l s i ≤ 10000000000 := fun i hi => by
    have := (hl.b _ (bl_mem hi)).amt
    unfold dueF
    split <;> omega
  intro h
  refine ACalls.forget (ACalls.of tab mixed Try.call39 Try.func39 rfl (fi := ⟨48, [], [2], none, []⟩) rfl rfl (Nat.le_of_ble_eq_true rfl) (by decide) ?_)
  unfold startA
  simp only [go_sem]
  repeat' (first | refine st_seq_reg rfl (by first | (simp only [go_sem]; rfl) | rfl) (by first | (simp only [go_sem]; rfl) | rfl) ?_ | refine st_op ?_ | refine st_det rfl (by simp (disch := omega) only [go_sem, wr_i64, if_yes, if_no, ↓reduceIte, Nat.reduceAdd, Nat.reduceMul, Nat.reduceEqDiff, Nat.reduceBEq, Nat.reduceLeDiff]; rfl) ?_ | refine st_nil ?_ | refine st_seq ?_ | refine st_block ?_)
  refine st_loopC (α := Nat) tab mixed [] [] (by repeat (first | exact trivial | refine ⟨rfl, ?_⟩)) [] [] (by repeat (first | exact trivial | refine ⟨rfl, ?_⟩)) (fun i => [(6, .int .i64 (i : Nat)), (5, .int .i64 (sumF (givF l (amts l.fs) s) i))]) [(1, _), (2, _)] (fun _ => []) [] (fun i => i ≤ l.fs.length) (fun i => l.fs.length - i) (by decide) 0 (Nat.zero_le _) (by (try simp only [go_sem]); repeat' (first | exact trivial | refine And.intro ?_ ?_ | rfl | (simp (disch := omega) only [go_sem, if_yes, if_no, ↓reduceIte, Nat.reduceAdd, Nat.reduceMul, Nat.reduceEqDiff, Nat.reduceBEq, Nat.reduceLeDiff]; rfl) | (simp (disch := omega) only [go_sem, if_yes, if_no, ↓reduceIte, Nat.reduceAdd, Nat.reduceMul, Nat.reduceEqDiff, Nat.reduceBEq, Nat.reduceLeDiff]))) (by (try simp only [go_sem]); repeat' (first | exact trivial | refine And.intro ?_ ?_ | rfl | (simp (disch := omega) only [go_sem, if_yes, if_no, ↓reduceIte, Nat.reduceAdd, Nat.reduceMul, Nat.reduceEqDiff, Nat.reduceBEq, Nat.reduceLeDiff]; rfl) | (simp (disch := omega) only [go_sem, if_yes, if_no, ↓reduceIte, Nat.reduceAdd, Nat.reduceMul, Nat.reduceEqDiff, Nat.reduceBEq, Nat.reduceLeDiff]))) (by first | (simp only [go_sem]; rfl) | rfl) (by intro n; simp only [go_sem]; rfl) ?_
  rintro i c i1 hc
  have hs1 := sumF_le (F := givF l (amts l.fs) s) (n := l.fs.length) (by omega) hgb i1
  have hst : sumF (givF l (amts l.fs) s) (i + 1) = sumF (givF l (amts l.fs) s) i + givF l (amts l.fs) s i := rfl
  have hgi := hgb i
  have hv : givF l (amts l.fs) s i = if payerB l i s then (amts l.fs).getD i 0 else 0 := rfl
  have hp := fun (hi : i < l.fs.length) => c62 l i s hl hi
  have ham : i < l.fs.length → (amts l.fs).getD i 0 = (fd l.fs i).amt := fun hi => amts_get (by omega)
  simp only [go_sem]
  by_cases hi : i < l.fs.length
  · have hgi := hgi hi
    have hv' := hv
    rw [ham hi] at hv hv'
    cases hq : payerB l i s
    · rw [hq, if_neg (by simp)] at hv
      have hp := hp hi
      rw [hq] at hp
      repeat' (first | refine st_seq_reg rfl (by first | (simp only [go_sem, List.length_map]; rfl) | rfl) (by first | (simp only [go_sem, List.length_map]; rfl) | rfl) ?_ | refine st_reg rfl (by first | (simp only [go_sem, List.length_map]; rfl) | rfl) (by first | (simp only [go_sem, List.length_map]; rfl) | rfl) ?_ | refine st_op ?_ | refine st_det rfl (by simp (disch := omega) only [go_sem, wr_i64, if_yes, if_no, ↓reduceIte, Nat.reduceAdd, Nat.reduceMul, Nat.reduceEqDiff, Nat.reduceBEq, Nat.reduceLeDiff, List.length_map]; rfl) ?_ | (refine st_pureE (by first | (simp (disch := omega) only [go_sem, List.length_map]; rfl) | rfl) rfl (hp) (by first | (simp only [go_sem, List.length_map]; rfl) | rfl) (by intro n; simp (disch := omega) only [go_sem]; rfl) ?_; intro n hn) | refine st_condF rfl ?_ | (refine st_condS rfl ?_ ?_ <;> intro hg <;> (try simp only [decide_eq_true_eq, decide_eq_false_iff_not, Bool.not_eq_true', Bool.not_eq_false'] at hg)) | refine st_nil ?_ | refine st_tN ?_ | refine st_seq ?_ | refine st_block ?_ | refine st_skip ?_ | refine st_exit ?_ | refine st_tE ?_ | refine st_bN ?_ | refine st_bH ?_)
      all_goals try (exfalso; omega)
      refine ⟨i + 1, (by show i + 1 ≤ l.fs.length; omega), by show l.fs.length - (i + 1) < l.fs.length - i; omega, (by (try (simp only [hst, hv, Int.add_zero])); repeat' (first | exact trivial | refine And.intro ?_ ?_ | rfl | (simp (disch := omega) only [go_sem, if_yes, if_no, ↓reduceIte, Nat.reduceAdd, Nat.reduceMul, Nat.reduceEqDiff, Nat.reduceBEq, Nat.reduceLeDiff]; rfl) | (simp (disch := omega) only [go_sem, if_yes, if_no, ↓reduceIte, Nat.reduceAdd, Nat.reduceMul, Nat.reduceEqDiff, Nat.reduceBEq, Nat.reduceLeDiff]))), (by (try (simp only [hst, hv, Int.add_zero])); repeat' (first | exact trivial | refine And.intro ?_ ?_ | rfl | (simp (disch := omega) only [go_sem, if_yes, if_no, ↓reduceIte, Nat.reduceAdd, Nat.reduceMul, Nat.reduceEqDiff, Nat.reduceBEq, Nat.reduceLeDiff]; rfl) | (simp (disch := omega) only [go_sem, if_yes, if_no, ↓reduceIte, Nat.reduceAdd, Nat.reduceMul, Nat.reduceEqDiff, Nat.reduceBEq, Nat.reduceLeDiff]))), rfl, HOld.of _ (by omega)⟩
    · rw [hq, if_pos rfl] at hv
      have hp := hp hi
      rw [hq] at hp
      rw [hv] at hgi
      repeat' (first | refine st_seq_reg rfl (by first | (simp only [go_sem, List.length_map]; rfl) | rfl) (by first | (simp only [go_sem, List.length_map]; rfl) | rfl) ?_ | refine st_reg rfl (by first | (simp only [go_sem, List.length_map]; rfl) | rfl) (by first | (simp only [go_sem, List.length_map]; rfl) | rfl) ?_ | refine st_op ?_ | refine st_det rfl (by simp (disch := omega) only [go_sem, wr_i64, if_yes, if_no, ↓reduceIte, Nat.reduceAdd, Nat.reduceMul, Nat.reduceEqDiff, Nat.reduceBEq, Nat.reduceLeDiff, List.length_map]; rfl) ?_ | (refine st_pureE (by first | (simp (disch := omega) only [go_sem, List.length_map]; rfl) | rfl) rfl (hp) (by first | (simp only [go_sem, List.length_map]; rfl) | rfl) (by intro n; simp (disch := omega) only [go_sem]; rfl) ?_; intro n hn) | refine st_condT rfl ?_ | (refine st_condS rfl ?_ ?_ <;> intro hg <;> (try simp only [decide_eq_true_eq, decide_eq_false_iff_not, Bool.not_eq_true', Bool.not_eq_false'] at hg)) | refine st_nil ?_ | refine st_tN ?_ | refine st_seq ?_ | refine st_block ?_ | refine st_skip ?_ | refine st_exit ?_ | refine st_tE ?_ | refine st_bN ?_ | refine st_bH ?_)
      all_goals try (exfalso; omega)
      refine ⟨i + 1, (by show i + 1 ≤ l.fs.length; omega), by show l.fs.length - (i + 1) < l.fs.length - i; omega, (by (try (simp only [hst, hv])); repeat' (first | exact trivial | refine And.intro ?_ ?_ | rfl | (simp (disch := omega) only [go_sem, if_yes, if_no, ↓reduceIte, Nat.reduceAdd, Nat.reduceMul, Nat.reduceEqDiff, Nat.reduceBEq, Nat.reduceLeDiff]; rfl) | (simp (disch := omega) only [go_sem, if_yes, if_no, ↓reduceIte, Nat.reduceAdd, Nat.reduceMul, Nat.reduceEqDiff, Nat.reduceBEq, Nat.reduceLeDiff]))), (by (try (simp only [hst, hv])); repeat' (first | exact trivial | refine And.intro ?_ ?_ | rfl | (simp (disch := omega) only [go_sem, if_yes, if_no, ↓reduceIte, Nat.reduceAdd, Nat.reduceMul, Nat.reduceEqDiff, Nat.reduceBEq, Nat.reduceLeDiff]; rfl) | (simp (disch := omega) only [go_sem, if_yes, if_no, ↓reduceIte, Nat.reduceAdd, Nat.reduceMul, Nat.reduceEqDiff, Nat.reduceBEq, Nat.reduceLeDiff]))), rfl, HOld.of _ (by omega)⟩
  obtain rfl : i = l.fs.length := by omega
  repeat' (first | refine st_seq_reg rfl (by first | (simp only [go_sem, List.length_map]; rfl) | rfl) (by first | (simp only [go_sem, List.length_map]; rfl) | rfl) ?_ | refine st_op ?_ | refine st_det rfl (by simp (disch := omega) only [go_sem, wr_i64, if_yes, if_no, ↓reduceIte, Nat.reduceAdd, Nat.reduceMul, Nat.reduceEqDiff, Nat.reduceBEq, Nat.reduceLeDiff, List.length_map]; rfl) ?_ | (refine st_condS rfl ?_ ?_ <;> intro hg <;> (try simp only [decide_eq_true_eq, decide_eq_false_iff_not, Bool.not_eq_true', Bool.not_eq_false'] at hg)) | refine st_nil ?_ | refine st_tN ?_ | refine st_seq ?_ | refine st_block ?_ | refine st_skip ?_ | refine st_exit ?_ | refine st_tE ?_ | refine st_bH ?_)
  all_goals try (exfalso; omega)
  refine st_loopC (α := Nat × Int) tab mixed [] [] (by repeat (first | exact trivial | refine ⟨rfl, ?_⟩)) [] [] (by repeat (first | exact trivial | refine ⟨rfl, ?_⟩)) (fun a => [(7, .int .i64 (a.1 : Nat)), (5, .int .i64 a.2)]) [(1, _), (2, _)] (fun _ => []) [] (fun a => a.1 ≤ l.bs.length ∧ a.2 = sumF (givF l (amts l.fs) s) l.fs.length - sumF (dueF l s) a.1) (fun a => l.bs.length - a.1) (by decide) (0, sumF (givF l (amts l.fs) s) l.fs.length) ⟨Nat.zero_le _, by show _ = _ - (0 : Int); omega⟩ (by (try simp only [go_sem]); repeat' (first | exact trivial | refine And.intro ?_ ?_ | rfl | (simp (disch := omega) only [go_sem, if_yes, if_no, ↓reduceIte, Nat.reduceAdd, Nat.reduceMul, Nat.reduceEqDiff, Nat.reduceBEq, Nat.reduceLeDiff]; rfl) | (simp (disch := omega) only [go_sem, if_yes, if_no, ↓reduceIte, Nat.reduceAdd, Nat.reduceMul, Nat.reduceEqDiff, Nat.reduceBEq, Nat.reduceLeDiff]))) (by (try simp only [go_sem]); repeat' (first | exact trivial | refine And.intro ?_ ?_ | rfl | (simp (disch := omega) only [go_sem, if_yes, if_no, ↓reduceIte, Nat.reduceAdd, Nat.reduceMul, Nat.reduceEqDiff, Nat.reduceBEq, Nat.reduceLeDiff]; rfl) | (simp (disch := omega) only [go_sem, if_yes, if_no, ↓reduceIte, Nat.reduceAdd, Nat.reduceMul, Nat.reduceEqDiff, Nat.reduceBEq, Nat.reduceLeDiff]))) (by first | (simp only [go_sem]; rfl) | rfl) (by intro n; simp only [go_sem]; rfl) ?_
  rintro ⟨i, v⟩ c ⟨i1, i2⟩ hc
  dsimp only at i1 i2
  have hs2 := sumF_le (F := dueF l s) (n := l.bs.length) (by omega) hdb i1
  have hst : sumF (dueF l s) (i + 1) = sumF (dueF l s) i + dueF l s i := rfl
  have hdi := hdb i
  have hv : dueF l s i = if hasB s (i : Nat) = true then (bl l.bs i).amt else 0 := rfl
  have hs : hasB s ((i : Nat) : Int) = decide (bitop .and .i64 (shr .i64 s ((i : Nat) : Int)) 1 = 1) := rfl
  simp only [go_sem]
  by_cases hi : i < l.bs.length
  · have hdi := hdi hi
    cases hq : hasB s ((i : Nat) : Int)
    · rw [hq, if_neg (by simp)] at hv
      rw [hq] at hs
      have hs' := of_decide_eq_false hs.symm
      repeat' (first | refine st_seq_reg rfl (by first | (simp only [go_sem, List.length_map]; rfl) | rfl) (by first | (simp only [go_sem, List.length_map]; rfl) | rfl) ?_ | refine st_reg rfl (by first | (simp only [go_sem, List.length_map]; rfl) | rfl) (by first | (simp only [go_sem, List.length_map]; rfl) | rfl) ?_ | refine st_op ?_ | refine st_det rfl (by simp (disch := omega) only [go_sem, wr_i64, if_yes, if_no, ↓reduceIte, Nat.reduceAdd, Nat.reduceMul, Nat.reduceEqDiff, Nat.reduceBEq, Nat.reduceLeDiff, List.length_map]; rfl) ?_ | (refine st_condS rfl ?_ ?_ <;> intro hg <;> (try simp only [decide_eq_true_eq, decide_eq_false_iff_not, Bool.not_eq_true', Bool.not_eq_false'] at hg)) | refine st_nil ?_ | refine st_tN ?_ | refine st_seq ?_ | refine st_block ?_ | refine st_skip ?_ | refine st_exit ?_ | refine st_ret ?_ | refine st_tE ?_ | refine st_bN ?_ | refine st_bH ?_)
      all_goals try (exfalso; omega)
      refine ⟨(i + 1, v), ⟨by show i + 1 ≤ l.bs.length; omega, by show v = _ - sumF (dueF l s) (i + 1); omega⟩, by show l.bs.length - (i + 1) < l.bs.length - i; omega, (by repeat' (first | exact trivial | refine And.intro ?_ ?_ | rfl | (simp (disch := omega) only [go_sem, if_yes, if_no, ↓reduceIte, Nat.reduceAdd, Nat.reduceMul, Nat.reduceEqDiff, Nat.reduceBEq, Nat.reduceLeDiff]; rfl) | (simp (disch := omega) only [go_sem, if_yes, if_no, ↓reduceIte, Nat.reduceAdd, Nat.reduceMul, Nat.reduceEqDiff, Nat.reduceBEq, Nat.reduceLeDiff]))), (by repeat' (first | exact trivial | refine And.intro ?_ ?_ | rfl | (simp (disch := omega) only [go_sem, if_yes, if_no, ↓reduceIte, Nat.reduceAdd, Nat.reduceMul, Nat.reduceEqDiff, Nat.reduceBEq, Nat.reduceLeDiff]; rfl) | (simp (disch := omega) only [go_sem, if_yes, if_no, ↓reduceIte, Nat.reduceAdd, Nat.reduceMul, Nat.reduceEqDiff, Nat.reduceBEq, Nat.reduceLeDiff]))), rfl, HOld.of _ (by omega)⟩
    · rw [hq, if_pos rfl] at hv
      rw [hq] at hs
      have hs' := of_decide_eq_true hs.symm
      rw [hv] at hdi
      repeat' (first | refine st_seq_reg rfl (by first | (simp only [go_sem, List.length_map]; rfl) | rfl) (by first | (simp only [go_sem, List.length_map]; rfl) | rfl) ?_ | refine st_reg rfl (by first | (simp only [go_sem, List.length_map]; rfl) | rfl) (by first | (simp only [go_sem, List.length_map]; rfl) | rfl) ?_ | refine st_op ?_ | refine st_det rfl (by simp (disch := omega) only [go_sem, wr_i64, if_yes, if_no, ↓reduceIte, Nat.reduceAdd, Nat.reduceMul, Nat.reduceEqDiff, Nat.reduceBEq, Nat.reduceLeDiff, List.length_map]; rfl) ?_ | (refine st_condS rfl ?_ ?_ <;> intro hg <;> (try simp only [decide_eq_true_eq, decide_eq_false_iff_not, Bool.not_eq_true', Bool.not_eq_false'] at hg)) | refine st_nil ?_ | refine st_tN ?_ | refine st_seq ?_ | refine st_block ?_ | refine st_skip ?_ | refine st_exit ?_ | refine st_ret ?_ | refine st_tE ?_ | refine st_bN ?_ | refine st_bH ?_)
      all_goals try (exfalso; omega)
      refine ⟨(i + 1, v - (bl l.bs i).amt), ⟨by show i + 1 ≤ l.bs.length; omega, by show v - (bl l.bs i).amt = _ - sumF (dueF l s) (i + 1); omega⟩, by show l.bs.length - (i + 1) < l.bs.length - i; omega, (by repeat' (first | exact trivial | refine And.intro ?_ ?_ | rfl | (simp (disch := omega) only [go_sem, if_yes, if_no, ↓reduceIte, Nat.reduceAdd, Nat.reduceMul, Nat.reduceEqDiff, Nat.reduceBEq, Nat.reduceLeDiff]; rfl) | (simp (disch := omega) only [go_sem, if_yes, if_no, ↓reduceIte, Nat.reduceAdd, Nat.reduceMul, Nat.reduceEqDiff, Nat.reduceBEq, Nat.reduceLeDiff]))), (by repeat' (first | exact trivial | refine And.intro ?_ ?_ | rfl | (simp (disch := omega) only [go_sem, if_yes, if_no, ↓reduceIte, Nat.reduceAdd, Nat.reduceMul, Nat.reduceEqDiff, Nat.reduceBEq, Nat.reduceLeDiff]; rfl) | (simp (disch := omega) only [go_sem, if_yes, if_no, ↓reduceIte, Nat.reduceAdd, Nat.reduceMul, Nat.reduceEqDiff, Nat.reduceBEq, Nat.reduceLeDiff]))), rfl, HOld.of _ (by omega)⟩
  obtain rfl : i = l.bs.length := by omega
  repeat' (first | refine st_seq_reg rfl (by first | (simp only [go_sem, List.length_map]; rfl) | rfl) (by first | (simp only [go_sem, List.length_map]; rfl) | rfl) ?_ | refine st_op ?_ | refine st_det rfl (by simp (disch := omega) only [go_sem, wr_i64, if_yes, if_no, ↓reduceIte, Nat.reduceAdd, Nat.reduceMul, Nat.reduceEqDiff, Nat.reduceBEq, Nat.reduceLeDiff, List.length_map]; rfl) ?_ | (refine st_condS rfl ?_ ?_ <;> intro hg <;> (try simp only [decide_eq_true_eq, decide_eq_false_iff_not, Bool.not_eq_true', Bool.not_eq_false'] at hg)) | refine st_nil ?_ | refine st_tN ?_ | refine st_seq ?_ | refine st_block ?_ | refine st_skip ?_ | refine st_exit ?_ | refine st_ret ?_ | refine st_tE ?_ | refine st_bH ?_)
  all_goals try (exfalso; omega)
  simp (disch := omega) only [AEnd, Try.results39, aresK, fin, go_sem, ↓reduceIte, Nat.reduceEqDiff, Nat.reduceAdd, Nat.reduceLeDiff, if_yes, if_no, implies_true, true_and, and_true, List.reverse_cons, List.reverse_nil]
  rw [i2]; rfl
end Go.Proofs.Ytbbkeakbomngoaa
