/- Contracts of functions that the claim reaches: what each call gives, told in our own logic. Conditions: those of each theorem. -/
import Derived.Test.YthjbfdfhblloiaaW9
import Derived.Test.YthjbfdfhblloiaaQ62
set_option linter.all false
set_option linter.unusedSimpArgs false
set_option linter.unusedVariables false
namespace Go.Proofs.Ythjbfdfhblloiaa
open Go.Av
attribute [local irreducible] thenA blockA awp awpOps awpD awp1
set_option maxHeartbeats 8000000
set_option maxRecDepth 20000
theorem someN_ext {t : Tw} {f g : Nat → Int} (h : ∀ j, j < t.sts.length → f j = g j) {x : Gp} (hG : GpOk t x) (q st : Int) (n : Nat) : someN t f x q st n = someN t g x q st n := by
  unfold someN; simp only [plc_ext h hG]
theorem allB_ext {t : Tw} {f g : Nat → Int} (h : ∀ j, j < t.sts.length → f j = g j) {x : Gp} (hG : GpOk t x) (q st : Int) : allB t f x q st = allB t g x q st := by
  unfold allB; simp only [plc_ext h hG]
theorem rlds_full {t : Tw} (hT : TwOk t) (c : List Int) (st : Int) : rlds t (elt (refS t.sts.length (cls c))) st = ldR t (cls c) st t.rooms.length := by
  have he : ∀ j, j < t.sts.length → elt (refS t.sts.length (cls c)) j = cls c j := fun j hj => refS_elt hj
  unfold rlds sl ldR
  refine List.map_congr_left fun q hq => ?_
  have hq := List.mem_range.1 hq
  dsimp only
  rw [ldHi_ext hT he]
  have : sumF (rloF t (elt (refS t.sts.length (cls c))) (q : Nat) st) t.gs.length = ldLo t (cls c) (q : Nat) st := by
    unfold ldLo
    refine sumF_ext fun i hi => ?_
    have hG := hT.g i hi
    have h1 := one_all hT hG (f := elt (refS t.sts.length (cls c))) (fun j hj => by rw [he j hj]; exact cls_ne c j) (fun a b => by rw [plc_ext he hG]; exact plc_ge hG (cls c) (cls_ne c) a b) q hq st
    unfold rloF loF
    rw [allB_ext he hG] at h1
    by_cases e : allB t (cls c) (gp t.gs i) (q : Nat) st = true
    · rw [if_pos e, if_pos (h1.2 e)]
    · rw [if_neg e, if_neg (fun e2 => e (h1.1 e2))]
  rw [this]
theorem c48 (t : Tw) (c : List Int) (st : Int) (hcl : c.length ≤ 1000000) : Pure Try.prog 48 [t.av, .lst 1 (c.map iv), .int .i64 st] (fun v => v = ldsR t c st) := by
  have k80 := c80 t c hcl
  have k65 := c65 st 0 t.steps
  have ht0 : t.av = .agg t.cells := rfl
  refine Pure.give Try.call48 fun h hall => ?_
  by_cases h0 : cloE t c = 0
  case neg =>
    refine ACalls.of tab mixed Try.call48 Try.func48 rfl (fi := ⟨26, [], [3], none, [(6, [0, 0, 0, 6, 0, 31, 63, 127], [(0, true), (1, true), (2, false), (4, false), (3, false), (5, false), (6, false), (7, false)])]⟩) rfl rfl (Nat.le_of_ble_eq_true rfl) (by decide) ?_
    unfold startA
    simp only [go_sem]
    repeat' (first | refine st_seq_reg rfl (by first | (simp only [go_sem]; rfl) | rfl) (by first | (simp only [go_sem]; rfl) | rfl) ?_ | refine st_op ?_ | refine st_det rfl (by simp (disch := omega) only [go_sem, wr_i64, if_yes, if_no, ↓reduceIte, Nat.reduceAdd, Nat.reduceMul, Nat.reduceEqDiff, Nat.reduceBEq, Nat.reduceLeDiff]; rfl) ?_ | (refine st_pureE (by first | (simp (disch := omega) only [go_sem]; rfl) | rfl) rfl (k80) (by first | (simp only [go_sem]; rfl) | rfl) (by intro n; first | (simp (disch := omega) only [go_sem]; rfl) | rfl) ?_; intro n hn) | (refine st_condS rfl ?_ ?_ <;> intro hg <;> (try simp only [decide_eq_true_eq, decide_eq_false_iff_not, Bool.not_eq_true', Bool.not_eq_false'] at hg)) | refine st_nil ?_ | refine st_tN ?_ | refine st_seq ?_ | refine st_skip ?_ | refine st_ret ?_ | refine st_tR ?_)
    all_goals try (exfalso; omega)
    simp (disch := omega) only [AEnd, Try.results48, aresK, fin, go_sem, ↓reduceIte, Nat.reduceEqDiff, Nat.reduceAdd, Nat.reduceLeDiff, if_yes, if_no, implies_true, true_and, and_true, List.reverse_cons, List.reverse_nil]
    exact .inl ⟨_, le_nil2 _ 2, by unfold ldsR; rw [if_pos h0]⟩
  rw [h0] at k80
  obtain ⟨hT, hc⟩ := cloOk h0
  have hsn := hT.sn
  have hst := hT.steps
  by_cases h1 : 0 ≤ st ∧ st ≤ t.steps
  case neg =>
    rw [decide_eq_false h1] at k65
    refine ACalls.of tab mixed Try.call48 Try.func48 rfl (fi := ⟨26, [], [3], none, [(6, [0, 0, 0, 6, 0, 31, 63, 127], [(0, true), (1, true), (2, false), (4, false), (3, false), (5, false), (6, false), (7, false)])]⟩) rfl rfl (Nat.le_of_ble_eq_true rfl) (by decide) ?_
    unfold startA
    rw [ht0]
    unfold Tw.cells
    repeat' (first | refine st_seq_reg rfl (by first | (simp only [go_sem]; rfl) | rfl) (by first | (simp only [go_sem]; rfl) | rfl) ?_ | refine st_op ?_ | refine st_det rfl (by simp (disch := omega) only [go_sem, wr_i64, if_yes, if_no, ↓reduceIte, Nat.reduceAdd, Nat.reduceMul, Nat.reduceEqDiff, Nat.reduceBEq, Nat.reduceLeDiff]; rfl) ?_ | (refine st_pureE (by first | (simp (disch := omega) only [go_sem]; rfl) | rfl) rfl (k80) (by first | (simp only [go_sem]; rfl) | rfl) (by intro n; first | (simp (disch := omega) only [go_sem]; rfl) | rfl) ?_; intro n hn) | (refine st_pureE (by first | (simp (disch := omega) only [go_sem]; rfl) | rfl) rfl (k65) (by first | (simp only [go_sem]; rfl) | rfl) (by intro n; first | (simp (disch := omega) only [go_sem]; rfl) | rfl) ?_; intro n hn) | refine st_condT rfl ?_ | refine st_condF rfl ?_ | refine st_nil ?_ | refine st_tN ?_ | refine st_seq ?_ | refine st_skip ?_ | refine st_ret ?_ | refine st_tR ?_)
    all_goals try (exfalso; omega)
    simp (disch := omega) only [AEnd, Try.results48, aresK, fin, go_sem, ↓reduceIte, Nat.reduceEqDiff, Nat.reduceAdd, Nat.reduceLeDiff, if_yes, if_no, implies_true, true_and, and_true, List.reverse_cons, List.reverse_nil]
    exact .inl ⟨_, le_nil2 _ 2, by unfold ldsR; rw [if_neg (fun e => e h0), if_pos h1]⟩
  rw [decide_eq_true h1] at k65
  have k81 := c81 t c hcl hsn hc
  have k89 := c89 t (refS t.sts.length (cls c)) st hT (refS_len _ _) ⟨by omega, by omega⟩
  rw [rlds_full hT] at k89
  refine ACalls.of tab mixed Try.call48 Try.func48 rfl (fi := ⟨26, [], [3], none, [(6, [0, 0, 0, 6, 0, 31, 63, 127], [(0, true), (1, true), (2, false), (4, false), (3, false), (5, false), (6, false), (7, false)])]⟩) rfl rfl (Nat.le_of_ble_eq_true rfl) (by decide) ?_
  unfold startA
  rw [ht0]
  unfold Tw.cells
  repeat' (first | refine st_seq_reg rfl (by first | (simp only [go_sem]; rfl) | rfl) (by first | (simp only [go_sem]; rfl) | rfl) ?_ | refine st_seq_draw rfl (by first | (simp only [go_sem]; rfl) | rfl) (by first | (simp only [go_sem]; rfl) | rfl) ?_ | refine st_op ?_ | refine st_det rfl (by simp (disch := omega) only [go_sem, wr_i64, if_yes, if_no, ↓reduceIte, Nat.reduceAdd, Nat.reduceMul, Nat.reduceEqDiff, Nat.reduceBEq, Nat.reduceLeDiff]; rfl) ?_ | refine st_dop rfl ?_ | (refine st_pureE (by first | (simp (disch := omega) only [go_sem]; rfl) | rfl) rfl (k80) (by first | (simp only [go_sem]; rfl) | rfl) (by intro n; first | (simp (disch := omega) only [go_sem]; rfl) | rfl) ?_; intro n hn) | (refine st_pureE (by first | (simp (disch := omega) only [go_sem]; rfl) | rfl) rfl (k65) (by first | (simp only [go_sem]; rfl) | rfl) (by intro n; first | (simp (disch := omega) only [go_sem]; rfl) | rfl) ?_; intro n hn) | (refine st_pureE (by first | (simp (disch := omega) only [go_sem]; rfl) | rfl) rfl (k81) (by first | (simp only [go_sem]; rfl) | rfl) (by intro n; first | (simp (disch := omega) only [go_sem]; rfl) | rfl) ?_; intro n hn) | (refine st_pureE (by first | (simp (disch := omega) only [go_sem]; rfl) | rfl) rfl (k89) (by first | (simp only [go_sem]; rfl) | rfl) (by intro n; first | (simp (disch := omega) only [go_sem]; rfl) | rfl) ?_; intro n hn) | refine st_condF rfl ?_ | refine st_nil ?_ | refine st_dnil ?_ | refine st_tN ?_ | refine st_seq ?_ | refine st_skip ?_ | refine st_ret ?_)
  all_goals try (exfalso; omega)
  simp (disch := omega) only [AEnd, Try.results48, aresK, fin, go_sem, ↓reduceIte, Nat.reduceEqDiff, Nat.reduceAdd, Nat.reduceLeDiff, if_yes, if_no, implies_true, true_and, and_true, List.reverse_cons, List.reverse_nil]
  exact .inl ⟨_, VLe.refl _, by unfold ldsR; rw [if_neg (fun e => e h0), if_neg (fun e => e h1)]⟩
theorem c50 (t : Tw) (c : List Int) (hcl : c.length ≤ 1000000) : Pure Try.prog 50 [t.av, .lst 1 (c.map iv)] (fun v => v = crsV t c) := by
  have k80 := c80 t c hcl
  have ht0 : t.av = .agg t.cells := rfl
  refine Pure.give Try.call50 fun h hall => ?_
  by_cases h0 : cloE t c = 0
  case neg =>
    refine ACalls.of tab mixed Try.call50 Try.func50 rfl (fi := ⟨18, [], [2], none, [(4, [0, 0, 0, 6, 15, 31, 63], [(0, true), (1, true), (2, false), (3, false), (4, false), (5, false), (6, false)])]⟩) rfl rfl (Nat.le_of_ble_eq_true rfl) (by decide) ?_
    unfold startA
    simp only [go_sem]
    repeat' (first | refine st_seq_reg rfl (by first | (simp only [go_sem]; rfl) | rfl) (by first | (simp only [go_sem]; rfl) | rfl) ?_ | refine st_seq_draw rfl (by first | (simp only [go_sem]; rfl) | rfl) (by first | (simp only [go_sem]; rfl) | rfl) ?_ | refine st_op ?_ | refine st_det rfl (by simp (disch := omega) only [go_sem, wr_i64, if_yes, if_no, ↓reduceIte, Nat.reduceAdd, Nat.reduceMul, Nat.reduceEqDiff, Nat.reduceBEq, Nat.reduceLeDiff]; rfl) ?_ | refine st_dop rfl ?_ | (refine st_pureE (by first | (simp (disch := omega) only [go_sem]; rfl) | rfl) rfl (k80) (by first | (simp only [go_sem]; rfl) | rfl) (by intro n; first | (simp (disch := omega) only [go_sem]; rfl) | rfl) ?_; intro n hn) | (refine st_condS rfl ?_ ?_ <;> intro hg <;> (try simp only [decide_eq_true_eq, decide_eq_false_iff_not, Bool.not_eq_true', Bool.not_eq_false'] at hg)) | refine st_nil ?_ | refine st_tN ?_ | refine st_seq ?_ | refine st_skip ?_ | refine st_ret ?_ | refine st_tR ?_)
    all_goals try (exfalso; omega)
    simp (disch := omega) only [AEnd, Try.results50, aresK, fin, go_sem, ↓reduceIte, Nat.reduceEqDiff, Nat.reduceAdd, Nat.reduceLeDiff, if_yes, if_no, implies_true, true_and, and_true, List.reverse_cons, List.reverse_nil]
    exact .inl ⟨_, le_nil2 _ 3, by unfold crsV; rw [if_pos h0]⟩
  rw [h0] at k80
  obtain ⟨hT, hc⟩ := cloOk h0
  have hsn := hT.sn
  have k81 := c81 t c hcl hsn hc
  have k91 := c91 t (refS t.sts.length (cls c)) hT (refS_len _ _)
  rw [crL_ext hT (g := cls c) fun j hj => refS_elt hj] at k91
  refine ACalls.of tab mixed Try.call50 Try.func50 rfl (fi := ⟨18, [], [2], none, [(4, [0, 0, 0, 6, 15, 31, 63], [(0, true), (1, true), (2, false), (3, false), (4, false), (5, false), (6, false)])]⟩) rfl rfl (Nat.le_of_ble_eq_true rfl) (by decide) ?_
  unfold startA
  rw [ht0]
  unfold Tw.cells
  repeat' (first | refine st_seq_reg rfl (by first | (simp only [go_sem]; rfl) | rfl) (by first | (simp only [go_sem]; rfl) | rfl) ?_ | refine st_seq_draw rfl (by first | (simp only [go_sem]; rfl) | rfl) (by first | (simp only [go_sem]; rfl) | rfl) ?_ | refine st_op ?_ | refine st_det rfl (by simp (disch := omega) only [go_sem, wr_i64, if_yes, if_no, ↓reduceIte, Nat.reduceAdd, Nat.reduceMul, Nat.reduceEqDiff, Nat.reduceBEq, Nat.reduceLeDiff]; rfl) ?_ | refine st_dop rfl ?_ | (refine st_pureE (by first | (simp (disch := omega) only [go_sem]; rfl) | rfl) rfl (k80) (by first | (simp only [go_sem]; rfl) | rfl) (by intro n; first | (simp (disch := omega) only [go_sem]; rfl) | rfl) ?_; intro n hn) | (refine st_pureE (by first | (simp (disch := omega) only [go_sem]; rfl) | rfl) rfl (k81) (by first | (simp only [go_sem]; rfl) | rfl) (by intro n; first | (simp (disch := omega) only [go_sem]; rfl) | rfl) ?_; intro n hn) | (refine st_pureE (by first | (simp (disch := omega) only [go_sem]; rfl) | rfl) rfl (k91) (by first | (simp only [go_sem]; rfl) | rfl) (by intro n; first | (simp (disch := omega) only [go_sem]; rfl) | rfl) ?_; intro n hn) | refine st_condF rfl ?_ | refine st_nil ?_ | refine st_dnil ?_ | refine st_tN ?_ | refine st_seq ?_ | refine st_skip ?_ | refine st_ret ?_)
  all_goals try (exfalso; omega)
  simp (disch := omega) only [AEnd, Try.results50, aresK, fin, go_sem, ↓reduceIte, Nat.reduceEqDiff, Nat.reduceAdd, Nat.reduceLeDiff, if_yes, if_no, implies_true, true_and, and_true, List.reverse_cons, List.reverse_nil]
  exact .inl ⟨_, VLe.refl _, by unfold crsV; rw [if_neg (fun e => e h0)]⟩
structure RvS where
  i : Nat
  v : AV
  g : AH
theorem c47 (t : Tw) (c : List Int) (g st : Int) (hcl : c.length ≤ 1000000) : Pure Try.prog 47 [t.av, .lst 1 (c.map iv), .int .i64 g, .int .i64 st] (fun v => v = whV t c g st) := by
  have k80 := c80 t c hcl
  have ht0 : t.av = .agg t.cells := rfl
  refine Pure.give Try.call47 fun h hall => ?_
  by_cases h0 : cloE t c = 0
  case neg =>
    refine ACalls.of tab mixed Try.call47 Try.func47 rfl (fi := ⟨70, [], [4, 61], none, [(8, [0, 0, 0, 6, 0, 16, 0, 112, 240, 0, 1023, 2047, 4095, 4095, 8191, 32767], [(0, true), (1, true), (2, false), (4, false), (5, true), (6, false), (7, false), (8, true), (9, false), (3, false), (10, false), (11, false), (12, false), (13, false), (14, false), (15, false)]), (15, [0, 0, 0, 4, 12, 30, 62, 1, 255, 511], [(0, false), (1, false), (2, false), (3, true), (4, false), (5, false), (6, true), (7, false), (8, false), (9, false)])]⟩) rfl rfl (Nat.le_of_ble_eq_true rfl) (by decide) ?_
    unfold startA
    simp only [go_sem]
    repeat' (first | refine st_seq_reg rfl (by first | (simp only [go_sem]; rfl) | rfl) (by first | (simp only [go_sem]; rfl) | rfl) ?_ | refine st_op ?_ | refine st_det rfl (by simp (disch := omega) only [go_sem, wr_i64, if_yes, if_no, ↓reduceIte, Nat.reduceAdd, Nat.reduceMul, Nat.reduceEqDiff, Nat.reduceBEq, Nat.reduceLeDiff]; rfl) ?_ | (refine st_pureE (by first | (simp (disch := omega) only [go_sem]; rfl) | rfl) rfl (k80) (by first | (simp only [go_sem]; rfl) | rfl) (by intro n; first | (simp (disch := omega) only [go_sem]; rfl) | rfl) ?_; intro n hn) | (refine st_condS rfl ?_ ?_ <;> intro hg <;> (try simp only [decide_eq_true_eq, decide_eq_false_iff_not, Bool.not_eq_true', Bool.not_eq_false'] at hg)) | refine st_nil ?_ | refine st_tN ?_ | refine st_seq ?_ | refine st_skip ?_ | refine st_ret ?_ | refine st_tR ?_)
    all_goals try (exfalso; omega)
    simp (disch := omega) only [AEnd, Try.results47, aresK, fin, go_sem, ↓reduceIte, Nat.reduceEqDiff, Nat.reduceAdd, Nat.reduceLeDiff, if_yes, if_no, implies_true, true_and, and_true, List.reverse_cons, List.reverse_nil]
    exact .inl ⟨_, le_nil3 1 false _, by unfold whV; rw [if_pos h0]⟩
  rw [h0] at k80
  obtain ⟨hT, hc⟩ := cloOk h0
  have hrn := hT.rn
  have hsn := hT.sn
  have hgn := hT.gn
  have hst := hT.steps
  have k65 := c65 g 0 (t.gs.length - 1 : Int)
  have k65b := c65 st 0 t.steps
  by_cases h1 : 0 ≤ g ∧ g ≤ t.gs.length - 1
  case neg =>
    rw [decide_eq_false h1] at k65
    refine ACalls.of tab mixed Try.call47 Try.func47 rfl (fi := ⟨70, [], [4, 61], none, [(8, [0, 0, 0, 6, 0, 16, 0, 112, 240, 0, 1023, 2047, 4095, 4095, 8191, 32767], [(0, true), (1, true), (2, false), (4, false), (5, true), (6, false), (7, false), (8, true), (9, false), (3, false), (10, false), (11, false), (12, false), (13, false), (14, false), (15, false)]), (15, [0, 0, 0, 4, 12, 30, 62, 1, 255, 511], [(0, false), (1, false), (2, false), (3, true), (4, false), (5, false), (6, true), (7, false), (8, false), (9, false)])]⟩) rfl rfl (Nat.le_of_ble_eq_true rfl) (by decide) ?_
    unfold startA
    rw [ht0]
    unfold Tw.cells
    repeat' (first | refine st_seq_reg rfl (by first | (simp only [go_sem, List.length_map]; rfl) | rfl) (by first | (simp only [go_sem, List.length_map]; rfl) | rfl) ?_ | refine st_op ?_ | refine st_det rfl (by simp (disch := omega) only [go_sem, wr_i64, if_yes, if_no, ↓reduceIte, Nat.reduceAdd, Nat.reduceMul, Nat.reduceEqDiff, Nat.reduceBEq, Nat.reduceLeDiff, List.length_map]; rfl) ?_ | (refine st_pureE (by first | (simp (disch := omega) only [go_sem, List.length_map]; rfl) | rfl) rfl (k80) (by first | (simp only [go_sem, List.length_map]; rfl) | rfl) (by intro n; first | (simp (disch := omega) only [go_sem]; rfl) | rfl) ?_; intro n hn) | (refine st_pureE (by first | (simp (disch := omega) only [go_sem, List.length_map]; rfl) | rfl) rfl (k65) (by first | (simp only [go_sem, List.length_map]; rfl) | rfl) (by intro n; first | (simp (disch := omega) only [go_sem]; rfl) | rfl) ?_; intro n hn) | refine st_condT rfl ?_ | refine st_condF rfl ?_ | refine st_nil ?_ | refine st_tN ?_ | refine st_seq ?_ | refine st_skip ?_ | refine st_ret ?_ | refine st_tR ?_)
    all_goals try (exfalso; omega)
    simp (disch := omega) only [AEnd, Try.results47, aresK, fin, go_sem, ↓reduceIte, Nat.reduceEqDiff, Nat.reduceAdd, Nat.reduceLeDiff, if_yes, if_no, implies_true, true_and, and_true, List.reverse_cons, List.reverse_nil]
    exact .inl ⟨_, le_nil3 1 false 7, by unfold whV; rw [if_neg (fun e => e h0), if_pos (by omega)]⟩
  rw [decide_eq_true h1] at k65
  by_cases h2 : 0 ≤ st ∧ st ≤ t.steps
  case neg =>
    rw [decide_eq_false h2] at k65b
    refine ACalls.of tab mixed Try.call47 Try.func47 rfl (fi := ⟨70, [], [4, 61], none, [(8, [0, 0, 0, 6, 0, 16, 0, 112, 240, 0, 1023, 2047, 4095, 4095, 8191, 32767], [(0, true), (1, true), (2, false), (4, false), (5, true), (6, false), (7, false), (8, true), (9, false), (3, false), (10, false), (11, false), (12, false), (13, false), (14, false), (15, false)]), (15, [0, 0, 0, 4, 12, 30, 62, 1, 255, 511], [(0, false), (1, false), (2, false), (3, true), (4, false), (5, false), (6, true), (7, false), (8, false), (9, false)])]⟩) rfl rfl (Nat.le_of_ble_eq_true rfl) (by decide) ?_
    unfold startA
    rw [ht0]
    unfold Tw.cells
    repeat' (first | refine st_seq_reg rfl (by first | (simp only [go_sem, List.length_map]; rfl) | rfl) (by first | (simp only [go_sem, List.length_map]; rfl) | rfl) ?_ | refine st_op ?_ | refine st_det rfl (by simp (disch := omega) only [go_sem, wr_i64, if_yes, if_no, ↓reduceIte, Nat.reduceAdd, Nat.reduceMul, Nat.reduceEqDiff, Nat.reduceBEq, Nat.reduceLeDiff, List.length_map]; rfl) ?_ | (refine st_pureE (by first | (simp (disch := omega) only [go_sem, List.length_map]; rfl) | rfl) rfl (k80) (by first | (simp only [go_sem, List.length_map]; rfl) | rfl) (by intro n; first | (simp (disch := omega) only [go_sem]; rfl) | rfl) ?_; intro n hn) | (refine st_pureE (by first | (simp (disch := omega) only [go_sem, List.length_map]; rfl) | rfl) rfl (k65) (by first | (simp only [go_sem, List.length_map]; rfl) | rfl) (by intro n; first | (simp (disch := omega) only [go_sem]; rfl) | rfl) ?_; intro n hn) | (refine st_pureE (by first | (simp (disch := omega) only [go_sem, List.length_map]; rfl) | rfl) rfl (k65b) (by first | (simp only [go_sem, List.length_map]; rfl) | rfl) (by intro n; first | (simp (disch := omega) only [go_sem]; rfl) | rfl) ?_; intro n hn) | refine st_condT rfl ?_ | refine st_condF rfl ?_ | refine st_nil ?_ | refine st_tN ?_ | refine st_seq ?_ | refine st_skip ?_ | refine st_ret ?_ | refine st_tR ?_)
    all_goals try (exfalso; omega)
    simp (disch := omega) only [AEnd, Try.results47, aresK, fin, go_sem, ↓reduceIte, Nat.reduceEqDiff, Nat.reduceAdd, Nat.reduceLeDiff, if_yes, if_no, implies_true, true_and, and_true, List.reverse_cons, List.reverse_nil]
    exact .inl ⟨_, le_nil3 1 false 2, by unfold whV; rw [if_neg (fun e => e h0), if_neg (fun e => e ⟨h1.1, by omega⟩), if_pos h2]⟩
  rw [decide_eq_true h2] at k65b
  obtain ⟨G, rfl⟩ : ∃ m : Nat, g = m := ⟨g.toNat, by omega⟩
  have hG : G < t.gs.length := by omega
  have hGp := hT.g G hG
  have hV : whV t c (G : Nat) st = .tup [.lst 1 ((whN t (cls c) (gp t.gs G) st t.rooms.length).map iv), .bool (someB t (cls c) (gp t.gs G) (-1) st), .int .i64 0] := by
    unfold whV; rw [if_neg (fun e => e h0), if_neg (fun e => e ⟨h1.1, by omega⟩), if_neg (fun e => e h2)]; rfl
  rw [hV]
  have he : ∀ j, j < t.sts.length → elt (refS t.sts.length (cls c)) j = cls c j := fun j hj => refS_elt hj
  have k81 := c81 t c hcl hsn hc
  have k88 := c88 t (refS t.sts.length (cls c)) (gp t.gs G) st hT hGp (refS_len _ _) ⟨by omega, by omega⟩
  have hm : ∀ q, mayB t (elt (refS t.sts.length (cls c))) (gp t.gs G) st (plN (gp t.gs G)) q = if q = t.rooms.length then someB t (cls c) (gp t.gs G) (-1) st else someB t (cls c) (gp t.gs G) (q : Nat) st := fun q => by
    unfold mayB
    rw [someN_ext he hGp, someN_ext he hGp]; rfl
  have hgR := bl_get (R := t.rooms.length + 1) (f := mayB t (elt (refS t.sts.length (cls c))) (gp t.gs G) st (plN (gp t.gs G))) (Nat.lt_succ_self _)
  rw [hm, if_pos rfl] at hgR
  have hgq : ∀ q : Nat, q < t.rooms.length → (bl (t.rooms.length + 1) (mayB t (elt (refS t.sts.length (cls c))) (gp t.gs G) st (plN (gp t.gs G)))).getD q [] = [.bool (someB t (cls c) (gp t.gs G) (q : Nat) st)] := fun q hq => by
    rw [bl_get (by omega), hm, if_neg (by omega)]
  have hbl := bl_len (t.rooms.length + 1) (mayB t (elt (refS t.sts.length (cls c))) (gp t.gs G) st (plN (gp t.gs G)))
  generalize bl (t.rooms.length + 1) (mayB t (elt (refS t.sts.length (cls c))) (gp t.gs G) st (plN (gp t.gs G))) = BL at *
  generalize oneB t (elt (refS t.sts.length (cls c))) (gp t.gs G) st = on at *
  refine ACalls.of tab mixed Try.call47 Try.func47 rfl (fi := ⟨70, [], [4, 61], none, [(8, [0, 0, 0, 6, 0, 16, 0, 112, 240, 0, 1023, 2047, 4095, 4095, 8191, 32767], [(0, true), (1, true), (2, false), (4, false), (5, true), (6, false), (7, false), (8, true), (9, false), (3, false), (10, false), (11, false), (12, false), (13, false), (14, false), (15, false)]), (15, [0, 0, 0, 4, 12, 30, 62, 1, 255, 511], [(0, false), (1, false), (2, false), (3, true), (4, false), (5, false), (6, true), (7, false), (8, false), (9, false)])]⟩) rfl rfl (Nat.le_of_ble_eq_true rfl) (by decide) ?_
  unfold startA
  rw [ht0]
  unfold Tw.cells
  repeat' (first | refine st_seq_reg rfl (by first | (simp only [go_sem, List.length_map]; rfl) | rfl) (by first | (simp only [go_sem, List.length_map]; rfl) | rfl) ?_ | refine st_seq_draw rfl (by first | (simp only [go_sem, List.length_map]; rfl) | rfl) (by first | (simp only [go_sem, List.length_map]; rfl) | rfl) ?_ | refine st_op ?_ | refine st_det rfl (by simp (disch := omega) only [go_sem, wr_i64, if_yes, if_no, ↓reduceIte, Nat.reduceAdd, Nat.reduceMul, Nat.reduceEqDiff, Nat.reduceBEq, Nat.reduceLeDiff, List.length_map]; rfl) ?_ | refine st_dop rfl ?_ | (refine st_pureE (by first | (simp (disch := omega) only [go_sem, List.length_map]; rfl) | rfl) rfl (k80) (by first | (simp only [go_sem, List.length_map]; rfl) | rfl) (by intro n; first | (simp (disch := omega) only [go_sem]; rfl) | rfl) ?_; intro n hn) | (refine st_pureE (by first | (simp (disch := omega) only [go_sem, List.length_map]; rfl) | rfl) rfl (k65) (by first | (simp only [go_sem, List.length_map]; rfl) | rfl) (by intro n; first | (simp (disch := omega) only [go_sem]; rfl) | rfl) ?_; intro n hn) | (refine st_pureE (by first | (simp (disch := omega) only [go_sem, List.length_map]; rfl) | rfl) rfl (k65b) (by first | (simp only [go_sem, List.length_map]; rfl) | rfl) (by intro n; first | (simp (disch := omega) only [go_sem]; rfl) | rfl) ?_; intro n hn) | (refine st_pureE (by first | (simp (disch := omega) only [go_sem, List.length_map]; rfl) | rfl) rfl (k81) (by first | (simp only [go_sem, List.length_map]; rfl) | rfl) (by intro n; first | (simp (disch := omega) only [go_sem]; rfl) | rfl) ?_; intro n hn) | (refine st_pureE (by first | (simp (disch := omega) only [go_sem, List.length_map]; rfl) | rfl) rfl (k88) (by first | (simp only [go_sem, List.length_map]; rfl) | rfl) (by intro n; first | (simp (disch := omega) only [go_sem]; rfl) | rfl) ?_; intro n hn) | refine st_condF rfl ?_ | refine st_nil ?_ | refine st_dnil ?_ | refine st_tN ?_ | refine st_seq ?_ | refine st_block ?_ | refine st_skip ?_)
  all_goals try (exfalso; omega)
  refine st_loopH (α := RvS) tab mixed [] [] (by repeat (first | exact trivial | refine ⟨rfl, ?_⟩)) [] [] (by repeat (first | exact trivial | refine ⟨rfl, ?_⟩)) (fun a => [(15, .int .i64 (a.i : Nat)), (14, a.v)]) [(4, _), (12, _)] (fun _ => []) [] (fun a => a.g) (fun a => a.i ≤ t.rooms.length ∧ SlA h.clk a.g a.v 1 ((whN t (cls c) (gp t.gs G) st a.i).map iv) ∧ (∀ b' : Bid, b'.1 < h.clk → a.g.at_ b' = h.at_ b') ∧ a.g.lp = h.lp ∧ h.clk ≤ a.g.clk) (fun a => t.rooms.length - a.i) (by decide) ⟨0, .nils, _⟩ (by refine ⟨Nat.zero_le _, .inl ⟨rfl, rfl⟩, fun _ _ => rfl, rfl, by simp only [go_sem]; omega⟩) (by (try simp only [go_sem]); repeat' (first | exact trivial | refine And.intro ?_ ?_ | rfl | (simp (disch := omega) only [go_sem, if_yes, if_no, ↓reduceIte, Nat.reduceAdd, Nat.reduceMul, Nat.reduceEqDiff, Nat.reduceBEq, Nat.reduceLeDiff]; rfl) | (simp (disch := omega) only [go_sem, if_yes, if_no, ↓reduceIte, Nat.reduceAdd, Nat.reduceMul, Nat.reduceEqDiff, Nat.reduceBEq, Nat.reduceLeDiff]))) (by (try simp only [go_sem]); repeat' (first | exact trivial | refine And.intro ?_ ?_ | rfl | (simp (disch := omega) only [go_sem, if_yes, if_no, ↓reduceIte, Nat.reduceAdd, Nat.reduceMul, Nat.reduceEqDiff, Nat.reduceBEq, Nat.reduceLeDiff]; rfl) | (simp (disch := omega) only [go_sem, if_yes, if_no, ↓reduceIte, Nat.reduceAdd, Nat.reduceMul, Nat.reduceEqDiff, Nat.reduceBEq, Nat.reduceLeDiff]))) (HOld.refl _) ?_
  rintro ⟨i, v, H⟩ d ⟨i1, hS, i3, i4, i5⟩ hd
  dsimp only at i1 hS i3 i4 i5 hd
  simp only [go_sem]
  have hnc := hS.noL
  have hwl := whN_len (t := t) (s := cls c) (g := gp t.gs G) (st := st) i
  by_cases hi : i < t.rooms.length
  case neg =>
    obtain rfl : i = t.rooms.length := by omega
    repeat' (first | refine st_seq_reg rfl (by first | (simp only [go_sem, List.length_map, hbl, hgR]; rfl) | rfl) (by first | (simp only [go_sem, List.length_map, hbl, hgR]; rfl) | rfl) ?_ | refine st_reg rfl (by first | (simp only [go_sem, List.length_map, hbl, hgR]; rfl) | rfl) (by first | (simp only [go_sem, List.length_map, hbl, hgR]; rfl) | rfl) ?_ | refine st_seq_draw rfl (by first | (simp only [go_sem, List.length_map, hbl, hgR]; rfl) | rfl) (by first | (simp only [go_sem, List.length_map, hbl, hgR]; rfl) | rfl) ?_ | refine st_op ?_ | refine st_det rfl (by simp (disch := omega) only [go_sem, wr_i64, if_yes, if_no, ↓reduceIte, Nat.reduceAdd, Nat.reduceMul, Nat.reduceEqDiff, Nat.reduceBEq, Nat.reduceLeDiff, List.length_map, hbl, hgR]; rfl) ?_ | refine st_dop rfl ?_ | (refine st_condS rfl ?_ ?_ <;> intro hg <;> (try simp only [decide_eq_true_eq, decide_eq_false_iff_not, Bool.not_eq_true', Bool.not_eq_false'] at hg)) | refine st_nil ?_ | refine st_dnil ?_ | refine st_tN ?_ | refine st_seq ?_ | refine st_block ?_ | refine st_skip ?_ | refine st_exit ?_ | refine st_ret ?_ | refine st_tE ?_ | refine st_bN ?_ | refine st_bH ?_)
    all_goals try (exfalso; omega)
    simp (disch := omega) only [AEnd, Try.results47, aresK, fin, go_sem, ↓reduceIte, Nat.reduceEqDiff, Nat.reduceAdd, Nat.reduceLeDiff, if_yes, if_no, implies_true, true_and, and_true, List.reverse_cons, List.reverse_nil]
    exact ⟨hS.noL, i3, i4, ansB (h := h) (g := H) (R := fun v => v = .tup [.lst 1 ((whN t (cls c) (gp t.gs G) st t.rooms.length).map iv), .bool (someB t (cls c) (gp t.gs G) (-1) st), .int .i64 0]) hS rfl⟩
  have hgi := hgq i hi
  cases hb : someB t (cls c) (gp t.gs G) (i : Nat) st with
  | true =>
    rw [hb] at hgi
    have hnx : whN t (cls c) (gp t.gs G) st (i + 1) = whN t (cls c) (gp t.gs G) st i ++ [((i : Nat) : Int)] := by
      show whN t (cls c) (gp t.gs G) st i ++ _ = _
      rw [if_pos hb]
    repeat' (first | refine st_seq_reg rfl (by first | (simp only [go_sem, List.length_map, hbl, hgi]; rfl) | rfl) (by first | (simp only [go_sem, List.length_map, hbl, hgi]; rfl) | rfl) ?_ | refine st_reg rfl (by first | (simp only [go_sem, List.length_map, hbl, hgi]; rfl) | rfl) (by first | (simp only [go_sem, List.length_map, hbl, hgi]; rfl) | rfl) ?_ | refine st_seq_draw rfl (by first | (simp only [go_sem, List.length_map, hbl, hgi]; rfl) | rfl) (by first | (simp only [go_sem, List.length_map, hbl, hgi]; rfl) | rfl) ?_ | refine st_op ?_ | refine st_det rfl (by simp (disch := omega) only [go_sem, wr_i64, if_yes, if_no, ↓reduceIte, Nat.reduceAdd, Nat.reduceMul, Nat.reduceEqDiff, Nat.reduceBEq, Nat.reduceLeDiff, List.length_map, hbl, hgi]; rfl) ?_ | refine st_dop rfl ?_ | (refine st_appS (by intro h id x y; simp only [go_sem]; rfl) rfl (by simp only [go_sem, List.length_map, hbl, hgi]; rfl) (by simp only [go_sem, List.length_map, hbl, hgi]; rfl) (by decide) hS (fun _ _ _ => rfl) (by omega) (by simp only [List.length_map, List.length_cons, List.length_nil, big, List.length_map, hbl, hgi]; omega) (by omega) (by omega) ?_; intro v' g' hA) | refine st_condT rfl ?_ | (refine st_condS rfl ?_ ?_ <;> intro hg <;> (try simp only [decide_eq_true_eq, decide_eq_false_iff_not, Bool.not_eq_true', Bool.not_eq_false'] at hg)) | refine st_nil ?_ | refine st_tN ?_ | refine st_seq ?_ | refine st_block ?_ | refine st_skip ?_ | refine st_exit ?_ | refine st_tE ?_ | refine st_bN ?_ | refine st_bH ?_)
    all_goals try (exfalso; omega)
    refine ⟨⟨i + 1, v', _⟩, (by refine ⟨by show i + 1 ≤ _; omega, by rw [hnx, List.map_append]; exact hA.sl.to (fun _ _ _ _ _ => rfl) (by simp only [go_sem]; omega), fun b' hb' => (hA.old b' hb').trans (i3 b' hb'), hA.lp.trans i4, by simp only [go_sem]; omega⟩), by show t.rooms.length - (i + 1) < t.rooms.length - i; omega, (by repeat' (first | exact trivial | refine And.intro ?_ ?_ | rfl | (simp (disch := omega) only [go_sem, if_yes, if_no, ↓reduceIte, Nat.reduceAdd, Nat.reduceMul, Nat.reduceEqDiff, Nat.reduceBEq, Nat.reduceLeDiff]; rfl) | (simp (disch := omega) only [go_sem, if_yes, if_no, ↓reduceIte, Nat.reduceAdd, Nat.reduceMul, Nat.reduceEqDiff, Nat.reduceBEq, Nat.reduceLeDiff]))), (by repeat' (first | exact trivial | refine And.intro ?_ ?_ | rfl | (simp (disch := omega) only [go_sem, if_yes, if_no, ↓reduceIte, Nat.reduceAdd, Nat.reduceMul, Nat.reduceEqDiff, Nat.reduceBEq, Nat.reduceLeDiff]; rfl) | (simp (disch := omega) only [go_sem, if_yes, if_no, ↓reduceIte, Nat.reduceAdd, Nat.reduceMul, Nat.reduceEqDiff, Nat.reduceBEq, Nat.reduceLeDiff]))), rfl, HOld.refl _⟩
  | false =>
    rw [hb] at hgi
    have hnx : whN t (cls c) (gp t.gs G) st (i + 1) = whN t (cls c) (gp t.gs G) st i := by
      show whN t (cls c) (gp t.gs G) st i ++ _ = _
      rw [if_neg (by rw [hb]; decide), List.append_nil]
    repeat' (first | refine st_seq_reg rfl (by first | (simp only [go_sem, List.length_map, hbl, hgi]; rfl) | rfl) (by first | (simp only [go_sem, List.length_map, hbl, hgi]; rfl) | rfl) ?_ | refine st_reg rfl (by first | (simp only [go_sem, List.length_map, hbl, hgi]; rfl) | rfl) (by first | (simp only [go_sem, List.length_map, hbl, hgi]; rfl) | rfl) ?_ | refine st_seq_draw rfl (by first | (simp only [go_sem, List.length_map, hbl, hgi]; rfl) | rfl) (by first | (simp only [go_sem, List.length_map, hbl, hgi]; rfl) | rfl) ?_ | refine st_op ?_ | refine st_det rfl (by simp (disch := omega) only [go_sem, wr_i64, if_yes, if_no, ↓reduceIte, Nat.reduceAdd, Nat.reduceMul, Nat.reduceEqDiff, Nat.reduceBEq, Nat.reduceLeDiff, List.length_map, hbl, hgi]; rfl) ?_ | refine st_dop rfl ?_ | refine st_condF rfl ?_ | (refine st_condS rfl ?_ ?_ <;> intro hg <;> (try simp only [decide_eq_true_eq, decide_eq_false_iff_not, Bool.not_eq_true', Bool.not_eq_false'] at hg)) | refine st_nil ?_ | refine st_tN ?_ | refine st_seq ?_ | refine st_block ?_ | refine st_skip ?_ | refine st_exit ?_ | refine st_tE ?_ | refine st_bN ?_ | refine st_bH ?_)
    all_goals try (exfalso; omega)
    refine ⟨⟨i + 1, v, _⟩, (by refine ⟨by show i + 1 ≤ _; omega, by rw [hnx]; exact hS.to (fun _ _ _ _ _ => rfl) (by simp only [go_sem]; omega), fun b' hb' => i3 b' hb', i4, by simp only [go_sem]; omega⟩), by show t.rooms.length - (i + 1) < t.rooms.length - i; omega, (by repeat' (first | exact trivial | refine And.intro ?_ ?_ | rfl | (simp (disch := omega) only [go_sem, if_yes, if_no, ↓reduceIte, Nat.reduceAdd, Nat.reduceMul, Nat.reduceEqDiff, Nat.reduceBEq, Nat.reduceLeDiff]; rfl) | (simp (disch := omega) only [go_sem, if_yes, if_no, ↓reduceIte, Nat.reduceAdd, Nat.reduceMul, Nat.reduceEqDiff, Nat.reduceBEq, Nat.reduceLeDiff]))), (by repeat' (first | exact trivial | refine And.intro ?_ ?_ | rfl | (simp (disch := omega) only [go_sem, if_yes, if_no, ↓reduceIte, Nat.reduceAdd, Nat.reduceMul, Nat.reduceEqDiff, Nat.reduceBEq, Nat.reduceLeDiff]; rfl) | (simp (disch := omega) only [go_sem, if_yes, if_no, ↓reduceIte, Nat.reduceAdd, Nat.reduceMul, Nat.reduceEqDiff, Nat.reduceBEq, Nat.reduceLeDiff]))), rfl, HOld.refl _⟩
end Go.Proofs.Ythjbfdfhblloiaa
