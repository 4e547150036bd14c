/- Contracts of functions that the claim reaches: what each call gives, told in our own logic. Conditions: those of each theorem. -/
import Derived.Test.YtkjpceapflhmnaaF4
set_option linter.all false
set_option linter.unusedSimpArgs false
set_option linter.unusedVariables false
namespace Go.Proofs.Ytkjpceapflhmnaa
open Go.Av
attribute [local irreducible] thenA blockA awp awpOps awpD awp1
set_option maxHeartbeats 8000000
set_option maxRecDepth 20000
theorem take_ld {α : Type} {l : List α} {i : Nat} (d : α) (h : i < l.length) (f : α → Int) : ((l.take (i + 1)).map f).sum = ((l.take i).map f).sum + f (l.getD i d) := by
  rw [List.take_succ_eq_append_getElem h, List.map_append, List.sum_append, List.getD_eq_getElem?_getD, List.getElem?_eq_getElem h]; simp
@[go_sem] theorem wl_nil (arm : Int → Int) (s : Int) : wl arm s [] = s := by simp [wl]
@[go_sem] theorem wh_nil (arm : Int → Int) (s : Int) : wh arm s [] = s := by simp [wh]
theorem wl_step {arm : Int → Int} {s : Int} {l : List Ld} {i : Nat} (h : i < l.length) : wl arm s (l.take (i + 1)) = wl arm s (l.take i) + (ld l i).lo * arm (ld l i).at_ := by
  unfold wl; rw [take_ld ⟨0, 0, 0, 0, 0, 0, 0⟩ h]; unfold ld; omega
theorem wh_step {arm : Int → Int} {s : Int} {l : List Ld} {i : Nat} (h : i < l.length) : wh arm s (l.take (i + 1)) = wh arm s (l.take i) + (ld l i).hi * arm (ld l i).at_ := by
  unfold wh; rw [take_ld ⟨0, 0, 0, 0, 0, 0, 0⟩ h]; unfold ld; omega
theorem w_bd {arm : Int → Int} {s : Int} {l : List Ld} (hl : ∀ x ∈ l, LdOk x) (hb : ∀ a, 0 ≤ a → a ≤ 3000 → -3000 ≤ arm a ∧ arm a ≤ 3000) : ∀ i ≤ l.length,
    (s - 300000000 * i ≤ wl arm s (l.take i) ∧ wl arm s (l.take i) ≤ s + 300000000 * i) ∧ (s - 300000000 * i ≤ wh arm s (l.take i) ∧ wh arm s (l.take i) ≤ s + 300000000 * i) := by
  intro i
  induction i with
  | zero => intro _; simp [wl, wh]
  | succ i ih =>
    intro hi
    have h0 := ih (by omega)
    rw [wl_step (by omega), wh_step (by omega)]
    have hx := hl _ (ld_mem (l := l) (i := i) (by omega))
    unfold LdOk at hx
    have := hb _ hx.1 hx.2.1
    have h1 := mul_bd (k := (ld l i).lo) (K := 100000) (A := 3000) (by omega) this
    have h2 := mul_bd (k := (ld l i).hi) (K := 100000) (A := 3000) (by omega) this
    omega
theorem c109 (f : Fl) (p m : Int) (g : FuncId) (cap : List AV) (arm : Int → Int) (hf : FlOk f) (hp : 0 ≤ p ∧ p ≤ 3000) (hm : 0 ≤ m ∧ m ≤ 100000)
    (ha : ∀ a, 0 ≤ a → a ≤ 3000 → Pure Try.prog g (([] ++ [.int .i64 a]) ++ cap) (fun v => v = .int .i64 (arm a))) (hb : ∀ a, 0 ≤ a → a ≤ 3000 → -3000 ≤ arm a ∧ arm a ≤ 3000) :
    Pure Try.prog 109 [Tk.av f p m, .fn (.func g) [] cap] (fun v => v = .agg [.int .i64 (wl arm (f.kilos * arm f.mid + m * arm p) f.loads), .int .i64 (wh arm (f.kilos * arm f.mid + m * arm p) f.loads)]) := by
  have h1 := hf.len; have h2 := hf.mid; have h3 := hf.kilos; have h4 := hf.loads.1
  have m1 := mul_bd h3 (hb f.mid (by omega) (by omega))
  have m2 := mul_bd hm (hb p (by omega) (by omega))
  have wb := fun i hi => w_bd (s := f.kilos * arm f.mid + m * arm p) hf.loads.2 hb i hi
  have e1 : ∀ i, i < f.loads.length → _ := fun i h => wl_step (arm := arm) (s := f.kilos * arm f.mid + m * arm p) h
  have e2 : ∀ i, i < f.loads.length → _ := fun i h => wh_step (arm := arm) (s := f.kilos * arm f.mid + m * arm p) h
  intro h
  refine ACalls.forget (ACalls.of tab mixed Try.call109 Try.func109 rfl (fi := ⟨65, [4, 6, 8], [2, 25, 48, 60], none, [(1, [0, 1, 3, 0, 0, 16, 48, 120, 255, 0, 512, 0, 0, 4096, 14584, 32504, 65535, 131071, 262143], [(0, false), (1, false), (2, true), (3, false), (4, false), (5, false), (6, true), (9, false), (10, true), (11, false), (12, false), (13, true), (7, false), (8, false), (14, false), (15, false), (16, false), (17, false), (18, false)]), (6, [0, 1, 0, 4, 12, 0, 0, 64, 224, 508, 1023, 2047, 0, 4096, 0, 16384, 49152, 0, 0, 262144, 921599, 2084863, 4194303, 8388607, 16777215, 33554431], [(0, false), (1, true), (2, false), (3, false), (4, true), (5, false), (6, false), (7, true), (12, false), (13, true), (14, false), (15, false), (16, true), (17, false), (18, false), (19, true), (8, false), (9, false), (10, false), (11, false), (20, false), (21, false), (22, false), (23, false), (24, false), (25, false)])]⟩) rfl rfl (Nat.le_of_ble_eq_true rfl) (by decide) ?_)
  unfold startA
  simp only [go_sem]
  repeat' (first
      | refine st_seq_reg rfl (by first | (simp only [go_sem]; rfl) | rfl) (by first | (simp only [go_sem]; rfl) | rfl) ?_
      | refine st_reg rfl (by first | (simp only [go_sem]; rfl) | rfl) (by first | (simp only [go_sem]; rfl) | rfl) ?_
      | refine st_seq_draw rfl (by first | (simp only [go_sem]; rfl) | rfl) (by first | (simp only [go_sem]; rfl) | rfl) ?_
      | refine st_draw rfl (by first | (simp only [go_sem]; rfl) | rfl) (by first | (simp only [go_sem]; rfl) | rfl) ?_
      | refine st_op ?_
      | refine st_det rfl (by simp (disch := omega) only [go_sem, wr_i64, if_yes, if_no, ↓reduceIte, Nat.reduceAdd, Nat.reduceMul, Nat.reduceEqDiff, Nat.reduceBEq, Nat.reduceLeDiff]; rfl) ?_
      | refine st_dop rfl ?_
      | refine st_loc rfl (by simp (disch := omega) only [go_sem, wr_i64, if_yes, if_no, ↓reduceIte, Nat.reduceAdd, Nat.reduceMul, Nat.reduceEqDiff, Nat.reduceBEq, Nat.reduceLeDiff]; rfl) ?_
      | refine st_heap rfl (by simp (disch := omega) only [go_sem, wr_i64, if_yes, if_no, ↓reduceIte, Nat.reduceAdd, Nat.reduceMul, Nat.reduceEqDiff, Nat.reduceBEq, Nat.reduceLeDiff]; rfl) ?_
      | refine st_store (by simp (disch := omega) only [go_sem, wr_i64, if_yes, if_no, ↓reduceIte, Nat.reduceAdd, Nat.reduceMul, Nat.reduceEqDiff, Nat.reduceBEq, Nat.reduceLeDiff]; rfl) ?_
      | refine st_append (by simp (disch := omega) only [go_sem, wr_i64, if_yes, if_no, ↓reduceIte, Nat.reduceAdd, Nat.reduceMul, Nat.reduceEqDiff, Nat.reduceBEq, Nat.reduceLeDiff]; rfl) ?_
      | (refine st_pureV (by first | (simp only [go_sem]; rfl) | rfl) (by first | (simp (disch := omega) only [go_sem]; rfl) | rfl) rfl (ha _ (by omega) (by omega)) (by first | (simp only [go_sem]; rfl) | rfl) (by intro n; simp (disch := omega) only [go_sem]; rfl) ?_; intro v n hv hn; subst hv)
      | (refine st_pureE (by first | (simp (disch := omega) only [go_sem]; rfl) | rfl) rfl (sum2 _ _ (by omega) (by omega)) (by first | (simp only [go_sem]; rfl) | rfl) (by intro n; simp (disch := omega) only [go_sem]; rfl) ?_; intro n hn)
      | refine st_gT rfl rfl rfl ?_
      | refine st_gF rfl rfl rfl ?_
      | refine st_dgT rfl rfl rfl rfl ?_
      | refine st_dgF rfl rfl rfl ?_
      | (refine st_gS rfl rfl ?_ ?_ <;> intro hg <;> (try simp only [decide_eq_true_eq, decide_eq_false_iff_not, Bool.not_eq_true', Bool.not_eq_false'] at hg))
      | (refine st_dgS rfl rfl ?_ ?_ <;> intro hg <;> (try simp only [decide_eq_true_eq, decide_eq_false_iff_not, Bool.not_eq_true', Bool.not_eq_false'] at hg))
      | refine st_condT rfl ?_
      | refine st_condF rfl ?_
      | (refine st_condS rfl ?_ ?_ <;> intro hg <;> (try simp only [decide_eq_true_eq, decide_eq_false_iff_not, Bool.not_eq_true', Bool.not_eq_false'] at hg))
      | refine st_nil ?_
      | refine st_dnil ?_
      | refine st_tN ?_
      | refine st_seq ?_
      | refine st_block ?_
      | refine st_skip ?_
      | refine st_exit ?_
      | refine st_ret ?_
      | refine st_tE ?_
      | refine st_tR ?_
      | refine st_bN ?_
      | refine st_bR ?_
      | refine st_bH ?_
      | refine st_bM rfl ?_)
  refine st_loopC (α := Nat) tab mixed [6] [_] (by repeat (first | exact trivial | refine ⟨rfl, ?_⟩)) [4] [_] (by repeat (first | exact trivial | refine ⟨rfl, ?_⟩)) (fun i => [(34, .int .i64 i)]) [(1, _), (2, _), (4, _), (6, _), (32, _), (33, _)] (fun i => [[.int .i64 (wl arm (f.kilos * arm f.mid + m * arm p) (f.loads.take i)), .int .i64 (wh arm (f.kilos * arm f.mid + m * arm p) (f.loads.take i))]]) [_] (fun i => i ≤ f.loads.length) (fun i => f.loads.length - i) (by decide) 0 (by omega) (by (try simp only [go_sem]); repeat' (first | exact trivial | refine And.intro ?_ ?_ | rfl | (simp (disch := omega) only [go_sem, if_yes, if_no, ↓reduceIte, Nat.reduceAdd, Nat.reduceMul, Nat.reduceEqDiff, Nat.reduceBEq, Nat.reduceLeDiff]; rfl) | (simp (disch := omega) only [go_sem, if_yes, if_no, ↓reduceIte, Nat.reduceAdd, Nat.reduceMul, Nat.reduceEqDiff, Nat.reduceBEq, Nat.reduceLeDiff]))) (by (try simp only [go_sem]); repeat' (first | exact trivial | refine And.intro ?_ ?_ | rfl | (simp (disch := omega) only [go_sem, if_yes, if_no, ↓reduceIte, Nat.reduceAdd, Nat.reduceMul, Nat.reduceEqDiff, Nat.reduceBEq, Nat.reduceLeDiff]; rfl) | (simp (disch := omega) only [go_sem, if_yes, if_no, ↓reduceIte, Nat.reduceAdd, Nat.reduceMul, Nat.reduceEqDiff, Nat.reduceBEq, Nat.reduceLeDiff]))) (by first | (simp only [go_sem]; rfl) | rfl) (by intro n; simp only [go_sem]; rfl) ?_
  rintro i c hi' hc
  simp only [go_sem]
  have w1 := wb i hi'
  have hx : i < f.loads.length → LdOk (ld f.loads i) := fun h => hf.loads.2 _ (ld_mem h)
  have w2 : i < f.loads.length → _ := fun h => mul_bd (k := (ld f.loads i).lo) (K := 100000) ⟨(hx h).2.2.1, by have := hx h; unfold LdOk at this; omega⟩ (hb (ld f.loads i).at_ (hx h).1 (hx h).2.1)
  have w3 : i < f.loads.length → _ := fun h => mul_bd (k := (ld f.loads i).hi) (K := 100000) ⟨(by have := hx h; unfold LdOk at this; omega), (hx h).2.2.2.2⟩ (hb (ld f.loads i).at_ (hx h).1 (hx h).2.1)
  have w4 : i < f.loads.length → 0 ≤ (ld f.loads i).at_ ∧ (ld f.loads i).at_ ≤ 3000 := fun h => ⟨(hx h).1, (hx h).2.1⟩
  repeat' (first
      | refine st_seq_reg rfl (by first | (simp only [go_sem]; rfl) | rfl) (by first | (simp only [go_sem]; rfl) | rfl) ?_
      | refine st_reg rfl (by first | (simp only [go_sem]; rfl) | rfl) (by first | (simp only [go_sem]; rfl) | rfl) ?_
      | refine st_seq_draw rfl (by first | (simp only [go_sem]; rfl) | rfl) (by first | (simp only [go_sem]; rfl) | rfl) ?_
      | refine st_draw rfl (by first | (simp only [go_sem]; rfl) | rfl) (by first | (simp only [go_sem]; rfl) | rfl) ?_
      | refine st_op ?_
      | refine st_det rfl (by simp (disch := omega) only [go_sem, wr_i64, if_yes, if_no, ↓reduceIte, Nat.reduceAdd, Nat.reduceMul, Nat.reduceEqDiff, Nat.reduceBEq, Nat.reduceLeDiff]; rfl) ?_
      | refine st_dop rfl ?_
      | refine st_loc rfl (by simp (disch := omega) only [go_sem, wr_i64, if_yes, if_no, ↓reduceIte, Nat.reduceAdd, Nat.reduceMul, Nat.reduceEqDiff, Nat.reduceBEq, Nat.reduceLeDiff]; rfl) ?_
      | refine st_heap rfl (by simp (disch := omega) only [go_sem, wr_i64, if_yes, if_no, ↓reduceIte, Nat.reduceAdd, Nat.reduceMul, Nat.reduceEqDiff, Nat.reduceBEq, Nat.reduceLeDiff]; rfl) ?_
      | refine st_store (by simp (disch := omega) only [go_sem, wr_i64, if_yes, if_no, ↓reduceIte, Nat.reduceAdd, Nat.reduceMul, Nat.reduceEqDiff, Nat.reduceBEq, Nat.reduceLeDiff]; rfl) ?_
      | refine st_append (by simp (disch := omega) only [go_sem, wr_i64, if_yes, if_no, ↓reduceIte, Nat.reduceAdd, Nat.reduceMul, Nat.reduceEqDiff, Nat.reduceBEq, Nat.reduceLeDiff]; rfl) ?_
      | (refine st_pureV (by first | (simp only [go_sem]; rfl) | rfl) (by first | (simp (disch := omega) only [go_sem]; rfl) | rfl) rfl (ha _ (by omega) (by omega)) (by first | (simp only [go_sem]; rfl) | rfl) (by intro n; simp (disch := omega) only [go_sem]; rfl) ?_; intro v n hv hn; subst hv)
      | (refine st_pureE (by first | (simp (disch := omega) only [go_sem]; rfl) | rfl) rfl (sum2 _ _ (by omega) (by omega)) (by first | (simp only [go_sem]; rfl) | rfl) (by intro n; simp (disch := omega) only [go_sem]; rfl) ?_; intro n hn)
      | refine st_gT rfl rfl rfl ?_
      | refine st_gF rfl rfl rfl ?_
      | refine st_dgT rfl rfl rfl rfl ?_
      | refine st_dgF rfl rfl rfl ?_
      | (refine st_gS rfl rfl ?_ ?_ <;> intro hg <;> (try simp only [decide_eq_true_eq, decide_eq_false_iff_not, Bool.not_eq_true', Bool.not_eq_false'] at hg))
      | (refine st_dgS rfl rfl ?_ ?_ <;> intro hg <;> (try simp only [decide_eq_true_eq, decide_eq_false_iff_not, Bool.not_eq_true', Bool.not_eq_false'] at hg))
      | refine st_condT rfl ?_
      | refine st_condF rfl ?_
      | (refine st_condS rfl ?_ ?_ <;> intro hg <;> (try simp only [decide_eq_true_eq, decide_eq_false_iff_not, Bool.not_eq_true', Bool.not_eq_false'] at hg))
      | refine st_nil ?_
      | refine st_dnil ?_
      | refine st_tN ?_
      | refine st_seq ?_
      | refine st_block ?_
      | refine st_skip ?_
      | refine st_exit ?_
      | refine st_ret ?_
      | refine st_tE ?_
      | refine st_tR ?_
      | refine st_bN ?_
      | refine st_bR ?_
      | refine st_bH ?_
      | refine st_bM rfl ?_)
  · refine ⟨i + 1, (by omega), by omega, (by (try (rw [e1 i (by omega), e2 i (by omega)])); repeat' (first | exact trivial | refine And.intro ?_ ?_ | rfl | (simp (disch := omega) only [go_sem, if_yes, if_no, ↓reduceIte, Nat.reduceAdd, Nat.reduceMul, Nat.reduceEqDiff, Nat.reduceBEq, Nat.reduceLeDiff]; rfl) | (simp (disch := omega) only [go_sem, if_yes, if_no, ↓reduceIte, Nat.reduceAdd, Nat.reduceMul, Nat.reduceEqDiff, Nat.reduceBEq, Nat.reduceLeDiff]))), (by (try (rw [e1 i (by omega), e2 i (by omega)])); repeat' (first | exact trivial | refine And.intro ?_ ?_ | rfl | (simp (disch := omega) only [go_sem, if_yes, if_no, ↓reduceIte, Nat.reduceAdd, Nat.reduceMul, Nat.reduceEqDiff, Nat.reduceBEq, Nat.reduceLeDiff]; rfl) | (simp (disch := omega) only [go_sem, if_yes, if_no, ↓reduceIte, Nat.reduceAdd, Nat.reduceMul, Nat.reduceEqDiff, Nat.reduceBEq, Nat.reduceLeDiff]))), rfl, HOld.of _ (by omega)⟩
  · rw [List.take_of_length_le (by omega)]
    simp (disch := omega) only [AEnd, Try.results109, aresK, fin, go_sem, ↓reduceIte, Nat.reduceEqDiff, Nat.reduceAdd, Nat.reduceLeDiff, if_yes, if_no, implies_true, true_and, and_true, List.reverse_cons, List.reverse_nil]
end Go.Proofs.Ytkjpceapflhmnaa
