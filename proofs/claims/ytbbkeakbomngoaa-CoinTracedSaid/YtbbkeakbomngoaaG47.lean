/- Contracts of functions that the claim reaches: what each call gives, told in our own logic. Conditions: those of each theorem. -/
import Derived.Test.YtbbkeakbomngoaaG45
import Derived.Test.YtbbkeakbomngoaaG43
set_option linter.all false
set_option linter.unusedSimpArgs false
set_option linter.unusedVariables false
namespace Go.Proofs.Ytbbkeakbomngoaa
open Go.Av
attribute [local irreducible] thenA blockA awp awpOps awpD awp1
set_option maxHeartbeats 8000000
set_option maxRecDepth 20000
/-! ### The trace is the last one of all traces, and has no flaw -/
theorem c46v (l : Lg) (t : List (List Int)) (ht : (t.length : Int) < 1000000) (hr : ∀ x ∈ t, x.length < 1000000) : Pure Try.prog 46 [l.av, .lst 1 (t.map rowA)] (fun v => v = .tup [.lst 3 ((audL l t).map Fl.row), .int .i64 (audE l t)]) := c46 l t ht hr
theorem trL_row2 {l : Lg} (hl : LgOk l) (hp : prf l = none) : ∀ x ∈ traceL l, x.length ≤ 8 := fun x hx => by
  obtain ⟨i, _, rfl⟩ := List.mem_map.1 hx
  unfold rowN
  have := hl.fn
  rw [List.length_take]; omega
theorem law11 (l : List Int) (hl : (l.length : Int) ≤ 9223372036854775807) (h : AH) : ACalls Try.prog 11 [.lst 1 (l.map iv)] h (fun v _ => v = .bool true) := by
  refine ACalls.of tab mixed Try.call11 Try.func11 rfl (fi := ⟨62, [3], [], none, []⟩) rfl rfl (Nat.le_of_ble_eq_true rfl) (by decide) ?_
  unfold startA
  repeat' (first | refine st_seq_reg rfl (by first | (simp only [go_sem, List.length_map]; rfl) | rfl) (by first | (simp only [go_sem, List.length_map]; rfl) | rfl) ?_ | refine st_reg rfl (by first | (simp only [go_sem, List.length_map]; rfl) | rfl) (by first | (simp only [go_sem, List.length_map]; rfl) | rfl) ?_ | refine st_op ?_ | refine st_det rfl (by simp (disch := omega) only [go_sem, wr_i64, if_yes, if_no, ↓reduceIte, Nat.reduceAdd, Nat.reduceMul, Nat.reduceEqDiff, Nat.reduceBEq, Nat.reduceLeDiff, List.length_map]; rfl) ?_ | refine st_loc rfl (by simp (disch := omega) only [go_sem, wr_i64, if_yes, if_no, ↓reduceIte, Nat.reduceAdd, Nat.reduceMul, Nat.reduceEqDiff, Nat.reduceBEq, Nat.reduceLeDiff, List.length_map]; rfl) ?_ | refine st_heap rfl (by simp (disch := omega) only [go_sem, wr_i64, if_yes, if_no, ↓reduceIte, Nat.reduceAdd, Nat.reduceMul, Nat.reduceEqDiff, Nat.reduceBEq, Nat.reduceLeDiff, List.length_map]; rfl) ?_ | refine st_store (by simp (disch := omega) only [go_sem, wr_i64, if_yes, if_no, ↓reduceIte, Nat.reduceAdd, Nat.reduceMul, Nat.reduceEqDiff, Nat.reduceBEq, Nat.reduceLeDiff, List.length_map]; rfl) ?_ | (refine st_callf rfl rfl (c16 l hl _) ?_; rintro v h' ⟨b, x0, n, rfl, hb1, hb2, hu0, rfl⟩) | (refine st_drum (by first | (simp (disch := omega) only [go_sem, List.length_map]; rfl) | rfl) rfl (c17 b 3 3 4 (by omega) (by omega) (by omega)) (by first | (simp (disch := omega) only [go_sem, List.length_map]; rfl) | rfl) (by assumption) (by first | (simp only [go_sem, List.length_map]; rfl) | rfl) (by intro x' n; simp (disch := omega) only [go_sem]; rfl) ?_; rintro v x' n hu' ⟨lg, rfl, hlg⟩ hn) | refine st_gT rfl rfl rfl ?_ | refine st_gF rfl rfl rfl ?_ | (refine st_gS rfl rfl ?_ ?_ <;> intro hg <;> (try simp only [decide_eq_true_eq, decide_eq_false_iff_not, Bool.not_eq_true', Bool.not_eq_false'] at hg)) | refine st_condT rfl ?_ | refine st_condF rfl ?_ | (refine st_condS rfl ?_ ?_ <;> intro hg <;> (try simp only [decide_eq_true_eq, decide_eq_false_iff_not, Bool.not_eq_true', Bool.not_eq_false'] at hg)) | refine st_nil ?_ | refine st_tN ?_ | refine st_seq ?_ | refine st_skip ?_ | refine st_ret ?_ | refine st_tE ?_ | refine st_tR ?_)
  all_goals try (exfalso; omega)
  have h0 := chkE_good hlg (by omega) (by omega) (by omega)
  have hk := ledgerOk h0
  have hfn : (lg.fs.length : Int) ≤ 3 := hlg.fn
  have hbn : (lg.bs.length : Int) ≤ 3 := hlg.bn
  have hC : ∀ i, i < lg.bs.length → (bl lg.bs i).amt ≤ (4 : Nat) := fun i hi => (hlg.b _ (bl_mem hi)).amt.2
  have k41 := c41 lg 4 hk hC (by omega) (by omega) (by omega)
  have hxl := allL_len hC (by omega) (by omega)
  by_cases hp : prf lg = none
  case neg =>
    have k21 := c21no h0 hp
    have hX : allL lg = [] := List.eq_nil_iff_forall_not_mem.2 fun x hx => hp (none_of_valid hk ((allL_valid hk).1 hx))
    rw [hX] at k41
    repeat' (first | refine st_seq_reg rfl (by first | (simp only [go_sem, List.length_map]; rfl) | rfl) (by first | (simp only [go_sem, List.length_map]; rfl) | rfl) ?_ | refine st_reg rfl (by first | (simp only [go_sem, List.length_map]; rfl) | rfl) (by first | (simp only [go_sem, List.length_map]; rfl) | rfl) ?_ | refine st_op ?_ | refine st_det rfl (by simp (disch := omega) only [go_sem, wr_i64, if_yes, if_no, ↓reduceIte, Nat.reduceAdd, Nat.reduceMul, Nat.reduceEqDiff, Nat.reduceBEq, Nat.reduceLeDiff, List.length_map]; rfl) ?_ | refine st_loc rfl (by simp (disch := omega) only [go_sem, wr_i64, if_yes, if_no, ↓reduceIte, Nat.reduceAdd, Nat.reduceMul, Nat.reduceEqDiff, Nat.reduceBEq, Nat.reduceLeDiff, List.length_map]; rfl) ?_ | refine st_heap rfl (by simp (disch := omega) only [go_sem, wr_i64, if_yes, if_no, ↓reduceIte, Nat.reduceAdd, Nat.reduceMul, Nat.reduceEqDiff, Nat.reduceBEq, Nat.reduceLeDiff, List.length_map]; rfl) ?_ | refine st_store (by simp (disch := omega) only [go_sem, wr_i64, if_yes, if_no, ↓reduceIte, Nat.reduceAdd, Nat.reduceMul, Nat.reduceEqDiff, Nat.reduceBEq, Nat.reduceLeDiff, List.length_map]; rfl) ?_ | (refine st_pureE (by first | (simp (disch := omega) only [go_sem, List.length_map]; rfl) | rfl) rfl (k21) (by first | (simp only [go_sem, List.length_map]; rfl) | rfl) (by intro n; simp (disch := omega) only [go_sem]; rfl) ?_; intro n hn) | (refine st_pureE (by first | (simp (disch := omega) only [go_sem, List.length_map]; rfl) | rfl) rfl (k41) (by first | (simp only [go_sem, List.length_map]; rfl) | rfl) (by intro n; simp (disch := omega) only [go_sem]; rfl) ?_; intro n hn) | (refine st_pureE (by first | (simp (disch := omega) only [go_sem, List.length_map]; rfl) | rfl) rfl (c15) (by first | (simp only [go_sem, List.length_map]; rfl) | rfl) (by intro n; simp (disch := omega) only [go_sem]; rfl) ?_; intro n hn) | refine st_gT rfl rfl rfl ?_ | refine st_gF rfl rfl rfl ?_ | (refine st_gS rfl rfl ?_ ?_ <;> intro hg <;> (try simp only [decide_eq_true_eq, decide_eq_false_iff_not, Bool.not_eq_true', Bool.not_eq_false'] at hg)) | refine st_condT rfl ?_ | refine st_condF rfl ?_ | (refine st_condS rfl ?_ ?_ <;> intro hg <;> (try simp only [decide_eq_true_eq, decide_eq_false_iff_not, Bool.not_eq_true', Bool.not_eq_false'] at hg)) | refine st_nil ?_ | refine st_tN ?_ | refine st_seq ?_ | refine st_skip ?_ | refine st_ret ?_ | refine st_tE ?_ | refine st_tR ?_)
    all_goals try (exfalso; omega)
    simp (disch := omega) only [AEnd, Try.results11, aresK, fin, go_sem, ↓reduceIte, Nat.reduceEqDiff, Nat.reduceAdd, Nat.reduceLeDiff, if_yes, if_no, implies_true, true_and, and_true, List.reverse_cons, List.reverse_nil]
    exact ⟨rfl, rfl⟩
  have k21 := c21ok h0 hp
  have hv := trace_valid hk hp
  have hT := valid_tab hk hv
  have hvl := hv.len
  have k46 := c46v lg (traceL lg) (by omega) (fun x hx => by
    obtain ⟨i, hi, e⟩ := List.mem_iff_getElem.1 hx
    have := (hv.row i (by omega)).len
    unfold lel at this
    rw [List.getD_eq_getElem?_getD, List.getElem?_eq_getElem hi] at this
    have this' : ((traceL lg)[i]).length = lg.fs.length := this
    rw [← e]; omega)
  have hE := hT.of h0
  have hA : audL lg (traceL lg) = [] := by unfold audL; rw [hE, if_neg (by decide)]; exact (flL_nil hT).2 hv
  rw [hE, hA] at k46
  have hla := allL_last hk hp
  have hmem := (allL_valid hk).2 hv
  have hX : 0 < (allL lg).length := List.length_pos_of_mem hmem
  have hlast : lelT (allL lg) ((allL lg).length - 1) = traceL lg := by
    unfold lelT
    rw [List.getLast?_eq_getElem?] at hla
    rw [List.getD_eq_getElem?_getD, hla]; rfl
  have hgx := rowT_getD (l := allL lg) (i := (allL lg).length - 1) (by omega)
  rw [hlast] at hgx
  have k29 := c29 (traceL lg) (traceL lg) (by omega) (by omega) (fun x hx => by have := trL_row2 hk hp x hx; omega) (fun x hx => by have := trL_row2 hk hp x hx; omega)
  rw [decide_eq_true rfl] at k29
  have hint : ((allL lg).length : Int) - 1 = (((allL lg).length - 1 : Nat) : Int) := by omega
  generalize allL lg = XS at *
  repeat' (first | refine st_seq_reg rfl (by first | (simp only [go_sem, List.length_map, hint, hgx]; rfl) | rfl) (by first | (simp only [go_sem, List.length_map, hint, hgx]; rfl) | rfl) ?_ | refine st_reg rfl (by first | (simp only [go_sem, List.length_map, hint, hgx]; rfl) | rfl) (by first | (simp only [go_sem, List.length_map, hint, hgx]; rfl) | rfl) ?_ | refine st_op ?_ | refine st_det rfl (by simp (disch := omega) only [go_sem, wr_i64, if_yes, if_no, ↓reduceIte, Nat.reduceAdd, Nat.reduceMul, Nat.reduceEqDiff, Nat.reduceBEq, Nat.reduceLeDiff, List.length_map, hint, hgx]; rfl) ?_ | refine st_loc rfl (by simp (disch := omega) only [go_sem, wr_i64, if_yes, if_no, ↓reduceIte, Nat.reduceAdd, Nat.reduceMul, Nat.reduceEqDiff, Nat.reduceBEq, Nat.reduceLeDiff, List.length_map, hint, hgx]; rfl) ?_ | refine st_heap rfl (by simp (disch := omega) only [go_sem, wr_i64, if_yes, if_no, ↓reduceIte, Nat.reduceAdd, Nat.reduceMul, Nat.reduceEqDiff, Nat.reduceBEq, Nat.reduceLeDiff, List.length_map, hint, hgx]; rfl) ?_ | refine st_store (by simp (disch := omega) only [go_sem, wr_i64, if_yes, if_no, ↓reduceIte, Nat.reduceAdd, Nat.reduceMul, Nat.reduceEqDiff, Nat.reduceBEq, Nat.reduceLeDiff, List.length_map, hint, hgx]; rfl) ?_ | (refine st_pureE (by first | (simp (disch := omega) only [go_sem, List.length_map, hint, hgx]; rfl) | rfl) rfl (k21) (by first | (simp only [go_sem, List.length_map, hint, hgx]; rfl) | rfl) (by intro n; simp (disch := omega) only [go_sem]; rfl) ?_; intro n hn) | (refine st_pureE (by first | (simp (disch := omega) only [go_sem, List.length_map, hint, hgx]; rfl) | rfl) rfl (k41) (by first | (simp only [go_sem, List.length_map, hint, hgx]; rfl) | rfl) (by intro n; simp (disch := omega) only [go_sem]; rfl) ?_; intro n hn) | (refine st_pureE (by first | (simp (disch := omega) only [go_sem, List.length_map, hint, hgx]; rfl) | rfl) rfl (k46) (by first | (simp only [go_sem, List.length_map, hint, hgx]; rfl) | rfl) (by intro n; simp (disch := omega) only [go_sem]; rfl) ?_; intro n hn) | (refine st_pureE (by first | (simp (disch := omega) only [go_sem, List.length_map, hint, hgx]; rfl) | rfl) rfl (k29) (by first | (simp only [go_sem, List.length_map, hint, hgx]; rfl) | rfl) (by intro n; simp (disch := omega) only [go_sem]; rfl) ?_; intro n hn) | (refine st_pureE (by first | (simp (disch := omega) only [go_sem, List.length_map, hint, hgx]; rfl) | rfl) rfl (c15) (by first | (simp only [go_sem, List.length_map, hint, hgx]; rfl) | rfl) (by intro n; simp (disch := omega) only [go_sem]; rfl) ?_; intro n hn) | refine st_gT rfl rfl rfl ?_ | refine st_gF rfl rfl rfl ?_ | (refine st_gS rfl rfl ?_ ?_ <;> intro hg <;> (try simp only [decide_eq_true_eq, decide_eq_false_iff_not, Bool.not_eq_true', Bool.not_eq_false'] at hg)) | refine st_condT rfl ?_ | refine st_condF rfl ?_ | (refine st_condS rfl ?_ ?_ <;> intro hg <;> (try simp only [decide_eq_true_eq, decide_eq_false_iff_not, Bool.not_eq_true', Bool.not_eq_false'] at hg)) | refine st_nil ?_ | refine st_tN ?_ | refine st_seq ?_ | refine st_skip ?_ | refine st_ret ?_ | refine st_tE ?_ | refine st_tR ?_)
  all_goals try (exfalso; omega)
  simp (disch := omega) only [AEnd, Try.results11, aresK, fin, go_sem, ↓reduceIte, Nat.reduceEqDiff, Nat.reduceAdd, Nat.reduceLeDiff, if_yes, if_no, implies_true, true_and, and_true, List.reverse_cons, List.reverse_nil]
end Go.Proofs.Ytbbkeakbomngoaa
