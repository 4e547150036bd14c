/- Contracts of functions that the claim reaches: what each call gives, told in our own logic. Conditions: those of each theorem. -/
import Derived.Test.YtbbkeakbomngoaaBaseD
import Derived.Test.YtbbkeakbomngoaaG47
set_option linter.all false
set_option linter.unusedSimpArgs false
set_option linter.unusedVariables false
namespace Go.Proofs.Ytbbkeakbomngoaa
open Go.Av
attribute [local irreducible] thenA blockA awp awpOps awpD awp1
set_option maxHeartbeats 8000000
set_option maxRecDepth 20000
/-! ### Lists of numbers of one's own whose rows are one's own -/
structure LnS where
  i : Nat
  v : AV
  g : AH
  bs : Nat → Nat × Nat
def rowsN (bs : Nat → Nat × Nat) (t : List (List Int)) (i : Nat) : List (List AV) := (List.range i).map fun j => nrow (bs j) ((lel t j).map iv)
theorem rowsN_len (bs : Nat → Nat × Nat) (t : List (List Int)) (i : Nat) : (rowsN bs t i).length = i := by simp [rowsN]
theorem rowsN_next {bs bs' : Nat → Nat × Nat} {t : List (List Int)} {i : Nat} (h : ∀ j, j < i → bs' j = bs j) : rowsN bs' t (i + 1) = rowsN bs t i ++ [[.slc (bs' i) 1 0 (lel t i).length]] := by
  unfold rowsN
  rw [List.range_succ, List.map_append]
  congr 1
  · exact List.map_congr_left fun j hj => by rw [h j (List.mem_range.1 hj)]
  · simp [nrow]
/-- The rows that lie in blocks. -/
structure RowsN (n0 : Nat) (g : AH) (v : AV) (bs : Nat → Nat × Nat) (t : List (List Int)) (i : Nat) : Prop where
  at_ : ∀ j, j < i → g.at_ (bs j) = some ⟨1, (lel t j).map iv⟩
  ge : ∀ j, j < i → n0 ≤ (bs j).1
  lt : ∀ j, j < i → (bs j).1 < g.clk
  ne : ∀ j, j < i → ∀ m, v ≠ .slc (bs j) 1 0 m
  inj : ∀ j k, j < i → k < i → bs j = bs k → j = k
theorem c47n (t : List (List Int)) (h1 : t.length ≤ 1000) (h2 : ∀ x ∈ t, x.length < 1000000) (h : AH) : ACalls Try.prog 47 [.lst 1 (t.map rowA)] h (fun v h' => (∀ b' : Nat × Nat, b'.1 < h.clk → h'.at_ b' = h.at_ b') ∧ h'.lp = h.lp ∧ h.clk ≤ h'.clk ∧ ∃ bs, SlA h.clk h' v 1 (rowsN bs t t.length) ∧ RowsN h.clk h' v bs t t.length) := by
  refine ACalls.of tab mixed Try.call47 Try.func47 rfl (fi := ⟨20, [], [17], none, []⟩) rfl rfl (Nat.le_of_ble_eq_true rfl) (by decide) ?_
  unfold startA
  repeat' (first | refine st_seq_reg rfl (by first | (simp only [go_sem]; rfl) | rfl) (by first | (simp only [go_sem]; rfl) | rfl) ?_ | refine st_reg rfl (by first | (simp only [go_sem]; rfl) | rfl) (by first | (simp only [go_sem]; rfl) | rfl) ?_ | refine st_op ?_ | refine st_det rfl (by simp (disch := omega) only [go_sem, wr_i64, if_yes, if_no, ↓reduceIte, Nat.reduceAdd, Nat.reduceMul, Nat.reduceEqDiff, Nat.reduceBEq, Nat.reduceLeDiff]; rfl) ?_ | refine st_heap rfl (by simp (disch := omega) only [go_sem, wr_i64, if_yes, if_no, ↓reduceIte, Nat.reduceAdd, Nat.reduceMul, Nat.reduceEqDiff, Nat.reduceBEq, Nat.reduceLeDiff]; rfl) ?_ | refine st_append (by simp (disch := omega) only [go_sem, wr_i64, if_yes, if_no, ↓reduceIte, Nat.reduceAdd, Nat.reduceMul, Nat.reduceEqDiff, Nat.reduceBEq, Nat.reduceLeDiff]; rfl) ?_ | refine st_condT rfl ?_ | refine st_condF rfl ?_ | (refine st_condS rfl ?_ ?_ <;> intro hg <;> (try simp only [decide_eq_true_eq, decide_eq_false_iff_not, Bool.not_eq_true', Bool.not_eq_false'] at hg)) | refine st_nil ?_ | refine st_tN ?_ | refine st_seq ?_ | refine st_block ?_ | refine st_skip ?_ | refine st_exit ?_ | refine st_ret ?_ | refine st_tE ?_ | refine st_tR ?_ | refine st_bN ?_ | refine st_bR ?_ | refine st_bH ?_ | refine st_bM rfl ?_)
  refine st_loopH (α := LnS) tab mixed [] [] (by repeat (first | exact trivial | refine ⟨rfl, ?_⟩)) [] [] (by repeat (first | exact trivial | refine ⟨rfl, ?_⟩)) (fun a => [(4, .int .i64 (a.i : Nat)), (3, a.v)]) [(0, _)] (fun _ => []) [] (fun a => a.g) (fun a => a.i ≤ t.length ∧ (∀ b' : Nat × Nat, b'.1 < h.clk → a.g.at_ b' = h.at_ b') ∧ a.g.lp = h.lp ∧ h.clk ≤ a.g.clk ∧ SlA h.clk a.g a.v 1 (rowsN a.bs t a.i) ∧ RowsN h.clk a.g a.v a.bs t a.i) (fun a => t.length - a.i) (by decide) ⟨0, .nils, h, fun _ => (0, 0)⟩ ⟨Nat.zero_le _, fun _ _ => rfl, rfl, Nat.le_refl _, .inl ⟨rfl, rfl⟩, ⟨fun j hj => absurd hj (Nat.not_lt_zero _), fun j hj => absurd hj (Nat.not_lt_zero _), fun j hj => absurd hj (Nat.not_lt_zero _), fun j hj => absurd hj (Nat.not_lt_zero _), fun j k hj => absurd hj (Nat.not_lt_zero _)⟩⟩ (by (try simp only [go_sem]); repeat' (first | exact trivial | refine And.intro ?_ ?_ | rfl | (simp (disch := omega) only [go_sem, if_yes, if_no, ↓reduceIte, Nat.reduceAdd, Nat.reduceMul, Nat.reduceEqDiff, Nat.reduceBEq, Nat.reduceLeDiff]; rfl) | (simp (disch := omega) only [go_sem, if_yes, if_no, ↓reduceIte, Nat.reduceAdd, Nat.reduceMul, Nat.reduceEqDiff, Nat.reduceBEq, Nat.reduceLeDiff]))) (by (try simp only [go_sem]); repeat' (first | exact trivial | refine And.intro ?_ ?_ | rfl | (simp (disch := omega) only [go_sem, if_yes, if_no, ↓reduceIte, Nat.reduceAdd, Nat.reduceMul, Nat.reduceEqDiff, Nat.reduceBEq, Nat.reduceLeDiff]; rfl) | (simp (disch := omega) only [go_sem, if_yes, if_no, ↓reduceIte, Nat.reduceAdd, Nat.reduceMul, Nat.reduceEqDiff, Nat.reduceBEq, Nat.reduceLeDiff]))) (HOld.tick (by simp only [go_sem]; omega)) ?_
  rintro ⟨i, v, g, bs⟩ c ⟨i1, i2, i3, i4, hS, hR⟩ hc
  dsimp only at i1 i2 i3 i4 hS hR hc
  simp only [go_sem]
  by_cases hi : i < t.length
  case neg =>
    obtain rfl : i = t.length := by omega
    repeat' (first | refine st_seq_reg rfl (by first | (simp only [go_sem, List.length_map]; rfl) | rfl) (by first | (simp only [go_sem, List.length_map]; rfl) | rfl) ?_ | refine st_reg rfl (by first | (simp only [go_sem, List.length_map]; rfl) | rfl) (by first | (simp only [go_sem, List.length_map]; rfl) | rfl) ?_ | refine st_op ?_ | refine st_det rfl (by simp (disch := omega) only [go_sem, wr_i64, if_yes, if_no, ↓reduceIte, Nat.reduceAdd, Nat.reduceMul, Nat.reduceEqDiff, Nat.reduceBEq, Nat.reduceLeDiff, List.length_map]; rfl) ?_ | refine st_heap rfl (by simp (disch := omega) only [go_sem, wr_i64, if_yes, if_no, ↓reduceIte, Nat.reduceAdd, Nat.reduceMul, Nat.reduceEqDiff, Nat.reduceBEq, Nat.reduceLeDiff, List.length_map]; rfl) ?_ | refine st_append (by simp (disch := omega) only [go_sem, wr_i64, if_yes, if_no, ↓reduceIte, Nat.reduceAdd, Nat.reduceMul, Nat.reduceEqDiff, Nat.reduceBEq, Nat.reduceLeDiff, List.length_map]; rfl) ?_ | refine st_condT rfl ?_ | refine st_condF rfl ?_ | (refine st_condS rfl ?_ ?_ <;> intro hg <;> (try simp only [decide_eq_true_eq, decide_eq_false_iff_not, Bool.not_eq_true', Bool.not_eq_false'] at hg)) | refine st_nil ?_ | refine st_tN ?_ | refine st_seq ?_ | refine st_block ?_ | refine st_skip ?_ | refine st_exit ?_ | refine st_ret ?_ | refine st_tE ?_ | refine st_tR ?_ | refine st_bN ?_ | refine st_bR ?_ | refine st_bH ?_ | refine st_bM rfl ?_)
    all_goals try (exfalso; omega)
    simp (disch := omega) only [AEnd, Try.results47, aresK, fin, go_sem, ↓reduceIte, Nat.reduceEqDiff, Nat.reduceAdd, Nat.reduceLeDiff, if_yes, if_no, implies_true, true_and, and_true, List.reverse_cons, List.reverse_nil]
    refine ⟨hS.noL, i2, i3, by omega, bs, hS.to (fun _ _ _ _ _ => rfl) (by simp only [go_sem]; omega), hR.at_, hR.ge, fun j hj => by have := hR.lt j hj; simp only [go_sem]; omega, hR.ne, hR.inj⟩
  have hgx := lelR_getD hi
  have k32 := c32h (lel t i) (h2 _ (lel_mem hi))
  repeat' (first | refine st_seq_reg rfl (by first | (simp only [go_sem, List.length_map, hgx]; rfl) | rfl) (by first | (simp only [go_sem, List.length_map, hgx]; rfl) | rfl) ?_ | refine st_reg rfl (by first | (simp only [go_sem, List.length_map, hgx]; rfl) | rfl) (by first | (simp only [go_sem, List.length_map, hgx]; rfl) | rfl) ?_ | refine st_op ?_ | refine st_det rfl (by simp (disch := omega) only [go_sem, wr_i64, if_yes, if_no, ↓reduceIte, Nat.reduceAdd, Nat.reduceMul, Nat.reduceEqDiff, Nat.reduceBEq, Nat.reduceLeDiff, List.length_map, hgx]; rfl) ?_ | refine st_heap rfl (by simp (disch := omega) only [go_sem, wr_i64, if_yes, if_no, ↓reduceIte, Nat.reduceAdd, Nat.reduceMul, Nat.reduceEqDiff, Nat.reduceBEq, Nat.reduceLeDiff, List.length_map, hgx]; rfl) ?_ | refine st_append (by simp (disch := omega) only [go_sem, wr_i64, if_yes, if_no, ↓reduceIte, Nat.reduceAdd, Nat.reduceMul, Nat.reduceEqDiff, Nat.reduceBEq, Nat.reduceLeDiff, List.length_map, hgx]; rfl) ?_ | refine st_condT rfl ?_ | refine st_condF rfl ?_ | (refine st_condS rfl ?_ ?_ <;> intro hg <;> (try simp only [decide_eq_true_eq, decide_eq_false_iff_not, Bool.not_eq_true', Bool.not_eq_false'] at hg)) | refine st_nil ?_ | refine st_tN ?_ | refine st_seq ?_ | refine st_block ?_ | refine st_skip ?_ | refine st_exit ?_ | refine st_ret ?_ | refine st_tE ?_ | refine st_tR ?_ | refine st_bN ?_ | refine st_bR ?_ | refine st_bH ?_ | refine st_bM rfl ?_)
  all_goals try (exfalso; omega)
  refine st_callf rfl rfl (k32 _) ?_
  rintro v1 h' ⟨bb, n, rfl, b1, b2, rfl⟩
  simp only [go_sem] at b1
  have obb : ∀ b' : Nat × Nat, b'.1 < c → ¬ b' = bb := fun b' hb' e => by rw [e] at hb'; omega
  have hrl := rowsN_len bs t i
  repeat' (first | refine st_seq_reg rfl (by first | (simp only [go_sem, List.length_map, hgx]; rfl) | rfl) (by first | (simp only [go_sem, List.length_map, hgx]; rfl) | rfl) ?_ | refine st_reg rfl (by first | (simp only [go_sem, List.length_map, hgx]; rfl) | rfl) (by first | (simp only [go_sem, List.length_map, hgx]; rfl) | rfl) ?_ | refine st_op ?_ | refine st_det rfl (by simp (disch := omega) only [go_sem, wr_i64, if_yes, if_no, ↓reduceIte, Nat.reduceAdd, Nat.reduceMul, Nat.reduceEqDiff, Nat.reduceBEq, Nat.reduceLeDiff, List.length_map, hgx]; rfl) ?_ | refine st_heap rfl (by simp (disch := omega) only [go_sem, wr_i64, if_yes, if_no, ↓reduceIte, Nat.reduceAdd, Nat.reduceMul, Nat.reduceEqDiff, Nat.reduceBEq, Nat.reduceLeDiff, List.length_map, hgx]; rfl) ?_ | refine st_append (by simp (disch := omega) only [go_sem, wr_i64, if_yes, if_no, ↓reduceIte, Nat.reduceAdd, Nat.reduceMul, Nat.reduceEqDiff, Nat.reduceBEq, Nat.reduceLeDiff, List.length_map, hgx]; rfl) ?_ | (refine st_appS (by intro h id x y; simp only [go_sem]; rfl) rfl (by simp only [go_sem]; rfl) (by simp only [go_sem]; rfl) (by decide) hS (fun b1 m e => (by have := (hS.lt e).2.1; simp only [go_sem, obb b1 (by omega), ↓reduceIte])) (by omega) (by simp only [hrl, List.length_cons, List.length_nil, big]; omega) (by omega) (by omega) ?_; intro v' g' hA) | refine st_condT rfl ?_ | refine st_condF rfl ?_ | (refine st_condS rfl ?_ ?_ <;> intro hg <;> (try simp only [decide_eq_true_eq, decide_eq_false_iff_not, Bool.not_eq_true', Bool.not_eq_false'] at hg)) | refine st_nil ?_ | refine st_tN ?_ | refine st_seq ?_ | refine st_block ?_ | refine st_skip ?_ | refine st_exit ?_ | refine st_ret ?_ | refine st_tE ?_ | refine st_tR ?_ | refine st_bN ?_ | refine st_bR ?_ | refine st_bH ?_ | refine st_bM rfl ?_)
  all_goals try (exfalso; omega)
  have hnx := rowsN_next (bs := bs) (bs' := fun j => if j = i then bb else bs j) (t := t) (i := i) (fun j hj => if_neg (by omega))
  have hkeep : ∀ j, j < i → g'.at_ (bs j) = some ⟨1, (lel t j).map iv⟩ := fun j hj => by
    have q := hR.lt j hj
    rw [hA.keep (bs j) (hR.ne j hj) (fun e => by rw [e] at q; dsimp only at q; omega)]
    simp only [go_sem, obb (bs j) (by omega), ↓reduceIte]
    exact hR.at_ j hj
  have hbb : g'.at_ bb = some ⟨1, (lel t i).map iv⟩ := by
    rw [hA.keep bb (fun m e => by have := (hS.lt e).2.1; omega) (fun e => by rw [e] at b1; dsimp only at b1; omega)]
    simp only [go_sem, ↓reduceIte]
  have hnew : ∀ b' : Nat × Nat, (∀ m, v' = .slc b' 1 0 m → b'.1 = c + 1) := fun b' m e => by
    rcases hA.new with e' | e'
    · rw [e'] at e; cases e
    · rw [e'] at e; injection e with e1; rw [← e1]
  have hRN : ∀ N, n + 1 ≤ N → RowsN h.clk (g'.tick N) v' (fun j => if j = i then bb else bs j) t (i + 1) := fun N hN => by
    refine ⟨fun j hj => ?_, fun j hj => ?_, fun j hj => ?_, fun j hj m e => ?_, fun j k hj hk e => ?_⟩
    · show g'.at_ (if j = i then bb else bs j) = _
      by_cases q : j = i
      · rw [if_pos q, q]; exact hbb
      · rw [if_neg q]; exact hkeep j (by omega)
    · show _ ≤ (if j = i then bb else bs j).1
      by_cases q : j = i
      · rw [if_pos q]; omega
      · rw [if_neg q]; exact hR.ge j (by omega)
    · show (if j = i then bb else bs j).1 < N
      by_cases q : j = i
      · rw [if_pos q]; omega
      · rw [if_neg q]; have := hR.lt j (by omega); omega
    · have q1 := hnew _ m e
      by_cases q : j = i
      · rw [if_pos q] at q1; omega
      · rw [if_neg q] at q1; have := hR.lt j (by omega); omega
    · have e : (if j = i then bb else bs j) = (if k = i then bb else bs k) := e
      by_cases q : j = i
      · by_cases q2 : k = i
        · omega
        · rw [if_pos q, if_neg q2] at e; have := hR.lt k (by omega); rw [← e] at this; omega
      · by_cases q2 : k = i
        · rw [if_neg q, if_pos q2] at e; have := hR.lt j (by omega); rw [e] at this; omega
        · rw [if_neg q, if_neg q2] at e; exact hR.inj j k (by omega) (by omega) e
  refine ⟨⟨i + 1, v', _, fun j => if j = i then bb else bs j⟩, ⟨by show i + 1 ≤ t.length; omega, (by exact fun b' hb' => (hA.old b' hb').trans (by simp only [go_sem, obb b' (by omega), ↓reduceIte]; exact i2 b' hb')), (by exact hA.lp.trans i3), (by simp only [go_sem]; omega), (by rw [hnx, if_pos rfl]; exact hA.sl.to (fun _ _ _ _ _ => rfl) (by simp only [go_sem]; omega)), (by exact hRN _ (by omega))⟩, by show t.length - (i + 1) < t.length - i; omega, (by repeat' (first | exact trivial | refine And.intro ?_ ?_ | rfl | (simp (disch := omega) only [go_sem, if_yes, if_no, ↓reduceIte, Nat.reduceAdd, Nat.reduceMul, Nat.reduceEqDiff, Nat.reduceBEq, Nat.reduceLeDiff]; rfl) | (simp (disch := omega) only [go_sem, if_yes, if_no, ↓reduceIte, Nat.reduceAdd, Nat.reduceMul, Nat.reduceEqDiff, Nat.reduceBEq, Nat.reduceLeDiff]))), (by repeat' (first | exact trivial | refine And.intro ?_ ?_ | rfl | (simp (disch := omega) only [go_sem, if_yes, if_no, ↓reduceIte, Nat.reduceAdd, Nat.reduceMul, Nat.reduceEqDiff, Nat.reduceBEq, Nat.reduceLeDiff]; rfl) | (simp (disch := omega) only [go_sem, if_yes, if_no, ↓reduceIte, Nat.reduceAdd, Nat.reduceMul, Nat.reduceEqDiff, Nat.reduceBEq, Nat.reduceLeDiff]))), rfl, HOld.refl _⟩
theorem c47p (t : List (List Int)) (h1 : t.length ≤ 1000) (h2 : ∀ x ∈ t, x.length < 1000000) : Pure Try.prog 47 [.lst 1 (t.map rowA)] (fun v => v = .lst 1 (t.map rowA)) := by
  refine Pure.give Try.call47 fun h hall => (c47h t h1 h2 h).mono ?_
  rintro v h' ⟨q1, q2, q3, q4⟩
  exact ⟨q1, q2, SlA.ans (h := h) q4 rfl⟩
end Go.Proofs.Ytbbkeakbomngoaa
