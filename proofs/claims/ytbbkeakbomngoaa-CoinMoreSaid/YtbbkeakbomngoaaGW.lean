/- Contracts of functions that the claim reaches: what each call gives, told in our own logic. Conditions: those of each theorem. -/
import Derived.Test.YtbbkeakbomngoaaG17
set_option linter.all false
set_option linter.unusedSimpArgs false
set_option linter.unusedVariables false
namespace Go.Proofs.Ytbbkeakbomngoaa
open Go.Av
attribute [local irreducible] thenA blockA awp awpOps awpD awp1
set_option maxHeartbeats 8000000
set_option maxRecDepth 20000
/-! ### A ledger of one's own -/
structure LwS where
  i : Nat
  v : AV
  g : AH
structure Small (l : Lg) : Prop where
  f : l.fs.length ≤ 1000
  b : l.bs.length ≤ 1000
  u : ∀ x ∈ l.fs, x.uses.length ≤ 1000
theorem c19h (l : Lg) (hs : Small l) (h : AH) : ACalls Try.prog 19 [l.av] h (fun v h' => ∃ fv bb, v = .agg [fv, .slc bb 3 0 l.bs.length] ∧ (∀ b' : Nat × Nat, b'.1 < h.clk → h'.at_ b' = h.at_ b') ∧ h'.lp = h.lp ∧ h'.at_ bb = some ⟨3, l.bs.map Bl.row⟩ ∧ h.clk ≤ bb.1 ∧ bb.1 < h'.clk ∧ Sl h h' fv 4 (l.fs.map Fd.row) ∧ (∀ b1 m, fv = .slc b1 4 0 m → b1 ≠ bb)) := by
  have h1 := hs.f
  have h2 := hs.b
  refine ACalls.of tab mixed Try.call19 Try.func19 rfl (fi := ⟨34, [2, 3, 5], [1, 30], none, []⟩) rfl rfl (Nat.le_of_ble_eq_true rfl) (by decide) ?_
  unfold startA
  repeat' (first
      | refine st_seq_reg rfl (by first | (simp only [go_sem, List.length_map, big, Nat.zero_add]; rfl) | rfl) (by first | (simp only [go_sem, List.length_map, big, Nat.zero_add]; rfl) | rfl) ?_
      | refine st_reg rfl (by first | (simp only [go_sem, List.length_map, big, Nat.zero_add]; rfl) | rfl) (by first | (simp only [go_sem, List.length_map, big, Nat.zero_add]; rfl) | rfl) ?_
      | refine st_seq_draw rfl (by first | (simp only [go_sem, List.length_map, big, Nat.zero_add]; rfl) | rfl) (by first | (simp only [go_sem, List.length_map, big, Nat.zero_add]; rfl) | rfl) ?_
      | refine st_draw rfl (by first | (simp only [go_sem, List.length_map, big, Nat.zero_add]; rfl) | rfl) (by first | (simp only [go_sem, List.length_map, big, Nat.zero_add]; rfl) | rfl) ?_
      | refine st_op ?_
      | refine st_det rfl (by simp (disch := omega) only [go_sem, wr_i64, if_yes, if_no, ↓reduceIte, Nat.reduceAdd, Nat.reduceMul, Nat.reduceEqDiff, Nat.reduceBEq, Nat.reduceLeDiff, List.length_map, big, Nat.zero_add]; rfl) ?_
      | refine st_dop rfl ?_
      | refine st_loc rfl (by simp (disch := omega) only [go_sem, wr_i64, if_yes, if_no, ↓reduceIte, Nat.reduceAdd, Nat.reduceMul, Nat.reduceEqDiff, Nat.reduceBEq, Nat.reduceLeDiff, List.length_map, big, Nat.zero_add]; rfl) ?_
      | refine st_heap rfl (by simp (disch := omega) only [go_sem, wr_i64, if_yes, if_no, ↓reduceIte, Nat.reduceAdd, Nat.reduceMul, Nat.reduceEqDiff, Nat.reduceBEq, Nat.reduceLeDiff, List.length_map, big, Nat.zero_add]; rfl) ?_
      | refine st_store (by simp (disch := omega) only [go_sem, wr_i64, if_yes, if_no, ↓reduceIte, Nat.reduceAdd, Nat.reduceMul, Nat.reduceEqDiff, Nat.reduceBEq, Nat.reduceLeDiff, List.length_map, big, Nat.zero_add]; rfl) ?_
      | refine st_append (by simp (disch := omega) only [go_sem, wr_i64, if_yes, if_no, ↓reduceIte, Nat.reduceAdd, Nat.reduceMul, Nat.reduceEqDiff, Nat.reduceBEq, Nat.reduceLeDiff, List.length_map, big, Nat.zero_add]; rfl) ?_
      | refine st_copy (by simp (disch := omega) only [go_sem, wr_i64, if_yes, if_no, ↓reduceIte, Nat.reduceAdd, Nat.reduceMul, Nat.reduceEqDiff, Nat.reduceBEq, Nat.reduceLeDiff, List.length_map, big, Nat.zero_add]; rfl) ?_
      | refine st_gT rfl rfl rfl ?_
      | refine st_gF rfl rfl rfl ?_
      | refine st_dgT rfl rfl rfl rfl ?_
      | refine st_dgF rfl rfl rfl ?_
      | (refine st_gS rfl rfl ?_ ?_ <;> intro hg <;> (try simp only [decide_eq_true_eq, decide_eq_false_iff_not, Bool.not_eq_true', Bool.not_eq_false'] at hg))
      | (refine st_dgS rfl rfl ?_ ?_ <;> intro hg <;> (try simp only [decide_eq_true_eq, decide_eq_false_iff_not, Bool.not_eq_true', Bool.not_eq_false'] at hg))
      | refine st_condT rfl ?_
      | refine st_condF rfl ?_
      | (refine st_condS rfl ?_ ?_ <;> intro hg <;> (try simp only [decide_eq_true_eq, decide_eq_false_iff_not, Bool.not_eq_true', Bool.not_eq_false'] at hg))
      | refine st_nil ?_
      | refine st_dnil ?_
      | refine st_tN ?_
      | refine st_seq ?_
      | refine st_block ?_
      | refine st_skip ?_
      | refine st_exit ?_
      | refine st_ret ?_
      | refine st_tE ?_
      | refine st_tR ?_
      | refine st_bN ?_
      | refine st_bR ?_
      | refine st_bH ?_
      | refine st_noN ?_
      | refine st_noR ?_
      | refine st_noE ?_
      | refine st_label ?_
      | refine st_scope tab mixed (by decide) ?_
      | refine st_bM rfl ?_)
  all_goals try (exfalso; omega)
  refine st_loopH (α := LwS) tab mixed [3] [_] (by repeat (first | exact trivial | refine ⟨rfl, ?_⟩)) [2] [_] (by repeat (first | exact trivial | refine ⟨rfl, ?_⟩)) (fun a => [(4, .int .i64 (a.i : Nat))]) [(1, _), (2, _), (3, _)] (fun a => [[a.v, .slc (h.clk + 1, 9) 3 0 l.bs.length]]) [_] (fun a => a.g) (fun a => a.i ≤ l.fs.length ∧ (∀ b' : Nat × Nat, b'.1 < h.clk → a.g.at_ b' = h.at_ b') ∧ a.g.lp = h.lp ∧ a.g.at_ (h.clk + 1, 9) = some ⟨3, l.bs.map Bl.row⟩ ∧ h.clk + 1 < a.g.clk ∧ Sl h a.g a.v 4 ((l.fs.take a.i).map Fd.row) ∧ (∀ b1 m, a.v = .slc b1 4 0 m → h.clk + 1 < b1.1)) (fun a => l.fs.length - a.i) (by decide) ⟨0, .nils, _⟩ (by refine ⟨Nat.zero_le _, fun b' hb' => (by have e1 : ¬ b' = (h.clk + 1, 9) := (fun e => by rw [e] at hb'; dsimp only at hb'; omega); have e2 : ¬ b' = (h.clk + 1, 6) := (fun e => by rw [e] at hb'; dsimp only at hb'; omega); simp only [go_sem, e1, e2, ↓reduceIte]), rfl, (by simp only [go_sem, ↓reduceIte]), (by simp only [go_sem]; omega), .inl ⟨rfl, rfl⟩, fun b1 m e => by cases e⟩) (by (try simp only [go_sem]); repeat' (first | exact trivial | refine And.intro ?_ ?_ | rfl | (simp (disch := omega) only [go_sem, if_yes, if_no, ↓reduceIte, Nat.reduceAdd, Nat.reduceMul, Nat.reduceEqDiff, Nat.reduceBEq, Nat.reduceLeDiff]; rfl) | (simp (disch := omega) only [go_sem, if_yes, if_no, ↓reduceIte, Nat.reduceAdd, Nat.reduceMul, Nat.reduceEqDiff, Nat.reduceBEq, Nat.reduceLeDiff]))) (by (try simp only [go_sem]); repeat' (first | exact trivial | refine And.intro ?_ ?_ | rfl | (simp (disch := omega) only [go_sem, if_yes, if_no, ↓reduceIte, Nat.reduceAdd, Nat.reduceMul, Nat.reduceEqDiff, Nat.reduceBEq, Nat.reduceLeDiff]; rfl) | (simp (disch := omega) only [go_sem, if_yes, if_no, ↓reduceIte, Nat.reduceAdd, Nat.reduceMul, Nat.reduceEqDiff, Nat.reduceBEq, Nat.reduceLeDiff]))) (HOld.refl _) ?_
  rintro ⟨i, v, g⟩ c ⟨i1, i2, i3, i4, i5, hS, i7⟩ hc
  dsimp only at i1 i2 i3 i4 i5 hS i7 hc
  simp only [go_sem]
  by_cases hi : i < l.fs.length
  case neg =>
    obtain rfl : i = l.fs.length := by omega
    rw [List.take_length] at hS
    rcases hS with ⟨rfl, e2⟩ | ⟨b1, rfl, q2, q3, q4⟩
    · repeat' (first
          | refine st_seq_reg rfl (by first | (simp only [go_sem, List.length_map]; rfl) | rfl) (by first | (simp only [go_sem, List.length_map]; rfl) | rfl) ?_
          | refine st_reg rfl (by first | (simp only [go_sem, List.length_map]; rfl) | rfl) (by first | (simp only [go_sem, List.length_map]; rfl) | rfl) ?_
          | refine st_seq_draw rfl (by first | (simp only [go_sem, List.length_map]; rfl) | rfl) (by first | (simp only [go_sem, List.length_map]; rfl) | rfl) ?_
          | refine st_draw rfl (by first | (simp only [go_sem, List.length_map]; rfl) | rfl) (by first | (simp only [go_sem, List.length_map]; rfl) | rfl) ?_
          | refine st_op ?_
          | refine st_det rfl (by simp (disch := omega) only [go_sem, wr_i64, if_yes, if_no, ↓reduceIte, Nat.reduceAdd, Nat.reduceMul, Nat.reduceEqDiff, Nat.reduceBEq, Nat.reduceLeDiff, List.length_map]; rfl) ?_
          | refine st_dop rfl ?_
          | refine st_loc rfl (by simp (disch := omega) only [go_sem, wr_i64, if_yes, if_no, ↓reduceIte, Nat.reduceAdd, Nat.reduceMul, Nat.reduceEqDiff, Nat.reduceBEq, Nat.reduceLeDiff, List.length_map]; rfl) ?_
          | refine st_heap rfl (by simp (disch := omega) only [go_sem, wr_i64, if_yes, if_no, ↓reduceIte, Nat.reduceAdd, Nat.reduceMul, Nat.reduceEqDiff, Nat.reduceBEq, Nat.reduceLeDiff, List.length_map]; rfl) ?_
          | refine st_store (by simp (disch := omega) only [go_sem, wr_i64, if_yes, if_no, ↓reduceIte, Nat.reduceAdd, Nat.reduceMul, Nat.reduceEqDiff, Nat.reduceBEq, Nat.reduceLeDiff, List.length_map]; rfl) ?_
          | refine st_append (by simp (disch := omega) only [go_sem, wr_i64, if_yes, if_no, ↓reduceIte, Nat.reduceAdd, Nat.reduceMul, Nat.reduceEqDiff, Nat.reduceBEq, Nat.reduceLeDiff, List.length_map]; rfl) ?_
          | refine st_copy (by simp (disch := omega) only [go_sem, wr_i64, if_yes, if_no, ↓reduceIte, Nat.reduceAdd, Nat.reduceMul, Nat.reduceEqDiff, Nat.reduceBEq, Nat.reduceLeDiff, List.length_map]; rfl) ?_
          | refine st_gT rfl rfl rfl ?_
          | refine st_gF rfl rfl rfl ?_
          | refine st_dgT rfl rfl rfl rfl ?_
          | refine st_dgF rfl rfl rfl ?_
          | (refine st_gS rfl rfl ?_ ?_ <;> intro hg <;> (try simp only [decide_eq_true_eq, decide_eq_false_iff_not, Bool.not_eq_true', Bool.not_eq_false'] at hg))
          | (refine st_dgS rfl rfl ?_ ?_ <;> intro hg <;> (try simp only [decide_eq_true_eq, decide_eq_false_iff_not, Bool.not_eq_true', Bool.not_eq_false'] at hg))
          | refine st_condT rfl ?_
          | refine st_condF rfl ?_
          | (refine st_condS rfl ?_ ?_ <;> intro hg <;> (try simp only [decide_eq_true_eq, decide_eq_false_iff_not, Bool.not_eq_true', Bool.not_eq_false'] at hg))
          | refine st_nil ?_
          | refine st_dnil ?_
          | refine st_tN ?_
          | refine st_seq ?_
          | refine st_block ?_
          | refine st_skip ?_
          | refine st_exit ?_
          | refine st_ret ?_
          | refine st_tE ?_
          | refine st_tR ?_
          | refine st_bN ?_
          | refine st_bR ?_
          | refine st_bH ?_
          | refine st_noN ?_
          | refine st_noR ?_
          | refine st_noE ?_
          | refine st_label ?_
          | refine st_scope tab mixed (by decide) ?_
          | refine st_bM rfl ?_)
      all_goals try (exfalso; omega)
      simp (disch := omega) only [AEnd, Try.results19, aresK, fin, go_sem, ↓reduceIte, Nat.reduceEqDiff, Nat.reduceAdd, Nat.reduceLeDiff, if_yes, if_no, implies_true, true_and, and_true, List.reverse_cons, List.reverse_nil]
      exact ⟨_, _, rfl, i2, i3, i4, by show h.clk ≤ h.clk + 1; omega, by show h.clk + 1 < c + 1 + 1; omega, .inl ⟨rfl, e2⟩, fun b1 m e => by cases e⟩
    · have i7 := i7 _ _ rfl
      repeat' (first
          | refine st_seq_reg rfl (by first | (simp only [go_sem, List.length_map]; rfl) | rfl) (by first | (simp only [go_sem, List.length_map]; rfl) | rfl) ?_
          | refine st_reg rfl (by first | (simp only [go_sem, List.length_map]; rfl) | rfl) (by first | (simp only [go_sem, List.length_map]; rfl) | rfl) ?_
          | refine st_seq_draw rfl (by first | (simp only [go_sem, List.length_map]; rfl) | rfl) (by first | (simp only [go_sem, List.length_map]; rfl) | rfl) ?_
          | refine st_draw rfl (by first | (simp only [go_sem, List.length_map]; rfl) | rfl) (by first | (simp only [go_sem, List.length_map]; rfl) | rfl) ?_
          | refine st_op ?_
          | refine st_det rfl (by simp (disch := omega) only [go_sem, wr_i64, if_yes, if_no, ↓reduceIte, Nat.reduceAdd, Nat.reduceMul, Nat.reduceEqDiff, Nat.reduceBEq, Nat.reduceLeDiff, List.length_map]; rfl) ?_
          | refine st_dop rfl ?_
          | refine st_loc rfl (by simp (disch := omega) only [go_sem, wr_i64, if_yes, if_no, ↓reduceIte, Nat.reduceAdd, Nat.reduceMul, Nat.reduceEqDiff, Nat.reduceBEq, Nat.reduceLeDiff, List.length_map]; rfl) ?_
          | refine st_heap rfl (by simp (disch := omega) only [go_sem, wr_i64, if_yes, if_no, ↓reduceIte, Nat.reduceAdd, Nat.reduceMul, Nat.reduceEqDiff, Nat.reduceBEq, Nat.reduceLeDiff, List.length_map]; rfl) ?_
          | refine st_store (by simp (disch := omega) only [go_sem, wr_i64, if_yes, if_no, ↓reduceIte, Nat.reduceAdd, Nat.reduceMul, Nat.reduceEqDiff, Nat.reduceBEq, Nat.reduceLeDiff, List.length_map]; rfl) ?_
          | refine st_append (by simp (disch := omega) only [go_sem, wr_i64, if_yes, if_no, ↓reduceIte, Nat.reduceAdd, Nat.reduceMul, Nat.reduceEqDiff, Nat.reduceBEq, Nat.reduceLeDiff, List.length_map]; rfl) ?_
          | refine st_copy (by simp (disch := omega) only [go_sem, wr_i64, if_yes, if_no, ↓reduceIte, Nat.reduceAdd, Nat.reduceMul, Nat.reduceEqDiff, Nat.reduceBEq, Nat.reduceLeDiff, List.length_map]; rfl) ?_
          | refine st_gT rfl rfl rfl ?_
          | refine st_gF rfl rfl rfl ?_
          | refine st_dgT rfl rfl rfl rfl ?_
          | refine st_dgF rfl rfl rfl ?_
          | (refine st_gS rfl rfl ?_ ?_ <;> intro hg <;> (try simp only [decide_eq_true_eq, decide_eq_false_iff_not, Bool.not_eq_true', Bool.not_eq_false'] at hg))
          | (refine st_dgS rfl rfl ?_ ?_ <;> intro hg <;> (try simp only [decide_eq_true_eq, decide_eq_false_iff_not, Bool.not_eq_true', Bool.not_eq_false'] at hg))
          | refine st_condT rfl ?_
          | refine st_condF rfl ?_
          | (refine st_condS rfl ?_ ?_ <;> intro hg <;> (try simp only [decide_eq_true_eq, decide_eq_false_iff_not, Bool.not_eq_true', Bool.not_eq_false'] at hg))
          | refine st_nil ?_
          | refine st_dnil ?_
          | refine st_tN ?_
          | refine st_seq ?_
          | refine st_block ?_
          | refine st_skip ?_
          | refine st_exit ?_
          | refine st_ret ?_
          | refine st_tE ?_
          | refine st_tR ?_
          | refine st_bN ?_
          | refine st_bR ?_
          | refine st_bH ?_
          | refine st_noN ?_
          | refine st_noR ?_
          | refine st_noE ?_
          | refine st_label ?_
          | refine st_scope tab mixed (by decide) ?_
          | refine st_bM rfl ?_)
      all_goals try (exfalso; omega)
      simp (disch := omega) only [AEnd, Try.results19, aresK, fin, go_sem, ↓reduceIte, Nat.reduceEqDiff, Nat.reduceAdd, Nat.reduceLeDiff, if_yes, if_no, implies_true, true_and, and_true, List.reverse_cons, List.reverse_nil]
      exact ⟨_, _, rfl, i2, i3, i4, by show h.clk ≤ h.clk + 1; omega, by show h.clk + 1 < c + 1 + 1; omega, .inr ⟨b1, by rw [List.length_map], q2, q3, by show b1.1 < c + 1 + 1; omega⟩, fun b2 m e => by injection e with e1; subst e1; intro e; rw [e] at i7; dsimp only at i7; omega⟩
  have hfu := hs.u _ (fd_mem hi)
  have k32 := c32 (fd l.fs i).uses (by omega)
  have htk : (l.fs.take (i + 1)).map Fd.row = (l.fs.take i).map Fd.row ++ [(fd l.fs i).row] := by
    rw [List.take_succ_eq_append_getElem hi, List.map_append]; simp [fd, List.getD_eq_getElem?_getD, hi]
  have hlt : (l.fs.take i).length = i := by rw [List.length_take]; omega
  rcases hS with ⟨rfl, e2⟩ | ⟨b1, rfl, q2, q3, q4⟩
  · have e3 : l.fs.take i = [] := by simpa using e2
    obtain rfl : i = 0 := by rw [← hlt, e3]; rfl
    repeat' (first
        | refine st_seq_reg rfl (by first | (simp only [go_sem, List.length_map, big]; rfl) | rfl) (by first | (simp only [go_sem, List.length_map, big]; rfl) | rfl) ?_
        | refine st_reg rfl (by first | (simp only [go_sem, List.length_map, big]; rfl) | rfl) (by first | (simp only [go_sem, List.length_map, big]; rfl) | rfl) ?_
        | refine st_seq_draw rfl (by first | (simp only [go_sem, List.length_map, big]; rfl) | rfl) (by first | (simp only [go_sem, List.length_map, big]; rfl) | rfl) ?_
        | refine st_draw rfl (by first | (simp only [go_sem, List.length_map, big]; rfl) | rfl) (by first | (simp only [go_sem, List.length_map, big]; rfl) | rfl) ?_
        | refine st_op ?_
        | refine st_det rfl (by simp (disch := omega) only [go_sem, wr_i64, if_yes, if_no, ↓reduceIte, Nat.reduceAdd, Nat.reduceMul, Nat.reduceEqDiff, Nat.reduceBEq, Nat.reduceLeDiff, List.length_map, big]; rfl) ?_
        | refine st_dop rfl ?_
        | refine st_loc rfl (by simp (disch := omega) only [go_sem, wr_i64, if_yes, if_no, ↓reduceIte, Nat.reduceAdd, Nat.reduceMul, Nat.reduceEqDiff, Nat.reduceBEq, Nat.reduceLeDiff, List.length_map, big]; rfl) ?_
        | refine st_heap rfl (by simp (disch := omega) only [go_sem, wr_i64, if_yes, if_no, ↓reduceIte, Nat.reduceAdd, Nat.reduceMul, Nat.reduceEqDiff, Nat.reduceBEq, Nat.reduceLeDiff, List.length_map, big]; rfl) ?_
        | refine st_store (by simp (disch := omega) only [go_sem, wr_i64, if_yes, if_no, ↓reduceIte, Nat.reduceAdd, Nat.reduceMul, Nat.reduceEqDiff, Nat.reduceBEq, Nat.reduceLeDiff, List.length_map, big]; rfl) ?_
        | refine st_append (by simp (disch := omega) only [go_sem, wr_i64, if_yes, if_no, ↓reduceIte, Nat.reduceAdd, Nat.reduceMul, Nat.reduceEqDiff, Nat.reduceBEq, Nat.reduceLeDiff, List.length_map, big]; rfl) ?_
        | refine st_copy (by simp (disch := omega) only [go_sem, wr_i64, if_yes, if_no, ↓reduceIte, Nat.reduceAdd, Nat.reduceMul, Nat.reduceEqDiff, Nat.reduceBEq, Nat.reduceLeDiff, List.length_map, big]; rfl) ?_
        | (refine st_pureE (by first | (simp (disch := omega) only [go_sem, List.length_map, big]; rfl) | rfl) rfl (k32) (by first | (simp only [go_sem, List.length_map, big]; rfl) | rfl) (by intro n; simp (disch := omega) only [go_sem]; rfl) ?_; intro n hn)
        | refine st_gT rfl rfl rfl ?_
        | refine st_gF rfl rfl rfl ?_
        | refine st_dgT rfl rfl rfl rfl ?_
        | refine st_dgF rfl rfl rfl ?_
        | (refine st_gS rfl rfl ?_ ?_ <;> intro hg <;> (try simp only [decide_eq_true_eq, decide_eq_false_iff_not, Bool.not_eq_true', Bool.not_eq_false'] at hg))
        | (refine st_dgS rfl rfl ?_ ?_ <;> intro hg <;> (try simp only [decide_eq_true_eq, decide_eq_false_iff_not, Bool.not_eq_true', Bool.not_eq_false'] at hg))
        | refine st_condT rfl ?_
        | refine st_condF rfl ?_
        | (refine st_condS rfl ?_ ?_ <;> intro hg <;> (try simp only [decide_eq_true_eq, decide_eq_false_iff_not, Bool.not_eq_true', Bool.not_eq_false'] at hg))
        | refine st_nil ?_
        | refine st_dnil ?_
        | refine st_tN ?_
        | refine st_seq ?_
        | refine st_block ?_
        | refine st_skip ?_
        | refine st_exit ?_
        | refine st_ret ?_
        | refine st_tE ?_
        | refine st_tR ?_
        | refine st_bN ?_
        | refine st_bR ?_
        | refine st_bH ?_
        | refine st_noN ?_
        | refine st_noR ?_
        | refine st_noE ?_
        | refine st_label ?_
        | refine st_scope tab mixed (by decide) ?_
        | refine st_bM rfl ?_)
    all_goals try (exfalso; omega)
    have o31 : ∀ b' : Nat × Nat, b'.1 < n → ¬ b' = (n, 31) := fun b' hb' e => by rw [e] at hb'; exact Nat.lt_irrefl _ hb'
    refine ⟨⟨1, .slc (n, 31) 4 0 1, _⟩, (by refine ⟨by show 1 ≤ l.fs.length; omega, fun b' hb' => (by simp only [go_sem, o31 b' (by omega), ↓reduceIte]; exact i2 b' hb'), i3, (by simp only [go_sem, o31 (h.clk + 1, 9) (by show h.clk + 1 < n; omega), ↓reduceIte]; exact i4), (by simp only [go_sem]; omega), .inr ⟨(n, 31), (by show AV.slc (n, 31) 4 0 1 = _; rw [htk, e3]; rfl), (by rw [htk, e3]; simp only [go_sem, ↓reduceIte] <;> rfl), by show h.clk ≤ n; omega, by simp only [go_sem]; omega⟩, fun b1 m e => by injection e with e1; rw [← e1]; show h.clk + 1 < n; omega⟩), by show l.fs.length - 1 < l.fs.length - 0; omega, (by repeat' (first | exact trivial | refine And.intro ?_ ?_ | rfl | (simp (disch := omega) only [go_sem, if_yes, if_no, ↓reduceIte, Nat.reduceAdd, Nat.reduceMul, Nat.reduceEqDiff, Nat.reduceBEq, Nat.reduceLeDiff]; rfl) | (simp (disch := omega) only [go_sem, if_yes, if_no, ↓reduceIte, Nat.reduceAdd, Nat.reduceMul, Nat.reduceEqDiff, Nat.reduceBEq, Nat.reduceLeDiff]))), (by repeat' (first | exact trivial | refine And.intro ?_ ?_ | rfl | (simp (disch := omega) only [go_sem, if_yes, if_no, ↓reduceIte, Nat.reduceAdd, Nat.reduceMul, Nat.reduceEqDiff, Nat.reduceBEq, Nat.reduceLeDiff]; rfl) | (simp (disch := omega) only [go_sem, if_yes, if_no, ↓reduceIte, Nat.reduceAdd, Nat.reduceMul, Nat.reduceEqDiff, Nat.reduceBEq, Nat.reduceLeDiff]))), rfl, HOld.refl _⟩
  · have n9 := i7 _ _ rfl
    repeat' (first
        | refine st_seq_reg rfl (by first | (simp only [go_sem, List.length_map, big, hlt, q2]; rfl) | rfl) (by first | (simp only [go_sem, List.length_map, big, hlt, q2]; rfl) | rfl) ?_
        | refine st_reg rfl (by first | (simp only [go_sem, List.length_map, big, hlt, q2]; rfl) | rfl) (by first | (simp only [go_sem, List.length_map, big, hlt, q2]; rfl) | rfl) ?_
        | refine st_seq_draw rfl (by first | (simp only [go_sem, List.length_map, big, hlt, q2]; rfl) | rfl) (by first | (simp only [go_sem, List.length_map, big, hlt, q2]; rfl) | rfl) ?_
        | refine st_draw rfl (by first | (simp only [go_sem, List.length_map, big, hlt, q2]; rfl) | rfl) (by first | (simp only [go_sem, List.length_map, big, hlt, q2]; rfl) | rfl) ?_
        | refine st_op ?_
        | refine st_det rfl (by simp (disch := omega) only [go_sem, wr_i64, if_yes, if_no, ↓reduceIte, Nat.reduceAdd, Nat.reduceMul, Nat.reduceEqDiff, Nat.reduceBEq, Nat.reduceLeDiff, List.length_map, big, hlt, q2]; rfl) ?_
        | refine st_dop rfl ?_
        | refine st_loc rfl (by simp (disch := omega) only [go_sem, wr_i64, if_yes, if_no, ↓reduceIte, Nat.reduceAdd, Nat.reduceMul, Nat.reduceEqDiff, Nat.reduceBEq, Nat.reduceLeDiff, List.length_map, big, hlt, q2]; rfl) ?_
        | refine st_heap rfl (by simp (disch := omega) only [go_sem, wr_i64, if_yes, if_no, ↓reduceIte, Nat.reduceAdd, Nat.reduceMul, Nat.reduceEqDiff, Nat.reduceBEq, Nat.reduceLeDiff, List.length_map, big, hlt, q2]; rfl) ?_
        | refine st_store (by simp (disch := omega) only [go_sem, wr_i64, if_yes, if_no, ↓reduceIte, Nat.reduceAdd, Nat.reduceMul, Nat.reduceEqDiff, Nat.reduceBEq, Nat.reduceLeDiff, List.length_map, big, hlt, q2]; rfl) ?_
        | refine st_append (by simp (disch := omega) only [go_sem, wr_i64, if_yes, if_no, ↓reduceIte, Nat.reduceAdd, Nat.reduceMul, Nat.reduceEqDiff, Nat.reduceBEq, Nat.reduceLeDiff, List.length_map, big, hlt, q2]; rfl) ?_
        | refine st_copy (by simp (disch := omega) only [go_sem, wr_i64, if_yes, if_no, ↓reduceIte, Nat.reduceAdd, Nat.reduceMul, Nat.reduceEqDiff, Nat.reduceBEq, Nat.reduceLeDiff, List.length_map, big, hlt, q2]; rfl) ?_
        | (refine st_pureE (by first | (simp (disch := omega) only [go_sem, List.length_map, big, hlt, q2]; rfl) | rfl) rfl (k32) (by first | (simp only [go_sem, List.length_map, big, hlt, q2]; rfl) | rfl) (by intro n; simp (disch := omega) only [go_sem]; rfl) ?_; intro n hn)
        | refine st_gT rfl rfl rfl ?_
        | refine st_gF rfl rfl rfl ?_
        | refine st_dgT rfl rfl rfl rfl ?_
        | refine st_dgF rfl rfl rfl ?_
        | (refine st_gS rfl rfl ?_ ?_ <;> intro hg <;> (try simp only [decide_eq_true_eq, decide_eq_false_iff_not, Bool.not_eq_true', Bool.not_eq_false'] at hg))
        | (refine st_dgS rfl rfl ?_ ?_ <;> intro hg <;> (try simp only [decide_eq_true_eq, decide_eq_false_iff_not, Bool.not_eq_true', Bool.not_eq_false'] at hg))
        | refine st_condT rfl ?_
        | refine st_condF rfl ?_
        | (refine st_condS rfl ?_ ?_ <;> intro hg <;> (try simp only [decide_eq_true_eq, decide_eq_false_iff_not, Bool.not_eq_true', Bool.not_eq_false'] at hg))
        | refine st_nil ?_
        | refine st_dnil ?_
        | refine st_tN ?_
        | refine st_seq ?_
        | refine st_block ?_
        | refine st_skip ?_
        | refine st_exit ?_
        | refine st_ret ?_
        | refine st_tE ?_
        | refine st_tR ?_
        | refine st_bN ?_
        | refine st_bR ?_
        | refine st_bH ?_
        | refine st_noN ?_
        | refine st_noR ?_
        | refine st_noE ?_
        | refine st_label ?_
        | refine st_scope tab mixed (by decide) ?_
        | refine st_bM rfl ?_)
    all_goals try (exfalso; omega)
    have o31 : ∀ b' : Nat × Nat, b'.1 < n → ¬ b' = (n, 31) := fun b' hb' e => by rw [e] at hb'; exact Nat.lt_irrefl _ hb'
    have ob1 : ∀ b' : Nat × Nat, b'.1 ≤ h.clk + 1 → ¬ b' = b1 := fun b' hb' e => by rw [e] at hb'; omega
    refine ⟨⟨i + 1, .slc (n, 31) 4 0 (i + 1), _⟩, (by refine ⟨by show i + 1 ≤ l.fs.length; omega, fun b' hb' => (by simp only [go_sem, o31 b' (by omega), ob1 b' (by omega), ↓reduceIte]; exact i2 b' hb'), i3, (by simp only [go_sem, o31 (h.clk + 1, 9) (by show h.clk + 1 < n; omega), ob1 (h.clk + 1, 9) (by show h.clk + 1 ≤ h.clk + 1; omega), ↓reduceIte]; exact i4), (by simp only [go_sem]; omega), .inr ⟨(n, 31), (by show AV.slc (n, 31) 4 0 (i + 1) = _; rw [htk, List.length_append, List.length_map, hlt]; rfl), (by rw [htk]; simp only [go_sem, ↓reduceIte]; rw [List.take_of_length_le (by rw [List.length_map, hlt]; exact Nat.le_refl _)]), by show h.clk ≤ n; omega, by simp only [go_sem]; omega⟩, fun b1 m e => by injection e with e1; rw [← e1]; show h.clk + 1 < n; omega⟩), by show l.fs.length - (i + 1) < l.fs.length - i; omega, (by repeat' (first | exact trivial | refine And.intro ?_ ?_ | rfl | (simp (disch := omega) only [go_sem, if_yes, if_no, ↓reduceIte, Nat.reduceAdd, Nat.reduceMul, Nat.reduceEqDiff, Nat.reduceBEq, Nat.reduceLeDiff]; rfl) | (simp (disch := omega) only [go_sem, if_yes, if_no, ↓reduceIte, Nat.reduceAdd, Nat.reduceMul, Nat.reduceEqDiff, Nat.reduceBEq, Nat.reduceLeDiff]))), (by repeat' (first | exact trivial | refine And.intro ?_ ?_ | rfl | (simp (disch := omega) only [go_sem, if_yes, if_no, ↓reduceIte, Nat.reduceAdd, Nat.reduceMul, Nat.reduceEqDiff, Nat.reduceBEq, Nat.reduceLeDiff]; rfl) | (simp (disch := omega) only [go_sem, if_yes, if_no, ↓reduceIte, Nat.reduceAdd, Nat.reduceMul, Nat.reduceEqDiff, Nat.reduceBEq, Nat.reduceLeDiff]))), rfl, HOld.refl _⟩
theorem frz_bl {b : Nat × Nat} {k : Blk} (bs : List Bl) : frz b k (.lst 3 (bs.map Bl.row)) = .lst 3 (bs.map Bl.row) := by
  simp only [frz, frzss_map, List.map_map]
  congr 1
theorem frz_fd {b : Nat × Nat} {k : Blk} (fs : List Fd) : frz b k (.lst 4 (fs.map Fd.row)) = .lst 4 (fs.map Fd.row) := by
  simp only [frz, frzss_map, List.map_map]
  congr 1
  refine List.map_congr_left fun x _ => ?_
  simp only [Function.comp, Fd.row, List.map_cons, List.map_nil, frz, frzss_map, List.map_map]
  congr 5
theorem frz_ne {b b1 : Nat × Nat} {k : Blk} {z m : Nat} (h : b1 ≠ b) : frz b k (.slc b1 z 0 m) = .slc b1 z 0 m := by
  simp only [frz]
  rw [if_neg (fun hh => h hh.1)]
/-- The funds are given away, the bills stay in a block. -/
theorem c19l (l : Lg) (hs : Small l) (h : AH) : ACalls Try.prog 19 [l.av] h (fun v h' => ∃ bb, v = .agg [.lst 4 (l.fs.map Fd.row), .slc bb 3 0 l.bs.length] ∧ (∀ b' : Nat × Nat, b'.1 < h.clk → h'.at_ b' = h.at_ b') ∧ h'.lp = h.lp ∧ h'.at_ bb = some ⟨3, l.bs.map Bl.row⟩ ∧ h.clk ≤ bb.1 ∧ bb.1 < h'.clk) := by
  refine ACalls.old Try.call19 fun hall => ?_
  refine ((c19h l hs h).mono ?_).give
  rintro v h' ⟨fv, bb, rfl, h1, h2, h3, h4, h5, hS, h7⟩
  rcases hS with ⟨rfl, e⟩ | ⟨b1, rfl, q2, q3, q4⟩
  · refine .inl ⟨.agg [.lst 4 (l.fs.map Fd.row), .slc bb 3 0 l.bs.length], VLe.agg ?_ rfl, bb, rfl, h1, h2, h3, h4, h5⟩
    simp only [VLes]
    rw [e]
    exact ⟨_, _, rfl, VLe.nils 4, _, _, rfl, .refl _, rfl⟩
  · have hne := h7 _ _ rfl
    refine .inr ⟨b1, _, q2, ?_, bb, ?_, fun b' hb' => ?_, h2, ?_, h4, h5⟩
    · cases e : h.at_ b1 with
      | none => rfl
      | some k => exact absurd (hall b1 k e) (by omega)
    · simp only [frz, frzs]
      rw [if_pos ⟨trivial, by simp⟩, if_neg (fun hh => hne hh.1.symm), List.drop_zero, List.take_of_length_le (Nat.le_refl _)]
    · simp only [go_sem]
      rw [if_neg (fun e => by rw [e] at hb'; omega)]
      exact h1 b' hb'
    · simp only [go_sem]
      rw [if_neg (fun e => hne e.symm)]
      exact h3
/-- The bills are given away, the funds stay in a block. -/
theorem c19m (l : Lg) (hs : Small l) (h : AH) : ACalls Try.prog 19 [l.av] h (fun v h' => ∃ fv, v = .agg [fv, .lst 3 (l.bs.map Bl.row)] ∧ (∀ b' : Nat × Nat, b'.1 < h.clk → h'.at_ b' = h.at_ b') ∧ h'.lp = h.lp ∧ h.clk ≤ h'.clk ∧ Sl h h' fv 4 (l.fs.map Fd.row)) := by
  refine ACalls.old Try.call19 fun hall => ?_
  refine ((c19h l hs h).mono ?_).give
  rintro v h' ⟨fv, bb, rfl, h1, h2, h3, h4, h5, hS, h7⟩
  refine .inr ⟨bb, _, h3, ?_, fv, ?_, fun b' hb' => ?_, h2, by simp only [go_sem]; omega, ?_⟩
  · cases e : h.at_ bb with
    | none => rfl
    | some k => exact absurd (hall bb k e) (by omega)
  · have : frz bb ⟨3, l.bs.map Bl.row⟩ fv = fv := by
      rcases hS with ⟨rfl, e⟩ | ⟨b1, rfl, q2, q3, q4⟩
      · rfl
      · exact frz_ne (h7 _ _ rfl)
    simp only [frz, frzs]
    rw [this, if_pos ⟨trivial, by simp⟩, List.drop_zero, List.take_of_length_le (by simp)]
  · simp only [go_sem]
    rw [if_neg (fun e => by rw [e] at hb'; omega)]
    exact h1 b' hb'
  · refine hS.to (fun b1 m e q3 q4 => ?_) (by simp only [go_sem]; omega)
    simp only [go_sem]
    rw [if_neg (h7 _ _ e)]
theorem c19 (l : Lg) (hs : Small l) : Pure Try.prog 19 [l.av] (fun v => v = l.av) := by
  refine Pure.give Try.call19 fun h hall => ?_
  refine (c19l l hs h).mono ?_
  rintro v h' ⟨bb, rfl, h1, h2, h3, h4, h5⟩
  refine ⟨h1, h2, .inr ⟨bb, _, h4, h3, ?_⟩⟩
  have e := frz_fd (b := bb) (k := ⟨3, l.bs.map Bl.row⟩) l.fs
  have e2 : frz bb ⟨3, l.bs.map Bl.row⟩ (.agg [.lst 4 (l.fs.map Fd.row), .slc bb 3 0 l.bs.length]) = .agg [frz bb ⟨3, l.bs.map Bl.row⟩ (.lst 4 (l.fs.map Fd.row)), frz bb ⟨3, l.bs.map Bl.row⟩ (.slc bb 3 0 l.bs.length)] := by simp only [frz, frzs]
  rw [e2, e, ← List.length_map Bl.row, frz_whole]
  rfl
end Go.Proofs.Ytbbkeakbomngoaa
