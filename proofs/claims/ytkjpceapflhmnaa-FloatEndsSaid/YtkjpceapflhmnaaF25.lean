/- Contracts of functions that the claim reaches: what each call gives, told in our own logic. Conditions: those of each theorem. -/
import Derived.Test.YtkjpceapflhmnaaF12
set_option linter.all false
set_option linter.unusedSimpArgs false
set_option linter.unusedVariables false
namespace Go.Proofs.Ytkjpceapflhmnaa
open Go.Av
attribute [local irreducible] thenA blockA awp awpOps awpD awp1
set_option maxHeartbeats 8000000
set_option maxRecDepth 20000
/-- What Stops gives. -/
def stopR (f : Fl) (r : List Hu) (v : AV) : Prop :=
  if bothE f r ≠ 0 then v = .tup [.int .i64 0, .int .i64 (bothE f r)] else
  ∃ k : Int, v = .tup [.int .i64 k, .int .i64 0] ∧ ((k = -1 ∧ ∀ j, j < r.length → pV f 0 0 (hu r j) = 1) ∨ ∃ j : Nat, j < r.length ∧ k = j ∧ pV f 0 0 (hu r j) ≠ 1 ∧ ∀ i, i < j → pV f 0 0 (hu r i) = 1)
theorem c26 (f : Fl) (r : List Hu) : Pure Try.prog 26 [f.av, .lst 3 (r.map Hu.row)] (stopR f r) := by
  intro h
  refine ACalls.forget ?_
  have hne0 : ∀ b' : Nat × Nat, b'.1 < h.clk → ¬ b' = (h.clk, 4) := fun b' hb' e => by rw [e] at hb'; exact absurd hb' (Nat.lt_irrefl _)
  have hne1 : ∀ b' : Nat × Nat, b'.1 < h.clk → ¬ b' = (h.clk, 5) := fun b' hb' e => by rw [e] at hb'; exact absurd hb' (Nat.lt_irrefl _)
  refine ACalls.of tab mixed Try.call26 Try.func26 rfl (fi := ⟨24, [], [2], none, []⟩) rfl rfl (Nat.le_of_ble_eq_true rfl) (by decide) ?_
  unfold startA
  simp only [go_sem]
  repeat' (first
      | refine st_seq_reg rfl (by first | (simp only [go_sem]; rfl) | rfl) (by first | (simp only [go_sem]; rfl) | rfl) ?_
      | refine st_reg rfl (by first | (simp only [go_sem]; rfl) | rfl) (by first | (simp only [go_sem]; rfl) | rfl) ?_
      | refine st_seq_draw rfl (by first | (simp only [go_sem]; rfl) | rfl) (by first | (simp only [go_sem]; rfl) | rfl) ?_
      | refine st_draw rfl (by first | (simp only [go_sem]; rfl) | rfl) (by first | (simp only [go_sem]; rfl) | rfl) ?_
      | refine st_op ?_
      | refine st_det rfl (by simp (disch := omega) only [go_sem, wr_i64, if_yes, if_no, ↓reduceIte, Nat.reduceAdd, Nat.reduceMul, Nat.reduceEqDiff, Nat.reduceBEq, Nat.reduceLeDiff]; rfl) ?_
      | refine st_dop rfl ?_
      | refine st_loc rfl (by simp (disch := omega) only [go_sem, wr_i64, if_yes, if_no, ↓reduceIte, Nat.reduceAdd, Nat.reduceMul, Nat.reduceEqDiff, Nat.reduceBEq, Nat.reduceLeDiff]; rfl) ?_
      | refine st_heap rfl (by simp (disch := omega) only [go_sem, wr_i64, if_yes, if_no, ↓reduceIte, Nat.reduceAdd, Nat.reduceMul, Nat.reduceEqDiff, Nat.reduceBEq, Nat.reduceLeDiff]; rfl) ?_
      | refine st_store (by simp (disch := omega) only [go_sem, wr_i64, if_yes, if_no, ↓reduceIte, Nat.reduceAdd, Nat.reduceMul, Nat.reduceEqDiff, Nat.reduceBEq, Nat.reduceLeDiff]; rfl) ?_
      | refine st_append (by simp (disch := omega) only [go_sem, wr_i64, if_yes, if_no, ↓reduceIte, Nat.reduceAdd, Nat.reduceMul, Nat.reduceEqDiff, Nat.reduceBEq, Nat.reduceLeDiff]; rfl) ?_
      | (refine st_pureE (by first | (simp (disch := omega) only [go_sem]; rfl) | rfl) rfl (c71 f r) (by first | (simp only [go_sem]; rfl) | rfl) (by intro n; simp (disch := omega) only [go_sem]; rfl) ?_; intro n hn)
      | (refine st_pureE (by first | (simp (disch := omega) only [go_sem]; rfl) | rfl) rfl (c72 f 0 0 r) (by first | (simp only [go_sem]; rfl) | rfl) (by intro n; simp (disch := omega) only [go_sem]; rfl) ?_; intro n hn)
      | refine st_gT rfl rfl rfl ?_
      | refine st_gF rfl rfl rfl ?_
      | refine st_dgT rfl rfl rfl rfl ?_
      | refine st_dgF rfl rfl rfl ?_
      | (refine st_gS rfl rfl ?_ ?_ <;> intro hg <;> (try simp only [decide_eq_true_eq, decide_eq_false_iff_not, Bool.not_eq_true', Bool.not_eq_false'] at hg))
      | (refine st_dgS rfl rfl ?_ ?_ <;> intro hg <;> (try simp only [decide_eq_true_eq, decide_eq_false_iff_not, Bool.not_eq_true', Bool.not_eq_false'] at hg))
      | refine st_condT rfl ?_
      | refine st_condF rfl ?_
      | (refine st_condS rfl ?_ ?_ <;> intro hg <;> (try simp only [decide_eq_true_eq, decide_eq_false_iff_not, Bool.not_eq_true', Bool.not_eq_false'] at hg))
      | refine st_nil ?_
      | refine st_dnil ?_
      | refine st_tN ?_
      | refine st_seq ?_
      | refine st_block ?_
      | refine st_skip ?_
      | refine st_exit ?_
      | refine st_ret ?_
      | refine st_tE ?_
      | refine st_tR ?_
      | refine st_bN ?_
      | refine st_bR ?_
      | refine st_bH ?_
      | refine st_bM rfl ?_)
  · simp (disch := omega) only [AEnd, Try.results26, aresK, fin, go_sem, ↓reduceIte, Nat.reduceEqDiff, Nat.reduceAdd, Nat.reduceLeDiff, if_yes, if_no, implies_true, true_and, and_true, List.reverse_cons, List.reverse_nil]
    refine ⟨fun b' hb' => ?_, by simp [stopR, hg]⟩
    simp only [hne0 b' hb', hne1 b' hb', if_false, ↓reduceIte]
  have hb : bothE f r = 0 := by omega
  obtain ⟨hf, hr, hl, _, _⟩ := bothOk hb
  have hS : ∀ v, (∃ k : Int, v = .tup [.int .i64 k, .int .i64 0] ∧ ((k = -1 ∧ ∀ j, j < r.length → pV f 0 0 (hu r j) = 1) ∨ ∃ j : Nat, j < r.length ∧ k = j ∧ pV f 0 0 (hu r j) ≠ 1 ∧ ∀ i, i < j → pV f 0 0 (hu r i) = 1)) → stopR f r v := fun v hv => by unfold stopR; rw [if_neg (by omega)]; exact hv
  refine st_rangeFunc rfl (by simp only [go_sem]; rfl) (fun l D R hR hlp => ?_)
  simp only [go_sem] at hlp
  let J : AH → Prop := fun g => (∀ b' : Bid, b'.1 < h.clk → g.at_ b' = h.at_ b') ∧ (∀ l', l' ≠ l → g.lp l' = h.lp l')
  let I : Nat → AH → Prop := fun i g => g.lp l = some R ∧ J g ∧ g.at_ (h.clk, 4) = some ⟨1, [[.int .i64 0]]⟩ ∧ g.at_ (h.clk, 5) = some ⟨1, [[.int .i64 0]]⟩ ∧ ∀ j, j < i → pV f 0 0 (hu r j) = 1
  let E : AH → Prop := fun g => g.lp l = some (R.stop .ret) ∧ J g ∧ ∃ j : Nat, j < r.length ∧ g.at_ (h.clk, 4) = some ⟨1, [[.int .i64 j]]⟩ ∧ g.at_ (h.clk, 5) = some ⟨1, [[.int .i64 0]]⟩ ∧ pV f 0 0 (hu r j) ≠ 1 ∧ ∀ i, i < j → pV f 0 0 (hu r i) = 1
  refine (c106 f 0 0 r l hf (by omega) (by omega) hr (by omega) I E ?_ ?_ ?_ _ ?_).mono ?_
  · exact fun i g n h _ => h
  · exact fun g n h _ => h
  · rintro i g hi ⟨h1, ⟨h2, h3⟩, h4, h4', h5⟩
    refine AYields.canon tab mixed [] [2] [] hR h1 rfl (by intro p hp; simp at hp; rcases hp with rfl | rfl <;> decide) [(19, .int .i64 i), (20, .int .i64 (pV f 0 0 (hu r i))), (4, .ptr (h.clk, 4) 0 0), (5, .ptr (h.clk, 5) 0 0)] ⟨rfl, rfl, rfl, rfl, trivial⟩ rfl rfl ?_
    simp only [go_sem]
    repeat' (first
        | refine st_seq_reg rfl (by first | (simp only [go_sem]; rfl) | rfl) (by first | (simp only [go_sem]; rfl) | rfl) ?_
        | refine st_reg rfl (by first | (simp only [go_sem]; rfl) | rfl) (by first | (simp only [go_sem]; rfl) | rfl) ?_
        | refine st_seq_draw rfl (by first | (simp only [go_sem]; rfl) | rfl) (by first | (simp only [go_sem]; rfl) | rfl) ?_
        | refine st_draw rfl (by first | (simp only [go_sem]; rfl) | rfl) (by first | (simp only [go_sem]; rfl) | rfl) ?_
        | refine st_op ?_
        | refine st_det rfl (by simp (disch := omega) only [go_sem, wr_i64, if_yes, if_no, ↓reduceIte, Nat.reduceAdd, Nat.reduceMul, Nat.reduceEqDiff, Nat.reduceBEq, Nat.reduceLeDiff]; rfl) ?_
        | refine st_dop rfl ?_
        | refine st_loc rfl (by simp (disch := omega) only [go_sem, wr_i64, if_yes, if_no, ↓reduceIte, Nat.reduceAdd, Nat.reduceMul, Nat.reduceEqDiff, Nat.reduceBEq, Nat.reduceLeDiff]; rfl) ?_
        | refine st_heap rfl (by simp (disch := omega) only [go_sem, wr_i64, if_yes, if_no, ↓reduceIte, Nat.reduceAdd, Nat.reduceMul, Nat.reduceEqDiff, Nat.reduceBEq, Nat.reduceLeDiff]; rfl) ?_
        | refine st_store (by simp (disch := omega) only [go_sem, wr_i64, if_yes, if_no, ↓reduceIte, Nat.reduceAdd, Nat.reduceMul, Nat.reduceEqDiff, Nat.reduceBEq, Nat.reduceLeDiff]; rfl) ?_
        | refine st_append (by simp (disch := omega) only [go_sem, wr_i64, if_yes, if_no, ↓reduceIte, Nat.reduceAdd, Nat.reduceMul, Nat.reduceEqDiff, Nat.reduceBEq, Nat.reduceLeDiff]; rfl) ?_
        | refine st_gT rfl rfl rfl ?_
        | refine st_gF rfl rfl rfl ?_
        | refine st_dgT rfl rfl rfl rfl ?_
        | refine st_dgF rfl rfl rfl ?_
        | (refine st_gS rfl rfl ?_ ?_ <;> intro hg <;> (try simp only [decide_eq_true_eq, decide_eq_false_iff_not, Bool.not_eq_true', Bool.not_eq_false'] at hg))
        | (refine st_dgS rfl rfl ?_ ?_ <;> intro hg <;> (try simp only [decide_eq_true_eq, decide_eq_false_iff_not, Bool.not_eq_true', Bool.not_eq_false'] at hg))
        | refine st_condT rfl ?_
        | refine st_condF rfl ?_
        | (refine st_condS rfl ?_ ?_ <;> intro hg <;> (try simp only [decide_eq_true_eq, decide_eq_false_iff_not, Bool.not_eq_true', Bool.not_eq_false'] at hg))
        | refine st_nil ?_
        | refine st_dnil ?_
        | refine st_tN ?_
        | refine st_seq ?_
        | refine st_block ?_
        | refine st_skip ?_
        | refine st_exit ?_
        | refine st_ret ?_
        | refine st_tE ?_
        | refine st_tR ?_
        | refine st_bN ?_
        | refine st_bR ?_
        | refine st_bH ?_
        | refine st_bM rfl ?_)
    refine ⟨h1, ?_⟩
    dsimp only
    repeat' (first
        | refine st_seq_reg rfl (by first | (simp only [go_sem, h4, h4']; rfl) | rfl) (by first | (simp only [go_sem, h4, h4']; rfl) | rfl) ?_
        | refine st_reg rfl (by first | (simp only [go_sem, h4, h4']; rfl) | rfl) (by first | (simp only [go_sem, h4, h4']; rfl) | rfl) ?_
        | refine st_seq_draw rfl (by first | (simp only [go_sem, h4, h4']; rfl) | rfl) (by first | (simp only [go_sem, h4, h4']; rfl) | rfl) ?_
        | refine st_draw rfl (by first | (simp only [go_sem, h4, h4']; rfl) | rfl) (by first | (simp only [go_sem, h4, h4']; rfl) | rfl) ?_
        | refine st_op ?_
        | refine st_det rfl (by simp (disch := omega) only [go_sem, wr_i64, if_yes, if_no, ↓reduceIte, Nat.reduceAdd, Nat.reduceMul, Nat.reduceEqDiff, Nat.reduceBEq, Nat.reduceLeDiff, h4, h4']; rfl) ?_
        | refine st_dop rfl ?_
        | refine st_loc rfl (by simp (disch := omega) only [go_sem, wr_i64, if_yes, if_no, ↓reduceIte, Nat.reduceAdd, Nat.reduceMul, Nat.reduceEqDiff, Nat.reduceBEq, Nat.reduceLeDiff, h4, h4']; rfl) ?_
        | refine st_heap rfl (by simp (disch := omega) only [go_sem, wr_i64, if_yes, if_no, ↓reduceIte, Nat.reduceAdd, Nat.reduceMul, Nat.reduceEqDiff, Nat.reduceBEq, Nat.reduceLeDiff, h4, h4']; rfl) ?_
        | refine st_store (by simp (disch := omega) only [go_sem, wr_i64, if_yes, if_no, ↓reduceIte, Nat.reduceAdd, Nat.reduceMul, Nat.reduceEqDiff, Nat.reduceBEq, Nat.reduceLeDiff, h4, h4']; rfl) ?_
        | refine st_append (by simp (disch := omega) only [go_sem, wr_i64, if_yes, if_no, ↓reduceIte, Nat.reduceAdd, Nat.reduceMul, Nat.reduceEqDiff, Nat.reduceBEq, Nat.reduceLeDiff, h4, h4']; rfl) ?_
        | refine st_gT rfl rfl rfl ?_
        | refine st_gF rfl rfl rfl ?_
        | refine st_dgT rfl rfl rfl rfl ?_
        | refine st_dgF rfl rfl rfl ?_
        | (refine st_gS rfl rfl ?_ ?_ <;> intro hg <;> (try simp only [decide_eq_true_eq, decide_eq_false_iff_not, Bool.not_eq_true', Bool.not_eq_false'] at hg))
        | (refine st_dgS rfl rfl ?_ ?_ <;> intro hg <;> (try simp only [decide_eq_true_eq, decide_eq_false_iff_not, Bool.not_eq_true', Bool.not_eq_false'] at hg))
        | refine st_condT rfl ?_
        | refine st_condF rfl ?_
        | (refine st_condS rfl ?_ ?_ <;> intro hg <;> (try simp only [decide_eq_true_eq, decide_eq_false_iff_not, Bool.not_eq_true', Bool.not_eq_false'] at hg))
        | refine st_nil ?_
        | refine st_dnil ?_
        | refine st_tN ?_
        | refine st_seq ?_
        | refine st_block ?_
        | refine st_skip ?_
        | refine st_exit ?_
        | refine st_ret ?_
        | refine st_tE ?_
        | refine st_tR ?_
        | refine st_bN ?_
        | refine st_bR ?_
        | refine st_bH ?_
        | refine st_bM rfl ?_)
    · refine ⟨by simp only [go_sem], .inr ⟨rfl, lpSet_same _ _ _, ⟨fun b' hb' => ?_, fun l' hl' => ?_⟩, i, hi, ?_, ?_, hg, h5⟩⟩
      · simp only [go_sem]; rw [if_neg (hne1 b' hb'), if_neg (hne0 b' hb')]; exact h2 b' hb'
      · rw [lpSet_ne _ _ hl']; simp only [go_sem]; rw [lpSet_ne _ _ hl']; exact h3 l' hl'
      · simp (disch := omega) only [go_sem, ↓reduceIte, Nat.reduceEqDiff, Nat.reduceLeDiff] <;> rfl
      · simp (disch := omega) only [go_sem, ↓reduceIte, Nat.reduceEqDiff, Nat.reduceLeDiff] <;> rfl
    · refine ⟨by simp only [go_sem], .inl ⟨rfl, lpSet_same _ _ _, ⟨fun b' hb' => h2 b' hb', fun l' hl' => ?_⟩, h4, h4', fun j hj => ?_⟩⟩
      · rw [lpSet_ne _ _ hl']; simp only [go_sem]; rw [lpSet_ne _ _ hl']; exact h3 l' hl'
      · by_cases e : j = i
        · rw [e]; exact Decidable.of_not_not hg
        · exact h5 j (by omega)
  · exact ⟨lpSet_same _ _ _, ⟨fun b' hb' => by simp only [go_sem]; rw [if_neg (hne1 b' hb'), if_neg (hne0 b' hb')], fun l' hl' => by rw [lpSet_ne _ _ hl']; rfl⟩, by simp (disch := omega) only [go_sem, ↓reduceIte, Nat.reduceEqDiff, Nat.reduceLeDiff] <;> rfl, by simp (disch := omega) only [go_sem, ↓reduceIte, Nat.reduceEqDiff, Nat.reduceLeDiff] <;> rfl, fun j hj => absurd hj (Nat.not_lt_zero _)⟩
  · have hlp2 : ∀ h' : AH, (∀ l', l' ≠ l → h'.lp l' = h.lp l') → (h'.lpSet l none).lp = h.lp := by
      intro h' h3
      funext l'
      by_cases e : l' = l
      · rw [e, lpSet_same, hlp]
      · rw [lpSet_ne _ _ e]; exact h3 l' e
    rintro v h' (⟨h1, ⟨h2, h3⟩, h4, h4', h5⟩ | ⟨h1, ⟨h2, h3⟩, j, hj, h4, h4', h5, h6⟩)
    · refine .inl ⟨h1, st_bN (st_tN ?_)⟩
      repeat' (first
          | refine st_seq_reg rfl (by first | (simp only [go_sem, h4, h4']; rfl) | rfl) (by first | (simp only [go_sem, h4, h4']; rfl) | rfl) ?_
          | refine st_reg rfl (by first | (simp only [go_sem, h4, h4']; rfl) | rfl) (by first | (simp only [go_sem, h4, h4']; rfl) | rfl) ?_
          | refine st_seq_draw rfl (by first | (simp only [go_sem, h4, h4']; rfl) | rfl) (by first | (simp only [go_sem, h4, h4']; rfl) | rfl) ?_
          | refine st_draw rfl (by first | (simp only [go_sem, h4, h4']; rfl) | rfl) (by first | (simp only [go_sem, h4, h4']; rfl) | rfl) ?_
          | refine st_op ?_
          | refine st_det rfl (by simp (disch := omega) only [go_sem, wr_i64, if_yes, if_no, ↓reduceIte, Nat.reduceAdd, Nat.reduceMul, Nat.reduceEqDiff, Nat.reduceBEq, Nat.reduceLeDiff, h4, h4']; rfl) ?_
          | refine st_dop rfl ?_
          | refine st_loc rfl (by simp (disch := omega) only [go_sem, wr_i64, if_yes, if_no, ↓reduceIte, Nat.reduceAdd, Nat.reduceMul, Nat.reduceEqDiff, Nat.reduceBEq, Nat.reduceLeDiff, h4, h4']; rfl) ?_
          | refine st_heap rfl (by simp (disch := omega) only [go_sem, wr_i64, if_yes, if_no, ↓reduceIte, Nat.reduceAdd, Nat.reduceMul, Nat.reduceEqDiff, Nat.reduceBEq, Nat.reduceLeDiff, h4, h4']; rfl) ?_
          | refine st_store (by simp (disch := omega) only [go_sem, wr_i64, if_yes, if_no, ↓reduceIte, Nat.reduceAdd, Nat.reduceMul, Nat.reduceEqDiff, Nat.reduceBEq, Nat.reduceLeDiff, h4, h4']; rfl) ?_
          | refine st_append (by simp (disch := omega) only [go_sem, wr_i64, if_yes, if_no, ↓reduceIte, Nat.reduceAdd, Nat.reduceMul, Nat.reduceEqDiff, Nat.reduceBEq, Nat.reduceLeDiff, h4, h4']; rfl) ?_
          | refine st_gT rfl rfl rfl ?_
          | refine st_gF rfl rfl rfl ?_
          | refine st_dgT rfl rfl rfl rfl ?_
          | refine st_dgF rfl rfl rfl ?_
          | (refine st_gS rfl rfl ?_ ?_ <;> intro hg <;> (try simp only [decide_eq_true_eq, decide_eq_false_iff_not, Bool.not_eq_true', Bool.not_eq_false'] at hg))
          | (refine st_dgS rfl rfl ?_ ?_ <;> intro hg <;> (try simp only [decide_eq_true_eq, decide_eq_false_iff_not, Bool.not_eq_true', Bool.not_eq_false'] at hg))
          | refine st_condT rfl ?_
          | refine st_condF rfl ?_
          | (refine st_condS rfl ?_ ?_ <;> intro hg <;> (try simp only [decide_eq_true_eq, decide_eq_false_iff_not, Bool.not_eq_true', Bool.not_eq_false'] at hg))
          | refine st_nil ?_
          | refine st_dnil ?_
          | refine st_tN ?_
          | refine st_seq ?_
          | refine st_block ?_
          | refine st_skip ?_
          | refine st_exit ?_
          | refine st_ret ?_
          | refine st_tE ?_
          | refine st_tR ?_
          | refine st_bN ?_
          | refine st_bR ?_
          | refine st_bH ?_
          | refine st_bM rfl ?_)
      simp (disch := omega) only [AEnd, Try.results26, aresK, fin, go_sem, ↓reduceIte, Nat.reduceEqDiff, Nat.reduceAdd, Nat.reduceLeDiff, if_yes, if_no, implies_true, true_and, and_true, List.reverse_cons, List.reverse_nil, hlp2 h' h3]
      refine ⟨fun b' hb' => ?_, hS _ ⟨-1, rfl, .inl ⟨rfl, h5⟩⟩⟩
      rw [if_neg (hne1 b' hb'), if_neg (hne0 b' hb')]; exact h2 b' hb'
    · refine .inr ⟨.ret, h1, ASem.ret (st_bR (st_tR ?_))⟩
      simp (disch := omega) only [AEnd, Try.results26, aresK, fin, go_sem, ↓reduceIte, Nat.reduceEqDiff, Nat.reduceAdd, Nat.reduceLeDiff, if_yes, if_no, implies_true, true_and, and_true, List.reverse_cons, List.reverse_nil, hlp2 h' h3, h4, h4']
      exact ⟨h2, hS _ ⟨j, rfl, .inr ⟨j, hj, rfl, h5, h6⟩⟩⟩
end Go.Proofs.Ytkjpceapflhmnaa
