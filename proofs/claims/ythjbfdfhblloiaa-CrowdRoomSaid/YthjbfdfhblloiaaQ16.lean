/- Contracts of functions that the claim reaches: what each call gives, told in our own logic. Conditions: those of each theorem. -/
import Derived.Test.YthjbfdfhblloiaaQ15
set_option linter.all false
set_option linter.unusedSimpArgs false
set_option linter.unusedVariables false
namespace Go.Proofs.Ythjbfdfhblloiaa
open Go.Av
attribute [local irreducible] thenA blockA awp awpOps awpD awp1
set_option maxHeartbeats 8000000
set_option maxRecDepth 20000
def crV (t : Tw) (f : Nat → Int) : AV := match crL t f with
  | x :: _ => .tup [.agg x.row, .bool true]
  | [] => .tup [.agg [.int .i64 0, .int .i64 0, .int .i64 0], .bool false]
theorem c95 (t : Tw) (f : Nat → Int) (hT : TwOk t) : Pure Try.prog 95 [.agg (stR f), t.av] (fun v => v = crV t f) := by
  have k90 := c90 t f
  intro h
  refine ACalls.forget (ACalls.of tab mixed Try.call95 Try.func95 rfl (fi := ⟨13, [6], [2, 3], none, []⟩) rfl rfl (Nat.le_of_ble_eq_true rfl) (by decide) ?_)
  unfold startA
  simp only [go_sem]
  repeat' (first | refine st_seq_reg rfl (by first | (simp only [go_sem]; rfl) | rfl) (by first | (simp only [go_sem]; rfl) | rfl) ?_ | refine st_reg rfl (by first | (simp only [go_sem]; rfl) | rfl) (by first | (simp only [go_sem]; rfl) | rfl) ?_ | refine st_op ?_ | refine st_det rfl (by simp (disch := omega) only [go_sem, wr_i64, if_yes, if_no, ↓reduceIte, Nat.reduceAdd, Nat.reduceMul, Nat.reduceEqDiff, Nat.reduceBEq, Nat.reduceLeDiff]; rfl) ?_ | refine st_loc rfl (by simp (disch := omega) only [go_sem, wr_i64, if_yes, if_no, ↓reduceIte, Nat.reduceAdd, Nat.reduceMul, Nat.reduceEqDiff, Nat.reduceBEq, Nat.reduceLeDiff]; rfl) ?_ | refine st_heap rfl (by simp (disch := omega) only [go_sem, wr_i64, if_yes, if_no, ↓reduceIte, Nat.reduceAdd, Nat.reduceMul, Nat.reduceEqDiff, Nat.reduceBEq, Nat.reduceLeDiff]; rfl) ?_ | refine st_store (by simp (disch := omega) only [go_sem, wr_i64, if_yes, if_no, ↓reduceIte, Nat.reduceAdd, Nat.reduceMul, Nat.reduceEqDiff, Nat.reduceBEq, Nat.reduceLeDiff]; rfl) ?_ | (refine st_pureE (by first | (simp (disch := omega) only [go_sem]; rfl) | rfl) rfl (k90) (by first | (simp only [go_sem]; rfl) | rfl) (by intro n; first | (simp (disch := omega) only [go_sem]; rfl) | rfl) ?_; intro n hn) | refine st_nil ?_ | refine st_tN ?_ | refine st_seq ?_ | refine st_block ?_ | refine st_skip ?_ | refine st_exit ?_ | refine st_ret ?_ | refine st_tE ?_ | refine st_tR ?_ | refine st_bN ?_ | refine st_bR ?_ | refine st_bH ?_ | refine st_bM rfl ?_ | refine st_noN ?_ | refine st_noR ?_ | refine st_noE ?_ | refine st_label ?_ | refine st_scope tab mixed (by decide) ?_)
  refine st_rangeFunc rfl (by simp only [go_sem]; rfl) (fun l D R hR hlp => ?_)
  simp only [go_sem] at hlp
  have hn4 : ∀ b' : Nat × Nat, b'.1 < h.clk → ¬ b' = (h.clk, 4) := fun b' hb' => ne_fst hb' (Nat.le_refl _)
  have hn5 : ∀ b' : Nat × Nat, b'.1 < h.clk → ¬ b' = (h.clk, 5) := fun b' hb' => ne_fst hb' (Nat.le_refl _)
  have h45 : ¬ ((h.clk, 4) : Nat × Nat) = (h.clk, 5) := ne_snd (by decide)
  have h54 : ¬ ((h.clk, 5) : Nat × Nat) = (h.clk, 4) := ne_snd (by decide)
  let A : AH → Prop := fun g => h.clk + 1 ≤ g.clk ∧ (∀ b' : Bid, b'.1 < h.clk → g.at_ b' = h.at_ b') ∧ (∀ l', l' ≠ l → g.lp l' = h.lp l')
  let I : List Cr → AH → Prop := fun p g => p = [] ∧ g.lp l = some R ∧ A g ∧ g.at_ (h.clk, 4) = some ⟨3, [[.int .i64 0, .int .i64 0, .int .i64 0]]⟩ ∧ g.at_ (h.clk, 5) = some ⟨1, [[.bool false]]⟩
  let E : List Cr → Cr → AH → Prop := fun p x g => p = [] ∧ g.lp l = some (R.stop .ret) ∧ A g ∧ g.at_ (h.clk, 4) = some ⟨3, [x.row]⟩ ∧ g.at_ (h.clk, 5) = some ⟨1, [[.bool true]]⟩
  have hlp2 : ∀ h' : AH, A h' → (h'.lpSet l none).lp = h.lp := by
    intro h' ⟨_, _, h3⟩
    funext l'
    by_cases e : l' = l
    · rw [e, lpSet_same, hlp]
    · rw [lpSet_ne _ _ e]; exact h3 l' e
  refine (c108 t f l hT I E ?_ ?_ ?_ _ ?_).mono ?_
  · rintro p g' m ⟨h1, h2, ⟨h3, h4, h5⟩, h6, h7⟩ hm
    exact ⟨h1, h2, ⟨by show h.clk + 1 ≤ m; omega, h4, h5⟩, h6, h7⟩
  · rintro p x g' m ⟨h1, h2, ⟨h3, h4, h5⟩, h6, h7⟩ hm
    exact ⟨h1, h2, ⟨by show h.clk + 1 ≤ m; omega, h4, h5⟩, h6, h7⟩
  · rintro p x g' _ ⟨h1, h2, ⟨h3, h4, h5⟩, h6, h7⟩
    refine AYields.canonD tab mixed [6] [] [] hR h2 rfl (by intro p hp; simp at hp; rcases hp with rfl; decide) [(10, .agg x.row), (4, .ptr (h.clk, 4) 0 0), (5, .ptr (h.clk, 5) 0 0)] ⟨rfl, rfl, rfl, trivial⟩ (by decide) (by decide) ?_
    simp only [go_sem]
    repeat' (first | refine st_seq_reg rfl (by first | (simp only [go_sem]; rfl) | rfl) (by first | (simp only [go_sem]; rfl) | rfl) ?_ | refine st_reg rfl (by first | (simp only [go_sem]; rfl) | rfl) (by first | (simp only [go_sem]; rfl) | rfl) ?_ | refine st_op ?_ | refine st_det rfl (by simp (disch := omega) only [go_sem, wr_i64, if_yes, if_no, ↓reduceIte, Nat.reduceAdd, Nat.reduceMul, Nat.reduceEqDiff, Nat.reduceBEq, Nat.reduceLeDiff]; rfl) ?_ | refine st_loc rfl (by simp (disch := omega) only [go_sem, wr_i64, if_yes, if_no, ↓reduceIte, Nat.reduceAdd, Nat.reduceMul, Nat.reduceEqDiff, Nat.reduceBEq, Nat.reduceLeDiff]; rfl) ?_ | refine st_heap rfl (by simp (disch := omega) only [go_sem, wr_i64, if_yes, if_no, ↓reduceIte, Nat.reduceAdd, Nat.reduceMul, Nat.reduceEqDiff, Nat.reduceBEq, Nat.reduceLeDiff]; rfl) ?_ | refine st_store (by simp (disch := omega) only [go_sem, wr_i64, if_yes, if_no, ↓reduceIte, Nat.reduceAdd, Nat.reduceMul, Nat.reduceEqDiff, Nat.reduceBEq, Nat.reduceLeDiff]; rfl) ?_ | refine st_nil ?_ | refine st_tN ?_ | refine st_seq ?_ | refine st_block ?_ | refine st_skip ?_ | refine st_exit ?_ | refine st_ret ?_ | refine st_tE ?_ | refine st_tR ?_ | refine st_bN ?_ | refine st_bR ?_ | refine st_bH ?_ | refine st_bM rfl ?_ | refine st_noN ?_ | refine st_noR ?_ | refine st_noE ?_ | refine st_label ?_ | refine st_scope tab mixed (by decide) ?_)
    refine ⟨by simp only [go_sem]; exact h2, ?_⟩
    dsimp only
    repeat' (first | refine st_seq_reg rfl (by first | (simp only [go_sem, h6, h7, h45, h54]; rfl) | rfl) (by first | (simp only [go_sem, h6, h7, h45, h54]; rfl) | rfl) ?_ | refine st_reg rfl (by first | (simp only [go_sem, h6, h7, h45, h54]; rfl) | rfl) (by first | (simp only [go_sem, h6, h7, h45, h54]; rfl) | rfl) ?_ | refine st_op ?_ | refine st_det rfl (by simp (disch := omega) only [go_sem, wr_i64, if_yes, if_no, ↓reduceIte, Nat.reduceAdd, Nat.reduceMul, Nat.reduceEqDiff, Nat.reduceBEq, Nat.reduceLeDiff, h6, h7, h45, h54]; rfl) ?_ | refine st_loc rfl (by simp (disch := omega) only [go_sem, wr_i64, if_yes, if_no, ↓reduceIte, Nat.reduceAdd, Nat.reduceMul, Nat.reduceEqDiff, Nat.reduceBEq, Nat.reduceLeDiff, h6, h7, h45, h54]; rfl) ?_ | refine st_heap rfl (by simp (disch := omega) only [go_sem, wr_i64, if_yes, if_no, ↓reduceIte, Nat.reduceAdd, Nat.reduceMul, Nat.reduceEqDiff, Nat.reduceBEq, Nat.reduceLeDiff, h6, h7, h45, h54]; rfl) ?_ | refine st_store (by simp (disch := omega) only [go_sem, wr_i64, if_yes, if_no, ↓reduceIte, Nat.reduceAdd, Nat.reduceMul, Nat.reduceEqDiff, Nat.reduceBEq, Nat.reduceLeDiff, h6, h7, h45, h54]; rfl) ?_ | refine st_nil ?_ | refine st_tN ?_ | refine st_seq ?_ | refine st_block ?_ | refine st_skip ?_ | refine st_exit ?_ | refine st_ret ?_ | refine st_tE ?_ | refine st_tR ?_ | refine st_bN ?_ | refine st_bR ?_ | refine st_bH ?_ | refine st_bM rfl ?_ | refine st_noN ?_ | refine st_noR ?_ | refine st_noE ?_ | refine st_label ?_ | refine st_scope tab mixed (by decide) ?_)
    refine ⟨by simp only [go_sem], .inr ⟨rfl, h1, lpSet_same _ _ _, ⟨by simp only [go_sem]; omega, fun b' hb' => ?_, fun l' hl' => ?_⟩, ?_, ?_⟩⟩
    · simp only [go_sem, if_neg (hn4 b' hb'), if_neg (hn5 b' hb')]; exact h4 b' hb'
    · rw [lpSet_ne _ _ hl']; simp only [go_sem]; rw [lpSet_ne _ _ hl']; exact h5 l' hl'
    · simp only [go_sem, h45, h54, ↓reduceIte] <;> rfl
    · simp only [go_sem, h45, h54, ↓reduceIte] <;> rfl
  · exact ⟨rfl, lpSet_same _ _ _, ⟨by simp only [go_sem]; omega, fun b' hb' => by simp only [go_sem, if_neg (hn4 b' hb'), if_neg (hn5 b' hb')], fun l' hl' => by rw [lpSet_ne _ _ hl']; rfl⟩, by simp only [go_sem, h45, h54, ↓reduceIte], by simp only [go_sem, h45, h54, ↓reduceIte]⟩
  · rintro v h' (⟨h1, h2, h3, h4, h5⟩ | ⟨p, x, r, e, h1, h2, h3, h4, h5⟩)
    · refine .inl ⟨h2, st_bN (st_tN ?_)⟩
      have hl2 := hlp2 h' h3
      repeat' (first | refine st_seq_reg rfl (by first | (simp only [go_sem, h4, h5, h45, h54]; rfl) | rfl) (by first | (simp only [go_sem, h4, h5, h45, h54]; rfl) | rfl) ?_ | refine st_reg rfl (by first | (simp only [go_sem, h4, h5, h45, h54]; rfl) | rfl) (by first | (simp only [go_sem, h4, h5, h45, h54]; rfl) | rfl) ?_ | refine st_op ?_ | refine st_det rfl (by simp (disch := omega) only [go_sem, wr_i64, if_yes, if_no, ↓reduceIte, Nat.reduceAdd, Nat.reduceMul, Nat.reduceEqDiff, Nat.reduceBEq, Nat.reduceLeDiff, h4, h5, h45, h54]; rfl) ?_ | refine st_loc rfl (by simp (disch := omega) only [go_sem, wr_i64, if_yes, if_no, ↓reduceIte, Nat.reduceAdd, Nat.reduceMul, Nat.reduceEqDiff, Nat.reduceBEq, Nat.reduceLeDiff, h4, h5, h45, h54]; rfl) ?_ | refine st_heap rfl (by simp (disch := omega) only [go_sem, wr_i64, if_yes, if_no, ↓reduceIte, Nat.reduceAdd, Nat.reduceMul, Nat.reduceEqDiff, Nat.reduceBEq, Nat.reduceLeDiff, h4, h5, h45, h54]; rfl) ?_ | refine st_store (by simp (disch := omega) only [go_sem, wr_i64, if_yes, if_no, ↓reduceIte, Nat.reduceAdd, Nat.reduceMul, Nat.reduceEqDiff, Nat.reduceBEq, Nat.reduceLeDiff, h4, h5, h45, h54]; rfl) ?_ | refine st_nil ?_ | refine st_tN ?_ | refine st_seq ?_ | refine st_block ?_ | refine st_skip ?_ | refine st_exit ?_ | refine st_ret ?_ | refine st_tE ?_ | refine st_tR ?_ | refine st_bN ?_ | refine st_bR ?_ | refine st_bH ?_ | refine st_bM rfl ?_ | refine st_noN ?_ | refine st_noR ?_ | refine st_noE ?_ | refine st_label ?_ | refine st_scope tab mixed (by decide) ?_)
      simp (disch := omega) only [AEnd, Try.results95, aresK, fin, go_sem, ↓reduceIte, Nat.reduceEqDiff, Nat.reduceAdd, Nat.reduceLeDiff, if_yes, if_no, implies_true, true_and, and_true, List.reverse_cons, List.reverse_nil, h45, h54]
      refine ⟨fun b' hb' => ?_, hl2, ?_⟩
      · rw [if_neg (hn5 b' hb'), if_neg (hn4 b' hb')]; exact h3.2.1 b' hb'
      · unfold crV; rw [h1]
    · refine .inr ⟨.ret, h2, ASem.ret (st_bR (st_tR ?_))⟩
      have hl2 := hlp2 h' h3
      subst h1
      repeat' (first | refine st_seq_reg rfl (by first | (simp only [go_sem]; rfl) | rfl) (by first | (simp only [go_sem]; rfl) | rfl) ?_ | refine st_reg rfl (by first | (simp only [go_sem]; rfl) | rfl) (by first | (simp only [go_sem]; rfl) | rfl) ?_ | refine st_op ?_ | refine st_det rfl (by simp (disch := omega) only [go_sem, wr_i64, if_yes, if_no, ↓reduceIte, Nat.reduceAdd, Nat.reduceMul, Nat.reduceEqDiff, Nat.reduceBEq, Nat.reduceLeDiff]; rfl) ?_ | refine st_loc rfl (by simp (disch := omega) only [go_sem, wr_i64, if_yes, if_no, ↓reduceIte, Nat.reduceAdd, Nat.reduceMul, Nat.reduceEqDiff, Nat.reduceBEq, Nat.reduceLeDiff]; rfl) ?_ | refine st_heap rfl (by simp (disch := omega) only [go_sem, wr_i64, if_yes, if_no, ↓reduceIte, Nat.reduceAdd, Nat.reduceMul, Nat.reduceEqDiff, Nat.reduceBEq, Nat.reduceLeDiff]; rfl) ?_ | refine st_store (by simp (disch := omega) only [go_sem, wr_i64, if_yes, if_no, ↓reduceIte, Nat.reduceAdd, Nat.reduceMul, Nat.reduceEqDiff, Nat.reduceBEq, Nat.reduceLeDiff]; rfl) ?_ | refine st_nil ?_ | refine st_tN ?_ | refine st_seq ?_ | refine st_block ?_ | refine st_skip ?_ | refine st_exit ?_ | refine st_ret ?_ | refine st_tE ?_ | refine st_tR ?_ | refine st_bN ?_ | refine st_bR ?_ | refine st_bH ?_ | refine st_bM rfl ?_ | refine st_noN ?_ | refine st_noR ?_ | refine st_noE ?_ | refine st_label ?_ | refine st_scope tab mixed (by decide) ?_)
      simp (disch := omega) only [AEnd, Try.results95, aresK, fin, go_sem, ↓reduceIte, Nat.reduceEqDiff, Nat.reduceAdd, Nat.reduceLeDiff, if_yes, if_no, implies_true, true_and, and_true, List.reverse_cons, List.reverse_nil, h4, h5, hl2]
      refine ⟨h3.2.1, ?_⟩
      unfold crV; rw [e]; first | done | rfl
end Go.Proofs.Ythjbfdfhblloiaa
