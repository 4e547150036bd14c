/- Contracts of functions that the claim reaches: what each call gives, told in our own logic. Conditions: those of each theorem. -/
import Derived.Test.YtbbkeakbomngoaaG6
set_option linter.all false
set_option linter.unusedSimpArgs false
set_option linter.unusedVariables false
namespace Go.Proofs.Ytbbkeakbomngoaa
open Go.Av
attribute [local irreducible] thenA blockA awp awpOps awpD awp1
set_option maxHeartbeats 8000000
set_option maxRecDepth 20000
theorem ne_snd {a b : Nat × Nat} (h : a.2 ≠ b.2) : ¬ a = b := fun e => h (congrArg Prod.snd e)
/-! ### The first of the smallest sets that are short -/
def shortB (l : Lg) (s : Int) : Bool := decide (slackB l (amts l.fs) s < 0)
def setsL (l : Lg) (m : Nat) : List Int := walkL l.bs.length m 0 0
def prf (l : Lg) : Option Int := (wkN (setsL l) 1 l.bs.length).find? (shortB l)
def optV : Option Int → AV
  | none => .tup [.int .i64 0, .bool false]
  | some s => .tup [.int .i64 s, .bool true]
theorem amtsOk {l : Lg} (hl : LgOk l) : RsOk (amts l.fs) := by
  refine ⟨amts_len _, fun i hi => ?_⟩
  rw [amts_get hi]
  by_cases h : i < l.fs.length
  · exact (hl.f _ (fd_mem h)).amt
  · simp [fd, List.getD_eq_getElem?_getD, List.getElem?_eq_none (Nat.le_of_not_lt h)]
theorem c56 (l : Lg) (hl : LgOk l) : Pure Try.prog 56 [l.av] (fun v => v = optV (prf l)) := by
  have hb := hl.bn
  have hr := amtsOk hl
  intro h
  refine ACalls.forget (ACalls.of tab mixed Try.call56 Try.func56 rfl (fi := ⟨28, [], [1], none, []⟩) rfl rfl (Nat.le_of_ble_eq_true rfl) (by decide) ?_)
  unfold startA
  simp only [go_sem]
  repeat' (first | refine st_seq_reg rfl (by first | (simp only [go_sem, amts_len]; rfl) | rfl) (by first | (simp only [go_sem, amts_len]; rfl) | rfl) ?_ | refine st_reg rfl (by first | (simp only [go_sem, amts_len]; rfl) | rfl) (by first | (simp only [go_sem, amts_len]; rfl) | rfl) ?_ | refine st_op ?_ | refine st_det rfl (by simp (disch := omega) only [go_sem, wr_i64, if_yes, if_no, ↓reduceIte, Nat.reduceAdd, Nat.reduceMul, Nat.reduceEqDiff, Nat.reduceBEq, Nat.reduceLeDiff, amts_len]; rfl) ?_ | refine st_loc rfl (by simp (disch := omega) only [go_sem, wr_i64, if_yes, if_no, ↓reduceIte, Nat.reduceAdd, Nat.reduceMul, Nat.reduceEqDiff, Nat.reduceBEq, Nat.reduceLeDiff, amts_len]; rfl) ?_ | refine st_heap rfl (by simp (disch := omega) only [go_sem, wr_i64, if_yes, if_no, ↓reduceIte, Nat.reduceAdd, Nat.reduceMul, Nat.reduceEqDiff, Nat.reduceBEq, Nat.reduceLeDiff, amts_len]; rfl) ?_ | refine st_store (by simp (disch := omega) only [go_sem, wr_i64, if_yes, if_no, ↓reduceIte, Nat.reduceAdd, Nat.reduceMul, Nat.reduceEqDiff, Nat.reduceBEq, Nat.reduceLeDiff, amts_len]; rfl) ?_ | (refine st_pureE (by first | (simp (disch := omega) only [go_sem, amts_len]; rfl) | rfl) rfl (c57 l hl.fn) (by first | (simp only [go_sem, amts_len]; rfl) | rfl) (by intro n; simp (disch := omega) only [go_sem]; rfl) ?_; intro n hn) | refine st_condT rfl ?_ | refine st_condF rfl ?_ | (refine st_condS rfl ?_ ?_ <;> intro hg <;> (try simp only [decide_eq_true_eq, decide_eq_false_iff_not, Bool.not_eq_true', Bool.not_eq_false'] at hg)) | refine st_nil ?_ | refine st_tN ?_ | refine st_seq ?_ | refine st_block ?_ | refine st_skip ?_ | refine st_exit ?_ | refine st_ret ?_ | refine st_tE ?_ | refine st_tR ?_ | refine st_bN ?_ | refine st_bR ?_ | refine st_bH ?_ | refine st_noN ?_ | refine st_noR ?_ | refine st_noE ?_ | refine st_label ?_ | refine st_scope tab mixed (by decide) ?_ | refine st_bM rfl ?_)
  have hne2 : ∀ b' : Nat × Nat, b'.1 < h.clk → ¬ b' = (h.clk, 2) := fun b' hb' e => by rw [e] at hb'; exact absurd hb' (Nat.lt_irrefl _)
  have hne3 : ∀ b' : Nat × Nat, b'.1 < h.clk → ¬ b' = (h.clk, 3) := fun b' hb' e => by rw [e] at hb'; exact absurd hb' (Nat.lt_irrefl _)
  have hne4 : ∀ b' : Nat × Nat, b'.1 < h.clk → ¬ b' = (h.clk + 1, 4) := fun b' hb' e => by rw [e] at hb'; exact absurd hb' (by show ¬ (h.clk + 1 < h.clk); omega)
  have hn42 : ¬ ((h.clk + 1, 4) : Nat × Nat) = (h.clk, 2) := ne_snd (by simp)
  have hn43 : ¬ ((h.clk + 1, 4) : Nat × Nat) = (h.clk, 3) := ne_snd (by simp)
  have hn24 : ¬ ((h.clk, 2) : Nat × Nat) = (h.clk + 1, 4) := ne_snd (by simp)
  have hn34 : ¬ ((h.clk, 3) : Nat × Nat) = (h.clk + 1, 4) := ne_snd (by simp)
  have hn23 : ¬ ((h.clk, 2) : Nat × Nat) = (h.clk, 3) := ne_snd (by simp)
  have hn32 : ¬ ((h.clk, 3) : Nat × Nat) = (h.clk, 2) := ne_snd (by simp)
  let A : AH → Prop := fun g => (∀ b' : Bid, b'.1 < h.clk → g.at_ b' = h.at_ b') ∧ h.clk + 2 ≤ g.clk
  let Z : AH → Prop := fun g => g.at_ (h.clk, 2) = some ⟨1, [[.int .i64 0]]⟩ ∧ g.at_ (h.clk, 3) = some ⟨1, [[.bool false]]⟩ ∧ g.at_ (h.clk + 1, 4) = some ⟨8, [(amts l.fs).map iA]⟩
  refine st_loopM (α := Nat × AH) tab mixed [] [] (by repeat (first | exact trivial | refine ⟨rfl, ?_⟩)) [] [] (by repeat (first | exact trivial | refine ⟨rfl, ?_⟩)) (fun a => [(5, .int .i64 ((a.1 + 1 : Nat) : Int))]) [(1, _), (2, _), (3, _), (4, _)] (fun _ => []) [] (fun a => a.2) (fun a => a.1 ≤ l.bs.length ∧ (wkN (setsL l) 1 a.1).find? (shortB l) = none ∧ A a.2 ∧ Z a.2 ∧ a.2.lp = h.lp) (fun a => l.bs.length - a.1) (by decide) (0, ((((h.tick (n + 1)).put (h.clk, 2) (some ⟨1, [[.int .i64 0]]⟩)).put (h.clk, 3) (some ⟨1, [[.bool false]]⟩)).put (h.clk + 1, 4) (some ⟨8, [(amts l.fs).map iA ++ []]⟩))) ⟨Nat.zero_le _, rfl, ⟨fun b' hb' => by simp only [go_sem]; rw [if_neg (hne4 b' hb'), if_neg (hne3 b' hb'), if_neg (hne2 b' hb')], by show h.clk + 2 ≤ n + 1; omega⟩, ⟨by simp only [go_sem, hn24, hn23, ↓reduceIte], by simp only [go_sem, hn34, hn32, ↓reduceIte], by simp only [go_sem, List.append_nil]⟩, rfl⟩ (by (try simp only [go_sem]); repeat' (first | exact trivial | refine And.intro ?_ ?_ | rfl | (simp (disch := omega) only [go_sem, if_yes, if_no, ↓reduceIte, Nat.reduceAdd, Nat.reduceMul, Nat.reduceEqDiff, Nat.reduceBEq, Nat.reduceLeDiff]; rfl) | (simp (disch := omega) only [go_sem, if_yes, if_no, ↓reduceIte, Nat.reduceAdd, Nat.reduceMul, Nat.reduceEqDiff, Nat.reduceBEq, Nat.reduceLeDiff]))) (by (try simp only [go_sem]); repeat' (first | exact trivial | refine And.intro ?_ ?_ | rfl | (simp (disch := omega) only [go_sem, if_yes, if_no, ↓reduceIte, Nat.reduceAdd, Nat.reduceMul, Nat.reduceEqDiff, Nat.reduceBEq, Nat.reduceLeDiff]; rfl) | (simp (disch := omega) only [go_sem, if_yes, if_no, ↓reduceIte, Nat.reduceAdd, Nat.reduceMul, Nat.reduceEqDiff, Nat.reduceBEq, Nat.reduceLeDiff]))) (HOld.refl _) ?_
  rintro ⟨m, g⟩ c M2 ⟨i1, i2, i3, ⟨i4, i5, i6⟩, i7⟩ hc
  dsimp only at i1 i2 i3 i4 i5 i6 i7 hc
  simp only [go_sem]
  repeat' (first | refine st_seq_reg rfl (by first | (simp only [go_sem, i4, i5, hn32]; rfl) | rfl) (by first | (simp only [go_sem, i4, i5, hn32]; rfl) | rfl) ?_ | refine st_reg rfl (by first | (simp only [go_sem, i4, i5, hn32]; rfl) | rfl) (by first | (simp only [go_sem, i4, i5, hn32]; rfl) | rfl) ?_ | refine st_op ?_ | refine st_det rfl (by simp (disch := omega) only [go_sem, wr_i64, if_yes, if_no, ↓reduceIte, Nat.reduceAdd, Nat.reduceMul, Nat.reduceEqDiff, Nat.reduceBEq, Nat.reduceLeDiff, i4, i5, hn32]; rfl) ?_ | refine st_loc rfl (by simp (disch := omega) only [go_sem, wr_i64, if_yes, if_no, ↓reduceIte, Nat.reduceAdd, Nat.reduceMul, Nat.reduceEqDiff, Nat.reduceBEq, Nat.reduceLeDiff, i4, i5, hn32]; rfl) ?_ | refine st_heap rfl (by simp (disch := omega) only [go_sem, wr_i64, if_yes, if_no, ↓reduceIte, Nat.reduceAdd, Nat.reduceMul, Nat.reduceEqDiff, Nat.reduceBEq, Nat.reduceLeDiff, i4, i5, hn32]; rfl) ?_ | refine st_store (by simp (disch := omega) only [go_sem, wr_i64, if_yes, if_no, ↓reduceIte, Nat.reduceAdd, Nat.reduceMul, Nat.reduceEqDiff, Nat.reduceBEq, Nat.reduceLeDiff, i4, i5, hn32]; rfl) ?_ | (refine st_pureE (by first | (simp (disch := omega) only [go_sem, i4, i5, hn32]; rfl) | rfl) rfl (c79 _ _) (by first | (simp only [go_sem, i4, i5, hn32]; rfl) | rfl) (by intro n; simp (disch := omega) only [go_sem]; rfl) ?_; intro n hn) | refine st_condT rfl ?_ | refine st_condF rfl ?_ | (refine st_condS rfl ?_ ?_ <;> intro hg <;> (try simp only [decide_eq_true_eq, decide_eq_false_iff_not, Bool.not_eq_true', Bool.not_eq_false'] at hg)) | refine st_nil ?_ | refine st_tN ?_ | refine st_seq ?_ | refine st_block ?_ | refine st_skip ?_ | refine st_exit ?_ | refine st_ret ?_ | refine st_tE ?_ | refine st_tR ?_ | refine st_bN ?_ | refine st_bR ?_ | refine st_bH ?_ | refine st_noN ?_ | refine st_noR ?_ | refine st_noE ?_ | refine st_label ?_ | refine st_scope tab mixed (by decide) ?_ | refine st_bM rfl ?_)
  · refine st_rangeFunc rfl (by simp only [go_sem]; rfl) (fun lp D R hR hlp => ?_)
    simp only [go_sem] at hlp
    let L : AH → Prop := fun g' => ∀ l', l' ≠ lp → g'.lp l' = h.lp l'
    let I : AH → Prop := fun g' => g'.lp lp = some R ∧ L g' ∧ A g' ∧ Z g'
    let E : Int → AH → Prop := fun x g' => g'.lp lp = some (R.stop .ret) ∧ L g' ∧ A g' ∧ g'.at_ (h.clk, 2) = some ⟨1, [[.int .i64 x]]⟩ ∧ g'.at_ (h.clk, 3) = some ⟨1, [[.bool true]]⟩
    have hlp2 : ∀ h' : AH, L h' → (h'.lpSet lp none).lp = h.lp := by
      intro h' h3
      funext l'
      by_cases e : l' = lp
      · rw [e, lpSet_same, ← i7, hlp]
      · rw [lpSet_ne _ _ e]; exact h3 l' e
    refine (c85 lp l.bs.length (m + 1) hb (by omega) I E (shortB l) ?_ ?_ ?_ _ ?_ ?_).mono ?_
    · rintro g' k ⟨h1, h2, ⟨h3, h3'⟩, h4⟩ hk
      exact ⟨h1, h2, ⟨h3, by show h.clk + 2 ≤ k; omega⟩, h4⟩
    · rintro x g' k ⟨h1, h2, ⟨h3, h3'⟩, h4⟩ hk
      exact ⟨h1, h2, ⟨h3, by show h.clk + 2 ≤ k; omega⟩, h4⟩
    · rintro s g' ⟨h1, h2, ⟨h3, h3'⟩, h4, h5, h6⟩
      refine AYields.canon tab mixed [] [] [] hR h1 rfl (by intro p hp; simp at hp; rcases hp with rfl; decide) [(21, .int .i64 s), (1, .iptr [.lst 4 (l.fs.map Fd.row), .lst 3 (l.bs.map Bl.row)] 0), (2, .ptr (h.clk, 2) 0 0), (3, .ptr (h.clk, 3) 0 0), (4, .ptr (h.clk + 1, 4) 0 0)] ⟨rfl, rfl, rfl, rfl, rfl, trivial⟩ rfl rfl ?_
      simp only [go_sem]
      repeat' (first | refine st_seq_reg rfl (by first | (simp only [go_sem]; rfl) | rfl) (by first | (simp only [go_sem]; rfl) | rfl) ?_ | refine st_reg rfl (by first | (simp only [go_sem]; rfl) | rfl) (by first | (simp only [go_sem]; rfl) | rfl) ?_ | refine st_op ?_ | refine st_det rfl (by simp (disch := omega) only [go_sem, wr_i64, if_yes, if_no, ↓reduceIte, Nat.reduceAdd, Nat.reduceMul, Nat.reduceEqDiff, Nat.reduceBEq, Nat.reduceLeDiff]; rfl) ?_ | refine st_loc rfl (by simp (disch := omega) only [go_sem, wr_i64, if_yes, if_no, ↓reduceIte, Nat.reduceAdd, Nat.reduceMul, Nat.reduceEqDiff, Nat.reduceBEq, Nat.reduceLeDiff]; rfl) ?_ | refine st_heap rfl (by simp (disch := omega) only [go_sem, wr_i64, if_yes, if_no, ↓reduceIte, Nat.reduceAdd, Nat.reduceMul, Nat.reduceEqDiff, Nat.reduceBEq, Nat.reduceLeDiff]; rfl) ?_ | refine st_store (by simp (disch := omega) only [go_sem, wr_i64, if_yes, if_no, ↓reduceIte, Nat.reduceAdd, Nat.reduceMul, Nat.reduceEqDiff, Nat.reduceBEq, Nat.reduceLeDiff]; rfl) ?_ | refine st_condT rfl ?_ | refine st_condF rfl ?_ | (refine st_condS rfl ?_ ?_ <;> intro hg <;> (try simp only [decide_eq_true_eq, decide_eq_false_iff_not, Bool.not_eq_true', Bool.not_eq_false'] at hg)) | refine st_nil ?_ | refine st_tN ?_ | refine st_seq ?_ | refine st_block ?_ | refine st_skip ?_ | refine st_exit ?_ | refine st_ret ?_ | refine st_tE ?_ | refine st_tR ?_ | refine st_bN ?_ | refine st_bR ?_ | refine st_bH ?_ | refine st_noN ?_ | refine st_noR ?_ | refine st_noE ?_ | refine st_label ?_ | refine st_scope tab mixed (by decide) ?_ | refine st_bM rfl ?_)
      refine ⟨h1, ?_⟩
      dsimp only
      repeat' (first | refine st_seq_reg rfl (by first | (simp only [go_sem, h4, h5, h6, hn32]; rfl) | rfl) (by first | (simp only [go_sem, h4, h5, h6, hn32]; rfl) | rfl) ?_ | refine st_reg rfl (by first | (simp only [go_sem, h4, h5, h6, hn32]; rfl) | rfl) (by first | (simp only [go_sem, h4, h5, h6, hn32]; rfl) | rfl) ?_ | refine st_op ?_ | refine st_det rfl (by simp (disch := omega) only [go_sem, wr_i64, if_yes, if_no, ↓reduceIte, Nat.reduceAdd, Nat.reduceMul, Nat.reduceEqDiff, Nat.reduceBEq, Nat.reduceLeDiff, h4, h5, h6, hn32]; rfl) ?_ | refine st_loc rfl (by simp (disch := omega) only [go_sem, wr_i64, if_yes, if_no, ↓reduceIte, Nat.reduceAdd, Nat.reduceMul, Nat.reduceEqDiff, Nat.reduceBEq, Nat.reduceLeDiff, h4, h5, h6, hn32]; rfl) ?_ | refine st_heap rfl (by simp (disch := omega) only [go_sem, wr_i64, if_yes, if_no, ↓reduceIte, Nat.reduceAdd, Nat.reduceMul, Nat.reduceEqDiff, Nat.reduceBEq, Nat.reduceLeDiff, h4, h5, h6, hn32]; rfl) ?_ | refine st_store (by simp (disch := omega) only [go_sem, wr_i64, if_yes, if_no, ↓reduceIte, Nat.reduceAdd, Nat.reduceMul, Nat.reduceEqDiff, Nat.reduceBEq, Nat.reduceLeDiff, h4, h5, h6, hn32]; rfl) ?_ | (refine st_pureE (by first | (simp (disch := omega) only [go_sem, h4, h5, h6, hn32]; rfl) | rfl) rfl (c60 l (amts l.fs) s hl hr) (by first | (simp only [go_sem, h4, h5, h6, hn32]; rfl) | rfl) (by intro n; simp (disch := omega) only [go_sem]; rfl) ?_; intro n hn) | refine st_condT rfl ?_ | refine st_condF rfl ?_ | (refine st_condS rfl ?_ ?_ <;> intro hg <;> (try simp only [decide_eq_true_eq, decide_eq_false_iff_not, Bool.not_eq_true', Bool.not_eq_false'] at hg)) | refine st_nil ?_ | refine st_tN ?_ | refine st_seq ?_ | refine st_block ?_ | refine st_skip ?_ | refine st_exit ?_ | refine st_ret ?_ | refine st_tE ?_ | refine st_tR ?_ | refine st_bN ?_ | refine st_bR ?_ | refine st_bH ?_ | refine st_noN ?_ | refine st_noR ?_ | refine st_noE ?_ | refine st_label ?_ | refine st_scope tab mixed (by decide) ?_ | refine st_bM rfl ?_)
      · refine ⟨by simp only [go_sem], .inr ⟨by simp [shortB, *], rfl, lpSet_same _ _ _, fun l' hl' => ?_, ⟨fun b' hb' => ?_, ?_⟩, ?_, ?_⟩⟩
        · rw [lpSet_ne _ _ hl']; simp only [go_sem]; rw [lpSet_ne _ _ hl']; exact h2 l' hl'
        · simp only [go_sem]; rw [if_neg (hne3 b' hb'), if_neg (hne2 b' hb')]; exact h3 b' hb'
        · simp only [go_sem]; omega
        · simp (disch := omega) only [go_sem, hn23, ↓reduceIte, Nat.reduceEqDiff, Nat.reduceLeDiff] <;> rfl
        · simp (disch := omega) only [go_sem, ↓reduceIte, Nat.reduceEqDiff, Nat.reduceLeDiff] <;> rfl
      · refine ⟨by simp only [go_sem], .inl ⟨by simp [shortB]; omega, rfl, lpSet_same _ _ _, fun l' hl' => ?_, ⟨fun b' hb' => h3 b' hb', ?_⟩, h4, h5, h6⟩⟩
        · rw [lpSet_ne _ _ hl']; simp only [go_sem]; rw [lpSet_ne _ _ hl']; exact h2 l' hl'
        · simp only [go_sem]; omega
    · exact ⟨lpSet_same _ _ _, fun l' hl' => by rw [lpSet_ne _ _ hl']; simp only [go_sem]; rw [i7], ⟨fun b' hb' => i3.1 b' hb', by simp only [go_sem]; have := i3.2; omega⟩, i4, i5, i6⟩
    · intro k b hk hkb
      simp only [go_sem] at hkb hk
      have h2b := i3.2
      have q2 : ¬ ((h.clk, 2) : Nat × Nat) = b := fun e => by rw [← e] at hkb; dsimp only at hkb; omega
      have q3 : ¬ ((h.clk, 3) : Nat × Nat) = b := fun e => by rw [← e] at hkb; dsimp only at hkb; omega
      have q4 : ¬ ((h.clk + 1, 4) : Nat × Nat) = b := fun e => by rw [← e] at hkb; dsimp only at hkb; omega
      have hob : ∀ b' : Bid, b'.1 < h.clk → ¬ b' = b := fun b' hb' e => by rw [e] at hb'; omega
      exact ⟨lpSet_same _ _ _, fun l' hl' => by show (AH.lpSet _ _ _).lp l' = _; rw [lpSet_ne _ _ hl']; simp only [go_sem]; rw [i7], ⟨fun b' hb' => by simp only [go_sem]; rw [if_neg (hob b' hb')]; exact i3.1 b' hb', by show h.clk + 2 ≤ k; omega⟩, by simp only [go_sem, q2, ↓reduceIte]; exact i4, by simp only [go_sem, q3, ↓reduceIte]; exact i5, by simp only [go_sem, q4, ↓reduceIte]; exact i6⟩
    · rintro v h' (⟨hf, h1, h2, ⟨h3, h3'⟩, h4, h5, h6⟩ | ⟨x, hf, h1, h2, ⟨h3, h3'⟩, h4, h5⟩)
      · refine .inl ⟨h1, st_bN (st_bN (st_tN ?_))⟩
        repeat' (first | refine st_seq_reg rfl (by first | (simp only [go_sem]; rfl) | rfl) (by first | (simp only [go_sem]; rfl) | rfl) ?_ | refine st_reg rfl (by first | (simp only [go_sem]; rfl) | rfl) (by first | (simp only [go_sem]; rfl) | rfl) ?_ | refine st_op ?_ | refine st_det rfl (by simp (disch := omega) only [go_sem, wr_i64, if_yes, if_no, ↓reduceIte, Nat.reduceAdd, Nat.reduceMul, Nat.reduceEqDiff, Nat.reduceBEq, Nat.reduceLeDiff]; rfl) ?_ | refine st_loc rfl (by simp (disch := omega) only [go_sem, wr_i64, if_yes, if_no, ↓reduceIte, Nat.reduceAdd, Nat.reduceMul, Nat.reduceEqDiff, Nat.reduceBEq, Nat.reduceLeDiff]; rfl) ?_ | refine st_heap rfl (by simp (disch := omega) only [go_sem, wr_i64, if_yes, if_no, ↓reduceIte, Nat.reduceAdd, Nat.reduceMul, Nat.reduceEqDiff, Nat.reduceBEq, Nat.reduceLeDiff]; rfl) ?_ | refine st_store (by simp (disch := omega) only [go_sem, wr_i64, if_yes, if_no, ↓reduceIte, Nat.reduceAdd, Nat.reduceMul, Nat.reduceEqDiff, Nat.reduceBEq, Nat.reduceLeDiff]; rfl) ?_ | refine st_condT rfl ?_ | refine st_condF rfl ?_ | (refine st_condS rfl ?_ ?_ <;> intro hg <;> (try simp only [decide_eq_true_eq, decide_eq_false_iff_not, Bool.not_eq_true', Bool.not_eq_false'] at hg)) | refine st_nil ?_ | refine st_tN ?_ | refine st_seq ?_ | refine st_block ?_ | refine st_skip ?_ | refine st_exit ?_ | refine st_ret ?_ | refine st_tE ?_ | refine st_tR ?_ | refine st_bN ?_ | refine st_bR ?_ | refine st_bH ?_ | refine st_noN ?_ | refine st_noR ?_ | refine st_noE ?_ | refine st_label ?_ | refine st_scope tab mixed (by decide) ?_ | refine st_bM rfl ?_)
        refine ⟨(m + 1, h'.lpSet lp none), ⟨by show m + 1 ≤ l.bs.length; omega, fnd_none i2 (by rw [Nat.add_comm 1 m]; exact hf), ⟨fun b' hb' => h3 b' hb', h3'⟩, ⟨h4, h5, h6⟩, hlp2 h' h2⟩, by show l.bs.length - (m + 1) < l.bs.length - m; omega, (by repeat' (first | exact trivial | refine And.intro ?_ ?_ | rfl | (simp (disch := omega) only [go_sem, if_yes, if_no, ↓reduceIte, Nat.reduceAdd, Nat.reduceMul, Nat.reduceEqDiff, Nat.reduceBEq, Nat.reduceLeDiff]; rfl) | (simp (disch := omega) only [go_sem, if_yes, if_no, ↓reduceIte, Nat.reduceAdd, Nat.reduceMul, Nat.reduceEqDiff, Nat.reduceBEq, Nat.reduceLeDiff]))), (by repeat' (first | exact trivial | refine And.intro ?_ ?_ | rfl | (simp (disch := omega) only [go_sem, if_yes, if_no, ↓reduceIte, Nat.reduceAdd, Nat.reduceMul, Nat.reduceEqDiff, Nat.reduceBEq, Nat.reduceLeDiff]; rfl) | (simp (disch := omega) only [go_sem, if_yes, if_no, ↓reduceIte, Nat.reduceAdd, Nat.reduceMul, Nat.reduceEqDiff, Nat.reduceBEq, Nat.reduceLeDiff]))), HOld.tick (Nat.le_succ _)⟩
      · refine .inr ⟨.ret, h1, ASem.ret (st_bR (st_bR (st_tR ?_)))⟩
        repeat' (first | refine st_seq_reg rfl (by first | (simp only [go_sem]; rfl) | rfl) (by first | (simp only [go_sem]; rfl) | rfl) ?_ | refine st_reg rfl (by first | (simp only [go_sem]; rfl) | rfl) (by first | (simp only [go_sem]; rfl) | rfl) ?_ | refine st_op ?_ | refine st_det rfl (by simp (disch := omega) only [go_sem, wr_i64, if_yes, if_no, ↓reduceIte, Nat.reduceAdd, Nat.reduceMul, Nat.reduceEqDiff, Nat.reduceBEq, Nat.reduceLeDiff]; rfl) ?_ | refine st_loc rfl (by simp (disch := omega) only [go_sem, wr_i64, if_yes, if_no, ↓reduceIte, Nat.reduceAdd, Nat.reduceMul, Nat.reduceEqDiff, Nat.reduceBEq, Nat.reduceLeDiff]; rfl) ?_ | refine st_heap rfl (by simp (disch := omega) only [go_sem, wr_i64, if_yes, if_no, ↓reduceIte, Nat.reduceAdd, Nat.reduceMul, Nat.reduceEqDiff, Nat.reduceBEq, Nat.reduceLeDiff]; rfl) ?_ | refine st_store (by simp (disch := omega) only [go_sem, wr_i64, if_yes, if_no, ↓reduceIte, Nat.reduceAdd, Nat.reduceMul, Nat.reduceEqDiff, Nat.reduceBEq, Nat.reduceLeDiff]; rfl) ?_ | refine st_condT rfl ?_ | refine st_condF rfl ?_ | (refine st_condS rfl ?_ ?_ <;> intro hg <;> (try simp only [decide_eq_true_eq, decide_eq_false_iff_not, Bool.not_eq_true', Bool.not_eq_false'] at hg)) | refine st_nil ?_ | refine st_tN ?_ | refine st_seq ?_ | refine st_block ?_ | refine st_skip ?_ | refine st_exit ?_ | refine st_ret ?_ | refine st_tE ?_ | refine st_tR ?_ | refine st_bN ?_ | refine st_bR ?_ | refine st_bH ?_ | refine st_noN ?_ | refine st_noR ?_ | refine st_noE ?_ | refine st_label ?_ | refine st_scope tab mixed (by decide) ?_ | refine st_bM rfl ?_)
        simp (disch := omega) only [AEnd, Try.results56, aresK, fin, go_sem, ↓reduceIte, Nat.reduceEqDiff, Nat.reduceAdd, Nat.reduceLeDiff, if_yes, if_no, implies_true, true_and, and_true, List.reverse_cons, List.reverse_nil, hlp2 h' h2, h4, h5]
        refine ⟨h3, ?_⟩
        have e : prf l = some x := wkN_pre (k := m + 1) (fnd_some i2 (by rw [Nat.add_comm 1 m]; exact hf)) (by omega)
        rw [e]; rfl
  · obtain rfl : m = l.bs.length := by omega
    simp (disch := omega) only [AEnd, Try.results56, aresK, fin, go_sem, ↓reduceIte, Nat.reduceEqDiff, Nat.reduceAdd, Nat.reduceLeDiff, if_yes, if_no, implies_true, true_and, and_true, List.reverse_cons, List.reverse_nil, hn23]
    refine ⟨fun b' hb' => by rw [if_neg (hne3 b' hb'), if_neg (hne2 b' hb')]; exact i3.1 b' hb', i7, ?_⟩
    have e : prf l = none := i2
    rw [e]; rfl
end Go.Proofs.Ytbbkeakbomngoaa
