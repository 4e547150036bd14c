/- Contracts of functions that the claim reaches: what each call gives, told in our own logic. Conditions: those of each theorem. -/
import Derived.Test.YtbbkeakbomngoaaG41
set_option linter.all false
set_option linter.unusedSimpArgs false
set_option linter.unusedVariables false
namespace Go.Proofs.Ytbbkeakbomngoaa
open Go.Av
attribute [local irreducible] thenA blockA awp awpOps awpD awp1
set_option maxHeartbeats 8000000
set_option maxRecDepth 20000
/-! ### All traces of a ledger -/
def amtL (l : Lg) : List Int := l.fs.map Fd.amt
theorem amtL_elt {l : Lg} {j : Nat} (h : j < l.fs.length) : elt (amtL l) j = (fd l.fs j).amt := by
  unfold elt amtL fd
  simp [List.getD_eq_getElem?_getD, h]
def allK (l : Lg) : Nat := l.bs.length * (l.fs.length + 1) + l.fs.length + 1
def allL (l : Lg) : List (List (List Int)) := trN l (allK l) [] [] (amtL l) (nextA l 0)
structure AlS where
  i : Nat
  v : AV
  g : AH
theorem c41 (l : Lg) (C : Nat) (hl : LgOk l) (hC : ∀ i, i < l.bs.length → (bl l.bs i).amt ≤ C) (hC4 : C ≤ 4) (hf3 : l.fs.length ≤ 3) (hb3 : l.bs.length ≤ 3) : Pure Try.prog 41 [l.av] (fun v => v = .lst 1 ((allL l).map rowT)) := by
  have hnx : nextA l 0 = if 0 < l.bs.length then (bl l.bs 0).amt else 0 := rfl
  have hK : allK l ≤ 16 := by
    have : l.bs.length * (l.fs.length + 1) ≤ 3 * 4 := Nat.mul_le_mul hb3 (by omega)
    unfold allK
    omega
  refine Pure.give Try.call41 fun h hall => ?_
  refine ACalls.of tab mixed Try.call41 Try.func41 rfl (fi := ⟨35, [], [1, 20, 1000009], none, []⟩) rfl rfl (Nat.le_of_ble_eq_true rfl) (by decide) ?_
  unfold startA
  repeat' (first | refine st_seq_reg rfl (by first | (simp only [go_sem]; rfl) | rfl) (by first | (simp only [go_sem]; rfl) | rfl) ?_ | refine st_reg rfl (by first | (simp only [go_sem]; rfl) | rfl) (by first | (simp only [go_sem]; rfl) | rfl) ?_ | refine st_op ?_ | refine st_det rfl (by simp (disch := omega) only [go_sem, wr_i64, if_yes, if_no, ↓reduceIte, Nat.reduceAdd, Nat.reduceMul, Nat.reduceEqDiff, Nat.reduceBEq, Nat.reduceLeDiff]; rfl) ?_ | refine st_loc rfl (by simp (disch := omega) only [go_sem, wr_i64, if_yes, if_no, ↓reduceIte, Nat.reduceAdd, Nat.reduceMul, Nat.reduceEqDiff, Nat.reduceBEq, Nat.reduceLeDiff]; rfl) ?_ | refine st_heap rfl (by simp (disch := omega) only [go_sem, wr_i64, if_yes, if_no, ↓reduceIte, Nat.reduceAdd, Nat.reduceMul, Nat.reduceEqDiff, Nat.reduceBEq, Nat.reduceLeDiff]; rfl) ?_ | refine st_append (by simp (disch := omega) only [go_sem, wr_i64, if_yes, if_no, ↓reduceIte, Nat.reduceAdd, Nat.reduceMul, Nat.reduceEqDiff, Nat.reduceBEq, Nat.reduceLeDiff]; rfl) ?_ | refine st_condT rfl ?_ | refine st_condF rfl ?_ | (refine st_condS rfl ?_ ?_ <;> intro hg <;> (try simp only [decide_eq_true_eq, decide_eq_false_iff_not, Bool.not_eq_true', Bool.not_eq_false'] at hg)) | refine st_nil ?_ | refine st_tN ?_ | refine st_seq ?_ | refine st_block ?_ | refine st_skip ?_ | refine st_exit ?_ | refine st_ret ?_ | refine st_tE ?_ | refine st_tR ?_ | refine st_bN ?_ | refine st_bR ?_ | refine st_bH ?_ | refine st_bM rfl ?_)
  refine st_loopH (α := AlS) tab mixed [] [] (by repeat (first | exact trivial | refine ⟨rfl, ?_⟩)) [] [] (by repeat (first | exact trivial | refine ⟨rfl, ?_⟩)) (fun a => [(4, .int .i64 (a.i : Nat)), (3, a.v)]) [(1, _)] (fun _ => []) [] (fun a => a.g) (fun a => a.i ≤ l.fs.length ∧ (∀ b' : Nat × Nat, b'.1 < h.clk → a.g.at_ b' = h.at_ b') ∧ a.g.lp = h.lp ∧ h.clk ≤ a.g.clk ∧ Sl h a.g a.v 1 (((amtL l).take a.i).map iv)) (fun a => l.fs.length - a.i) (by decide) ⟨0, .nils, h⟩ ⟨Nat.zero_le _, fun _ _ => rfl, rfl, Nat.le_refl _, .inl ⟨rfl, rfl⟩⟩ (by (try simp only [go_sem]); repeat' (first | exact trivial | refine And.intro ?_ ?_ | rfl | (simp (disch := omega) only [go_sem, if_yes, if_no, ↓reduceIte, Nat.reduceAdd, Nat.reduceMul, Nat.reduceEqDiff, Nat.reduceBEq, Nat.reduceLeDiff]; rfl) | (simp (disch := omega) only [go_sem, if_yes, if_no, ↓reduceIte, Nat.reduceAdd, Nat.reduceMul, Nat.reduceEqDiff, Nat.reduceBEq, Nat.reduceLeDiff]))) (by (try simp only [go_sem]); repeat' (first | exact trivial | refine And.intro ?_ ?_ | rfl | (simp (disch := omega) only [go_sem, if_yes, if_no, ↓reduceIte, Nat.reduceAdd, Nat.reduceMul, Nat.reduceEqDiff, Nat.reduceBEq, Nat.reduceLeDiff]; rfl) | (simp (disch := omega) only [go_sem, if_yes, if_no, ↓reduceIte, Nat.reduceAdd, Nat.reduceMul, Nat.reduceEqDiff, Nat.reduceBEq, Nat.reduceLeDiff]))) (HOld.tick (by simp only [go_sem]; omega)) ?_
  rintro ⟨i, v, g⟩ c ⟨i1, i2, i3, i4, hS⟩ hc
  dsimp only at i1 i2 i3 i4 hS hc
  simp only [go_sem]
  have hal : (amtL l).length = l.fs.length := List.length_map _
  by_cases hi : i < l.fs.length
  case pos =>
    have htk : ((amtL l).take (i + 1)).map iv = ((amtL l).take i).map iv ++ [[.int .i64 (fd l.fs i).amt]] := by
      rw [List.take_succ_eq_append_getElem (by omega), List.map_append]
      have : (amtL l)[i]'(by omega) = (fd l.fs i).amt := by
        have := amtL_elt hi
        unfold elt at this
        rw [List.getD_eq_getElem?_getD, List.getElem?_eq_getElem (by omega)] at this
        exact this
      rw [this]; rfl
    have hlt : ((amtL l).take i).length = i := by rw [List.length_take]; omega
    rcases hS with ⟨rfl, e2⟩ | ⟨b1, rfl, q2, q3, q4⟩
    · have e3 : (amtL l).take i = [] := by simpa using e2
      obtain rfl : i = 0 := by rw [← hlt, e3]; rfl
      repeat' (first | refine st_seq_reg rfl (by first | (simp only [go_sem, List.length_map, big]; rfl) | rfl) (by first | (simp only [go_sem, List.length_map, big]; rfl) | rfl) ?_ | refine st_reg rfl (by first | (simp only [go_sem, List.length_map, big]; rfl) | rfl) (by first | (simp only [go_sem, List.length_map, big]; rfl) | rfl) ?_ | refine st_op ?_ | refine st_det rfl (by simp (disch := omega) only [go_sem, wr_i64, if_yes, if_no, ↓reduceIte, Nat.reduceAdd, Nat.reduceMul, Nat.reduceEqDiff, Nat.reduceBEq, Nat.reduceLeDiff, List.length_map, big]; rfl) ?_ | refine st_loc rfl (by simp (disch := omega) only [go_sem, wr_i64, if_yes, if_no, ↓reduceIte, Nat.reduceAdd, Nat.reduceMul, Nat.reduceEqDiff, Nat.reduceBEq, Nat.reduceLeDiff, List.length_map, big]; rfl) ?_ | refine st_heap rfl (by simp (disch := omega) only [go_sem, wr_i64, if_yes, if_no, ↓reduceIte, Nat.reduceAdd, Nat.reduceMul, Nat.reduceEqDiff, Nat.reduceBEq, Nat.reduceLeDiff, List.length_map, big]; rfl) ?_ | refine st_append (by simp (disch := omega) only [go_sem, wr_i64, if_yes, if_no, ↓reduceIte, Nat.reduceAdd, Nat.reduceMul, Nat.reduceEqDiff, Nat.reduceBEq, Nat.reduceLeDiff, List.length_map, big]; rfl) ?_ | refine st_condT rfl ?_ | refine st_condF rfl ?_ | (refine st_condS rfl ?_ ?_ <;> intro hg <;> (try simp only [decide_eq_true_eq, decide_eq_false_iff_not, Bool.not_eq_true', Bool.not_eq_false'] at hg)) | refine st_nil ?_ | refine st_tN ?_ | refine st_seq ?_ | refine st_block ?_ | refine st_skip ?_ | refine st_exit ?_ | refine st_ret ?_ | refine st_tE ?_ | refine st_tR ?_ | refine st_bN ?_ | refine st_bR ?_ | refine st_bH ?_ | refine st_bM rfl ?_)
      all_goals try (exfalso; omega)
      have o21 : ∀ b' : Nat × Nat, b'.1 < c + 1 → ¬ b' = (c + 1, 21) := fun b' hb' e => by rw [e] at hb'; exact Nat.lt_irrefl _ hb'
      refine ⟨⟨1, .slc (c + 1, 21) 1 0 1, _⟩, (by refine ⟨by show 1 ≤ l.fs.length; omega, fun b' hb' => (by simp only [go_sem, o21 b' (by omega), ↓reduceIte]; exact i2 b' hb'), i3, (by simp only [go_sem]; omega), .inr ⟨(c + 1, 21), (by rw [htk, e3]; rfl), (by rw [htk, e3]; simp only [go_sem, ↓reduceIte] <;> rfl), by show h.clk ≤ c + 1; omega, by simp only [go_sem]; omega⟩⟩), by show l.fs.length - 1 < l.fs.length - 0; omega, (by repeat' (first | exact trivial | refine And.intro ?_ ?_ | rfl | (simp (disch := omega) only [go_sem, if_yes, if_no, ↓reduceIte, Nat.reduceAdd, Nat.reduceMul, Nat.reduceEqDiff, Nat.reduceBEq, Nat.reduceLeDiff]; rfl) | (simp (disch := omega) only [go_sem, if_yes, if_no, ↓reduceIte, Nat.reduceAdd, Nat.reduceMul, Nat.reduceEqDiff, Nat.reduceBEq, Nat.reduceLeDiff]))), (by repeat' (first | exact trivial | refine And.intro ?_ ?_ | rfl | (simp (disch := omega) only [go_sem, if_yes, if_no, ↓reduceIte, Nat.reduceAdd, Nat.reduceMul, Nat.reduceEqDiff, Nat.reduceBEq, Nat.reduceLeDiff]; rfl) | (simp (disch := omega) only [go_sem, if_yes, if_no, ↓reduceIte, Nat.reduceAdd, Nat.reduceMul, Nat.reduceEqDiff, Nat.reduceBEq, Nat.reduceLeDiff]))), rfl, HOld.refl _⟩
    · have ob1 : ∀ b' : Nat × Nat, b'.1 < h.clk → ¬ b' = b1 := fun b' hb' e => by rw [e] at hb'; omega
      repeat' (first | refine st_seq_reg rfl (by first | (simp only [go_sem, List.length_map, big, hlt, q2]; rfl) | rfl) (by first | (simp only [go_sem, List.length_map, big, hlt, q2]; rfl) | rfl) ?_ | refine st_reg rfl (by first | (simp only [go_sem, List.length_map, big, hlt, q2]; rfl) | rfl) (by first | (simp only [go_sem, List.length_map, big, hlt, q2]; rfl) | rfl) ?_ | refine st_op ?_ | refine st_det rfl (by simp (disch := omega) only [go_sem, wr_i64, if_yes, if_no, ↓reduceIte, Nat.reduceAdd, Nat.reduceMul, Nat.reduceEqDiff, Nat.reduceBEq, Nat.reduceLeDiff, List.length_map, big, hlt, q2]; rfl) ?_ | refine st_loc rfl (by simp (disch := omega) only [go_sem, wr_i64, if_yes, if_no, ↓reduceIte, Nat.reduceAdd, Nat.reduceMul, Nat.reduceEqDiff, Nat.reduceBEq, Nat.reduceLeDiff, List.length_map, big, hlt, q2]; rfl) ?_ | refine st_heap rfl (by simp (disch := omega) only [go_sem, wr_i64, if_yes, if_no, ↓reduceIte, Nat.reduceAdd, Nat.reduceMul, Nat.reduceEqDiff, Nat.reduceBEq, Nat.reduceLeDiff, List.length_map, big, hlt, q2]; rfl) ?_ | refine st_append (by simp (disch := omega) only [go_sem, wr_i64, if_yes, if_no, ↓reduceIte, Nat.reduceAdd, Nat.reduceMul, Nat.reduceEqDiff, Nat.reduceBEq, Nat.reduceLeDiff, List.length_map, big, hlt, q2]; rfl) ?_ | refine st_condT rfl ?_ | refine st_condF rfl ?_ | (refine st_condS rfl ?_ ?_ <;> intro hg <;> (try simp only [decide_eq_true_eq, decide_eq_false_iff_not, Bool.not_eq_true', Bool.not_eq_false'] at hg)) | refine st_nil ?_ | refine st_tN ?_ | refine st_seq ?_ | refine st_block ?_ | refine st_skip ?_ | refine st_exit ?_ | refine st_ret ?_ | refine st_tE ?_ | refine st_tR ?_ | refine st_bN ?_ | refine st_bR ?_ | refine st_bH ?_ | refine st_bM rfl ?_)
      all_goals try (exfalso; omega)
      have o21 : ∀ b' : Nat × Nat, b'.1 < c + 1 → ¬ b' = (c + 1, 21) := fun b' hb' e => by rw [e] at hb'; exact Nat.lt_irrefl _ hb'
      refine ⟨⟨i + 1, .slc (c + 1, 21) 1 0 (i + 1), _⟩, (by refine ⟨by show i + 1 ≤ l.fs.length; omega, fun b' hb' => (by simp only [go_sem, o21 b' (by omega), ob1 b' hb', ↓reduceIte]; exact i2 b' hb'), i3, (by simp only [go_sem]; omega), .inr ⟨(c + 1, 21), (by rw [htk, List.length_append, List.length_map, hlt]; rfl), (by rw [htk]; simp only [go_sem, ↓reduceIte]; rw [List.take_of_length_le (by rw [List.length_map, hlt]; exact Nat.le_refl _)]), by show h.clk ≤ c + 1; omega, by simp only [go_sem]; omega⟩⟩), by show l.fs.length - (i + 1) < l.fs.length - i; omega, (by repeat' (first | exact trivial | refine And.intro ?_ ?_ | rfl | (simp (disch := omega) only [go_sem, if_yes, if_no, ↓reduceIte, Nat.reduceAdd, Nat.reduceMul, Nat.reduceEqDiff, Nat.reduceBEq, Nat.reduceLeDiff]; rfl) | (simp (disch := omega) only [go_sem, if_yes, if_no, ↓reduceIte, Nat.reduceAdd, Nat.reduceMul, Nat.reduceEqDiff, Nat.reduceBEq, Nat.reduceLeDiff]))), (by repeat' (first | exact trivial | refine And.intro ?_ ?_ | rfl | (simp (disch := omega) only [go_sem, if_yes, if_no, ↓reduceIte, Nat.reduceAdd, Nat.reduceMul, Nat.reduceEqDiff, Nat.reduceBEq, Nat.reduceLeDiff]; rfl) | (simp (disch := omega) only [go_sem, if_yes, if_no, ↓reduceIte, Nat.reduceAdd, Nat.reduceMul, Nat.reduceEqDiff, Nat.reduceBEq, Nat.reduceLeDiff]))), rfl, HOld.refl _⟩
  obtain rfl : i = l.fs.length := by omega
  rw [List.take_of_length_le (by omega)] at hS
  have hvn : ∀ b' : Nat × Nat, b'.1 < h.clk → ∀ m, v ≠ .slc b' 1 0 m := fun b' hb' m e => by
    rcases hS with ⟨e', _⟩ | ⟨b1, e', _, q, _⟩
    · rw [e'] at e; cases e
    · rw [e'] at e; injection e with e1; rw [e1] at q; omega
  have hN0 : 0 ≤ nextA l 0 ∧ nextA l 0 ≤ C := by
    unfold nextA
    split
    · rename_i hh; exact ⟨(hl.b _ (bl_mem hh)).amt.1, hC _ hh⟩
    · omega
  have hSt : TrSt l C [] [] (amtL l) (nextA l 0) := ⟨Nat.zero_le _, Nat.zero_le _, hal, hN0, fun j hj => by rw [amtL_elt (by omega)]; exact (hl.f _ (fd_mem (by omega))).amt, fun x hx => by cases hx⟩
  have hme : meas l [] [] < allK l := by
    unfold meas allK
    simp only [List.length_nil, Nat.sub_zero]
    omega
  have hbud : ([] : List (List (List Int))).length + (C + 1) ^ allK l ≤ 200000000000 := by
    have h1 : (C + 1) ^ allK l ≤ 5 ^ 16 := Nat.le_trans (Nat.pow_le_pow_left (by omega) _) (Nat.pow_le_pow_right (by omega) hK)
    have h2 : 5 ^ 16 ≤ 200000000000 := by decide
    rw [List.length_nil]; omega
  by_cases hb0 : 0 < l.bs.length
  · rw [if_pos hb0] at hnx
    repeat' (first | refine st_seq_reg rfl (by first | (simp only [go_sem, List.length_map]; rfl) | rfl) (by first | (simp only [go_sem, List.length_map]; rfl) | rfl) ?_ | refine st_reg rfl (by first | (simp only [go_sem, List.length_map]; rfl) | rfl) (by first | (simp only [go_sem, List.length_map]; rfl) | rfl) ?_ | refine st_op ?_ | refine st_det rfl (by simp (disch := omega) only [go_sem, wr_i64, if_yes, if_no, ↓reduceIte, Nat.reduceAdd, Nat.reduceMul, Nat.reduceEqDiff, Nat.reduceBEq, Nat.reduceLeDiff, List.length_map]; rfl) ?_ | refine st_loc rfl (by simp (disch := omega) only [go_sem, wr_i64, if_yes, if_no, ↓reduceIte, Nat.reduceAdd, Nat.reduceMul, Nat.reduceEqDiff, Nat.reduceBEq, Nat.reduceLeDiff, List.length_map]; rfl) ?_ | refine st_heap rfl (by simp (disch := omega) only [go_sem, wr_i64, if_yes, if_no, ↓reduceIte, Nat.reduceAdd, Nat.reduceMul, Nat.reduceEqDiff, Nat.reduceBEq, Nat.reduceLeDiff, List.length_map]; rfl) ?_ | refine st_append (by simp (disch := omega) only [go_sem, wr_i64, if_yes, if_no, ↓reduceIte, Nat.reduceAdd, Nat.reduceMul, Nat.reduceEqDiff, Nat.reduceBEq, Nat.reduceLeDiff, List.length_map]; rfl) ?_ | refine st_condT rfl ?_ | refine st_condF rfl ?_ | (refine st_condS rfl ?_ ?_ <;> intro hg <;> (try simp only [decide_eq_true_eq, decide_eq_false_iff_not, Bool.not_eq_true', Bool.not_eq_false'] at hg)) | refine st_nil ?_ | refine st_tN ?_ | refine st_seq ?_ | refine st_block ?_ | refine st_skip ?_ | refine st_exit ?_ | refine st_ret ?_ | refine st_tE ?_ | refine st_tR ?_ | refine st_bN ?_ | refine st_bR ?_ | refine st_bH ?_ | refine st_bM rfl ?_)
    all_goals try (exfalso; omega)
    refine st_free ?_
    refine ASem.cutK 3 1 ((amtL l).map iv) ?_ fun H3 h3a h3b h3c => ?_
    · rcases hS with ⟨rfl, e2⟩ | ⟨b2, rfl, q2, q3, q4⟩
      · exact .inl ⟨rfl, e2⟩
      · exact .inr ⟨b2, rfl, q2⟩
    simp only [go_sem] at h3b h3c
    have key : ∀ b' : Nat × Nat, b'.1 < h.clk → H3.at_ b' = h.at_ b' := fun b' hb' => by
      have := h3a b' (fun m e => hvn b' hb' m e)
      rw [this]; exact i2 b' hb'
    refine st_run tab mixed (f2 := ⟨35, [], [1, 20], none, []⟩) rfl rfl (by decide) ?_
    repeat' (first | refine st_seq_reg rfl (by first | (simp only [go_sem]; rfl) | rfl) (by first | (simp only [go_sem]; rfl) | rfl) ?_ | refine st_reg rfl (by first | (simp only [go_sem]; rfl) | rfl) (by first | (simp only [go_sem]; rfl) | rfl) ?_ | refine st_op ?_ | refine st_det rfl (by simp (disch := omega) only [go_sem, wr_i64, if_yes, if_no, ↓reduceIte, Nat.reduceAdd, Nat.reduceMul, Nat.reduceEqDiff, Nat.reduceBEq, Nat.reduceLeDiff]; rfl) ?_ | refine st_loc rfl (by simp (disch := omega) only [go_sem, wr_i64, if_yes, if_no, ↓reduceIte, Nat.reduceAdd, Nat.reduceMul, Nat.reduceEqDiff, Nat.reduceBEq, Nat.reduceLeDiff]; rfl) ?_ | refine st_heap rfl (by simp (disch := omega) only [go_sem, wr_i64, if_yes, if_no, ↓reduceIte, Nat.reduceAdd, Nat.reduceMul, Nat.reduceEqDiff, Nat.reduceBEq, Nat.reduceLeDiff]; rfl) ?_ | refine st_append (by simp (disch := omega) only [go_sem, wr_i64, if_yes, if_no, ↓reduceIte, Nat.reduceAdd, Nat.reduceMul, Nat.reduceEqDiff, Nat.reduceBEq, Nat.reduceLeDiff]; rfl) ?_ | refine st_condT rfl ?_ | refine st_condF rfl ?_ | (refine st_condS rfl ?_ ?_ <;> intro hg <;> (try simp only [decide_eq_true_eq, decide_eq_false_iff_not, Bool.not_eq_true', Bool.not_eq_false'] at hg)) | refine st_nil ?_ | refine st_tN ?_ | refine st_seq ?_ | refine st_block ?_ | refine st_skip ?_ | refine st_exit ?_ | refine st_ret ?_ | refine st_tE ?_ | refine st_tR ?_ | refine st_bN ?_ | refine st_bR ?_ | refine st_bH ?_ | refine st_bM rfl ?_)
    refine st_callf (args := [l.av, .nils, .nils, .lst 1 ((amtL l).map iv), .int .i64 (bl l.bs (Int.toNat 0)).amt, .nils]) rfl rfl (ACalls.argsLe (args' := [l.av, .lst 1 (([] : List (List Int)).map rowA), .lst 1 (([] : List Int).map iv), .lst 1 ((amtL l).map iv), .int .i64 (nextA l 0), .nils]) ?_ (c74 l C hl hC hC4 (allK l) [] [] (amtL l) (nextA l 0) [] .nils _ (by omega) hSt hme (.inl ⟨rfl, rfl⟩) hbud)) ?_
    · simp only [VLes]
      rw [hnx]
      exact ⟨_, _, rfl, .refl _, _, _, rfl, VLe.nils 1, _, _, rfl, VLe.nils 1, _, _, rfl, .refl _, _, _, rfl, .refl _, _, _, rfl, .refl _, rfl⟩
    · rintro v' h' ⟨r1, r2, r3, r4, r5⟩
      simp only [go_sem] at r2 r3 r4
      rw [List.nil_append] at r1
      repeat' (first | refine st_seq_reg rfl (by first | (simp only [go_sem]; rfl) | rfl) (by first | (simp only [go_sem]; rfl) | rfl) ?_ | refine st_reg rfl (by first | (simp only [go_sem]; rfl) | rfl) (by first | (simp only [go_sem]; rfl) | rfl) ?_ | refine st_op ?_ | refine st_det rfl (by simp (disch := omega) only [go_sem, wr_i64, if_yes, if_no, ↓reduceIte, Nat.reduceAdd, Nat.reduceMul, Nat.reduceEqDiff, Nat.reduceBEq, Nat.reduceLeDiff]; rfl) ?_ | refine st_loc rfl (by simp (disch := omega) only [go_sem, wr_i64, if_yes, if_no, ↓reduceIte, Nat.reduceAdd, Nat.reduceMul, Nat.reduceEqDiff, Nat.reduceBEq, Nat.reduceLeDiff]; rfl) ?_ | refine st_heap rfl (by simp (disch := omega) only [go_sem, wr_i64, if_yes, if_no, ↓reduceIte, Nat.reduceAdd, Nat.reduceMul, Nat.reduceEqDiff, Nat.reduceBEq, Nat.reduceLeDiff]; rfl) ?_ | refine st_append (by simp (disch := omega) only [go_sem, wr_i64, if_yes, if_no, ↓reduceIte, Nat.reduceAdd, Nat.reduceMul, Nat.reduceEqDiff, Nat.reduceBEq, Nat.reduceLeDiff]; rfl) ?_ | refine st_condT rfl ?_ | refine st_condF rfl ?_ | (refine st_condS rfl ?_ ?_ <;> intro hg <;> (try simp only [decide_eq_true_eq, decide_eq_false_iff_not, Bool.not_eq_true', Bool.not_eq_false'] at hg)) | refine st_nil ?_ | refine st_tN ?_ | refine st_seq ?_ | refine st_block ?_ | refine st_skip ?_ | refine st_exit ?_ | refine st_ret ?_ | refine st_tE ?_ | refine st_tR ?_ | refine st_bN ?_ | refine st_bR ?_ | refine st_bH ?_ | refine st_bM rfl ?_)
      simp (disch := omega) only [AEnd, Try.results41, aresK, fin, go_sem, ↓reduceIte, Nat.reduceEqDiff, Nat.reduceAdd, Nat.reduceLeDiff, if_yes, if_no, implies_true, true_and, and_true, List.reverse_cons, List.reverse_nil]
      refine ⟨r1.noL, fun b' hb' => ?_, by rw [r3, h3c]; exact i3, ?_⟩
      · rw [r2 b' (by omega) (fun m e => by cases e)]; exact key b' hb'
      · have hT : trN l (allK l) [] [] (amtL l) (nextA l 0) = allL l := rfl
        rw [hT] at r1
        rcases r1 with ⟨rfl, e⟩ | ⟨b1, rfl, q1, q2⟩
        · exact .inl ⟨_, VLe.nils 1, by rw [e]; rfl⟩
        · refine .inr ⟨b1, _, ?_, q1, ?_⟩
          · rcases r5 b1 _ rfl with q | ⟨m', q⟩
            · simp only [go_sem] at q; omega
            · cases q
          · rw [← List.length_map rowT, frz_whole]
  · rw [if_neg hb0] at hnx
    repeat' (first | refine st_seq_reg rfl (by first | (simp only [go_sem, List.length_map]; rfl) | rfl) (by first | (simp only [go_sem, List.length_map]; rfl) | rfl) ?_ | refine st_reg rfl (by first | (simp only [go_sem, List.length_map]; rfl) | rfl) (by first | (simp only [go_sem, List.length_map]; rfl) | rfl) ?_ | refine st_op ?_ | refine st_det rfl (by simp (disch := omega) only [go_sem, wr_i64, if_yes, if_no, ↓reduceIte, Nat.reduceAdd, Nat.reduceMul, Nat.reduceEqDiff, Nat.reduceBEq, Nat.reduceLeDiff, List.length_map]; rfl) ?_ | refine st_loc rfl (by simp (disch := omega) only [go_sem, wr_i64, if_yes, if_no, ↓reduceIte, Nat.reduceAdd, Nat.reduceMul, Nat.reduceEqDiff, Nat.reduceBEq, Nat.reduceLeDiff, List.length_map]; rfl) ?_ | refine st_heap rfl (by simp (disch := omega) only [go_sem, wr_i64, if_yes, if_no, ↓reduceIte, Nat.reduceAdd, Nat.reduceMul, Nat.reduceEqDiff, Nat.reduceBEq, Nat.reduceLeDiff, List.length_map]; rfl) ?_ | refine st_append (by simp (disch := omega) only [go_sem, wr_i64, if_yes, if_no, ↓reduceIte, Nat.reduceAdd, Nat.reduceMul, Nat.reduceEqDiff, Nat.reduceBEq, Nat.reduceLeDiff, List.length_map]; rfl) ?_ | refine st_condT rfl ?_ | refine st_condF rfl ?_ | (refine st_condS rfl ?_ ?_ <;> intro hg <;> (try simp only [decide_eq_true_eq, decide_eq_false_iff_not, Bool.not_eq_true', Bool.not_eq_false'] at hg)) | refine st_nil ?_ | refine st_tN ?_ | refine st_seq ?_ | refine st_block ?_ | refine st_skip ?_ | refine st_exit ?_ | refine st_ret ?_ | refine st_tE ?_ | refine st_tR ?_ | refine st_bN ?_ | refine st_bR ?_ | refine st_bH ?_ | refine st_bM rfl ?_)
    all_goals try (exfalso; omega)
    refine st_free ?_
    refine ASem.cutK 3 1 ((amtL l).map iv) ?_ fun H3 h3a h3b h3c => ?_
    · rcases hS with ⟨rfl, e2⟩ | ⟨b2, rfl, q2, q3, q4⟩
      · exact .inl ⟨rfl, e2⟩
      · exact .inr ⟨b2, rfl, q2⟩
    simp only [go_sem] at h3b h3c
    have key : ∀ b' : Nat × Nat, b'.1 < h.clk → H3.at_ b' = h.at_ b' := fun b' hb' => by
      have := h3a b' (fun m e => hvn b' hb' m e)
      rw [this]; exact i2 b' hb'
    refine st_run tab mixed (f2 := ⟨35, [], [1, 20], none, []⟩) rfl rfl (by decide) ?_
    repeat' (first | refine st_seq_reg rfl (by first | (simp only [go_sem]; rfl) | rfl) (by first | (simp only [go_sem]; rfl) | rfl) ?_ | refine st_reg rfl (by first | (simp only [go_sem]; rfl) | rfl) (by first | (simp only [go_sem]; rfl) | rfl) ?_ | refine st_op ?_ | refine st_det rfl (by simp (disch := omega) only [go_sem, wr_i64, if_yes, if_no, ↓reduceIte, Nat.reduceAdd, Nat.reduceMul, Nat.reduceEqDiff, Nat.reduceBEq, Nat.reduceLeDiff]; rfl) ?_ | refine st_loc rfl (by simp (disch := omega) only [go_sem, wr_i64, if_yes, if_no, ↓reduceIte, Nat.reduceAdd, Nat.reduceMul, Nat.reduceEqDiff, Nat.reduceBEq, Nat.reduceLeDiff]; rfl) ?_ | refine st_heap rfl (by simp (disch := omega) only [go_sem, wr_i64, if_yes, if_no, ↓reduceIte, Nat.reduceAdd, Nat.reduceMul, Nat.reduceEqDiff, Nat.reduceBEq, Nat.reduceLeDiff]; rfl) ?_ | refine st_append (by simp (disch := omega) only [go_sem, wr_i64, if_yes, if_no, ↓reduceIte, Nat.reduceAdd, Nat.reduceMul, Nat.reduceEqDiff, Nat.reduceBEq, Nat.reduceLeDiff]; rfl) ?_ | refine st_condT rfl ?_ | refine st_condF rfl ?_ | (refine st_condS rfl ?_ ?_ <;> intro hg <;> (try simp only [decide_eq_true_eq, decide_eq_false_iff_not, Bool.not_eq_true', Bool.not_eq_false'] at hg)) | refine st_nil ?_ | refine st_tN ?_ | refine st_seq ?_ | refine st_block ?_ | refine st_skip ?_ | refine st_exit ?_ | refine st_ret ?_ | refine st_tE ?_ | refine st_tR ?_ | refine st_bN ?_ | refine st_bR ?_ | refine st_bH ?_ | refine st_bM rfl ?_)
    refine st_callf (args := [l.av, .nils, .nils, .lst 1 ((amtL l).map iv), .int .i64 0, .nils]) rfl rfl (ACalls.argsLe (args' := [l.av, .lst 1 (([] : List (List Int)).map rowA), .lst 1 (([] : List Int).map iv), .lst 1 ((amtL l).map iv), .int .i64 (nextA l 0), .nils]) ?_ (c74 l C hl hC hC4 (allK l) [] [] (amtL l) (nextA l 0) [] .nils _ (by omega) hSt hme (.inl ⟨rfl, rfl⟩) hbud)) ?_
    · simp only [VLes]
      rw [hnx]
      exact ⟨_, _, rfl, .refl _, _, _, rfl, VLe.nils 1, _, _, rfl, VLe.nils 1, _, _, rfl, .refl _, _, _, rfl, .refl _, _, _, rfl, .refl _, rfl⟩
    · rintro v' h' ⟨r1, r2, r3, r4, r5⟩
      simp only [go_sem] at r2 r3 r4
      rw [List.nil_append] at r1
      repeat' (first | refine st_seq_reg rfl (by first | (simp only [go_sem]; rfl) | rfl) (by first | (simp only [go_sem]; rfl) | rfl) ?_ | refine st_reg rfl (by first | (simp only [go_sem]; rfl) | rfl) (by first | (simp only [go_sem]; rfl) | rfl) ?_ | refine st_op ?_ | refine st_det rfl (by simp (disch := omega) only [go_sem, wr_i64, if_yes, if_no, ↓reduceIte, Nat.reduceAdd, Nat.reduceMul, Nat.reduceEqDiff, Nat.reduceBEq, Nat.reduceLeDiff]; rfl) ?_ | refine st_loc rfl (by simp (disch := omega) only [go_sem, wr_i64, if_yes, if_no, ↓reduceIte, Nat.reduceAdd, Nat.reduceMul, Nat.reduceEqDiff, Nat.reduceBEq, Nat.reduceLeDiff]; rfl) ?_ | refine st_heap rfl (by simp (disch := omega) only [go_sem, wr_i64, if_yes, if_no, ↓reduceIte, Nat.reduceAdd, Nat.reduceMul, Nat.reduceEqDiff, Nat.reduceBEq, Nat.reduceLeDiff]; rfl) ?_ | refine st_append (by simp (disch := omega) only [go_sem, wr_i64, if_yes, if_no, ↓reduceIte, Nat.reduceAdd, Nat.reduceMul, Nat.reduceEqDiff, Nat.reduceBEq, Nat.reduceLeDiff]; rfl) ?_ | refine st_condT rfl ?_ | refine st_condF rfl ?_ | (refine st_condS rfl ?_ ?_ <;> intro hg <;> (try simp only [decide_eq_true_eq, decide_eq_false_iff_not, Bool.not_eq_true', Bool.not_eq_false'] at hg)) | refine st_nil ?_ | refine st_tN ?_ | refine st_seq ?_ | refine st_block ?_ | refine st_skip ?_ | refine st_exit ?_ | refine st_ret ?_ | refine st_tE ?_ | refine st_tR ?_ | refine st_bN ?_ | refine st_bR ?_ | refine st_bH ?_ | refine st_bM rfl ?_)
      simp (disch := omega) only [AEnd, Try.results41, aresK, fin, go_sem, ↓reduceIte, Nat.reduceEqDiff, Nat.reduceAdd, Nat.reduceLeDiff, if_yes, if_no, implies_true, true_and, and_true, List.reverse_cons, List.reverse_nil]
      refine ⟨r1.noL, fun b' hb' => ?_, by rw [r3, h3c]; exact i3, ?_⟩
      · rw [r2 b' (by omega) (fun m e => by cases e)]; exact key b' hb'
      · have hT : trN l (allK l) [] [] (amtL l) (nextA l 0) = allL l := rfl
        rw [hT] at r1
        rcases r1 with ⟨rfl, e⟩ | ⟨b1, rfl, q1, q2⟩
        · exact .inl ⟨_, VLe.nils 1, by rw [e]; rfl⟩
        · refine .inr ⟨b1, _, ?_, q1, ?_⟩
          · rcases r5 b1 _ rfl with q | ⟨m', q⟩
            · simp only [go_sem] at q; omega
            · cases q
          · rw [← List.length_map rowT, frz_whole]
end Go.Proofs.Ytbbkeakbomngoaa
