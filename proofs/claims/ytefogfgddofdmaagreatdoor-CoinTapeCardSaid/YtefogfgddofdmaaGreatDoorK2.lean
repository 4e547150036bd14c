/- Contracts of functions that the claim reaches: what each call gives, told in our own logic. Conditions: those of each theorem. -/
import Derived.Test.YtefogfgddofdmaaGreatDoorG5
import Derived.Test.YtefogfgddofdmaaGreatDoorG2
set_option linter.all false
set_option linter.unusedSimpArgs false
set_option linter.unusedVariables false
namespace Go.Proofs.YtefogfgddofdmaaGreatDoor
open Go.Av
attribute [local irreducible] thenA blockA awp awpOps awpD awp1
set_option maxHeartbeats 8000000
set_option maxRecDepth 20000
def firstE (f : Nat → Int) : Nat → Nat → Int
  | _, 0 => 0
  | i, k + 1 => if f i ≠ 0 then f i else firstE f (i + 1) k
theorem firstE_at {f : Nat → Int} {i n : Nat} (h : i < n) : firstE f i (n - i) = if f i ≠ 0 then f i else firstE f (i + 1) (n - (i + 1)) := by
  obtain ⟨k, hk⟩ : ∃ k, n - i = k + 1 := ⟨n - i - 1, by omega⟩
  rw [hk, show n - (i + 1) = k by omega]; rfl
theorem firstE_hit {f : Nat → Int} {i n : Nat} {e : Int} (h : i < n) (he : f i = e) (hn : e ≠ 0) : firstE f i (n - i) = e := by
  rw [firstE_at h, he, if_pos hn]
theorem firstE_miss {f : Nat → Int} {i n : Nat} (h : i < n) (he : f i = 0) : firstE f (i + 1) (n - (i + 1)) = firstE f i (n - i) := by
  rw [firstE_at h, he, if_neg (by simp)]
theorem firstE_end {f : Nat → Int} {i : Nat} : firstE f i (i - i) = 0 := by rw [Nat.sub_self]; rfl
theorem firstE_zero {f : Nat → Int} : ∀ {k i : Nat}, firstE f i k = 0 → ∀ j, i ≤ j → j < i + k → f j = 0
  | 0, i, _, j, h1, h2 => by omega
  | k + 1, i, h, j, h1, h2 => by
    have h' : (if f i ≠ 0 then f i else firstE f (i + 1) k) = 0 := h
    split at h'
    · rename_i hn; exact absurd h' hn
    · rename_i hn
      by_cases e : j = i
      · rw [e]; exact Decidable.not_not.1 hn
      · exact firstE_zero h' j (by omega) (by omega)
def useE (l : List Int) (i : Nat) : Int := if ¬ (0 ≤ l.getD i 0 ∧ l.getD i 0 ≤ 7) then 2 else if 0 < i ∧ l.getD i 0 ≤ l.getD (i - 1) 0 then 9 else 0
def fundE (x : Fd) : Int :=
  if ¬ (0 ≤ x.day ∧ x.day ≤ 3650 ∧ 0 ≤ x.till ∧ x.till ≤ 3650) then 2 else
  if x.till < x.day then 9 else
  if ¬ (0 ≤ x.amt ∧ x.amt ≤ 1000000000) then 2 else
  if 8 < x.uses.length then 5 else firstE (useE x.uses) 0 x.uses.length
def billE (x : Bl) : Int := if 0 ≤ x.day ∧ x.day ≤ 3650 ∧ 0 ≤ x.use ∧ x.use ≤ 7 ∧ 0 ≤ x.amt ∧ x.amt ≤ 1000000000 then 0 else 2
def fundsE (l : Lg) : Int := firstE (fun i => fundE (fd l.fs i)) 0 l.fs.length
def chkE (l : Lg) : Int :=
  if 8 < l.fs.length then 5 else
  if fundsE l ≠ 0 then fundsE l else
  if 8 < l.bs.length then 5 else firstE (fun i => billE (bl l.bs i)) 0 l.bs.length
theorem fundOk {x : Fd} (h : fundE x = 0) : FdOk x := by
  unfold fundE at h
  (repeat' split at h) <;> first | omega | skip
  refine ⟨by omega, by omega, by omega, by omega, fun u hu => ?_⟩
  obtain ⟨i, hi, rfl⟩ := List.mem_iff_getElem.1 hu
  have := firstE_zero h i (by omega) (by omega)
  unfold useE at this
  rw [List.getD_eq_getElem?_getD, List.getElem?_eq_getElem hi] at this
  simp only [Option.getD_some] at this
  split at this
  · omega
  · omega
theorem ledgerOk {l : Lg} (h : chkE l = 0) : LgOk l := by
  unfold chkE at h
  split at h
  · omega
  split at h
  · omega
  split at h
  · omega
  rename_i h1 h2 h3
  have h2' : fundsE l = 0 := by omega
  refine ⟨by omega, by omega, fun x hx => ?_, fun x hx => ?_⟩
  · obtain ⟨i, hi, rfl⟩ := List.mem_iff_getElem.1 hx
    have := firstE_zero h2' i (by omega) (by omega)
    have e : fd l.fs i = l.fs[i] := by simp [fd, List.getD_eq_getElem?_getD, hi]
    rw [e] at this
    exact fundOk this
  · obtain ⟨i, hi, rfl⟩ := List.mem_iff_getElem.1 hx
    have := firstE_zero h i (by omega) (by omega)
    have e : bl l.bs i = l.bs[i] := by simp [bl, List.getD_eq_getElem?_getD, hi]
    rw [e] at this
    unfold billE at this
    split at this
    · exact ⟨by omega, by omega, by omega⟩
    · omega
theorem c52 (x : Fd) : Pure Tryz.prog 52 [.agg x.row] (fun v => v = .int .i64 (fundE x)) := by
  intro h
  refine ACalls.forget (ACalls.of tab mixed Tryz.call52 Tryz.func52 rfl (fi := ⟨57, [], [1, 10, 22, 40], none, []⟩) rfl rfl (Nat.le_of_ble_eq_true rfl) (by decide) ?_)
  unfold startA
  simp only [go_sem]
  repeat' (first | refine st_seq_reg rfl (by first | (simp only [go_sem]; rfl) | rfl) (by first | (simp only [go_sem]; rfl) | rfl) ?_ | refine st_reg rfl (by first | (simp only [go_sem]; rfl) | rfl) (by first | (simp only [go_sem]; rfl) | rfl) ?_ | refine st_op ?_ | refine st_det rfl (by simp (disch := omega) only [go_sem, wr_i64, if_yes, if_no, ↓reduceIte, Nat.reduceAdd, Nat.reduceMul, Nat.reduceEqDiff, Nat.reduceBEq, Nat.reduceLeDiff]; rfl) ?_ | refine st_loc rfl (by simp (disch := omega) only [go_sem, wr_i64, if_yes, if_no, ↓reduceIte, Nat.reduceAdd, Nat.reduceMul, Nat.reduceEqDiff, Nat.reduceBEq, Nat.reduceLeDiff]; rfl) ?_ | refine st_heap rfl (by simp (disch := omega) only [go_sem, wr_i64, if_yes, if_no, ↓reduceIte, Nat.reduceAdd, Nat.reduceMul, Nat.reduceEqDiff, Nat.reduceBEq, Nat.reduceLeDiff]; rfl) ?_ | (refine st_pureE (by first | (simp (disch := omega) only [go_sem]; rfl) | rfl) rfl (c47b _ _ _ _) (by first | (simp only [go_sem]; rfl) | rfl) (by intro n; first | (simp (disch := omega) only [go_sem]; rfl) | rfl) ?_; intro n hn) | (refine st_pureE (by first | (simp (disch := omega) only [go_sem]; rfl) | rfl) rfl (c47a _ _ _) (by first | (simp only [go_sem]; rfl) | rfl) (by intro n; first | (simp (disch := omega) only [go_sem]; rfl) | rfl) ?_; intro n hn) | refine st_gT rfl rfl rfl ?_ | refine st_gF rfl rfl rfl ?_ | (refine st_gS rfl rfl ?_ ?_ <;> intro hg <;> (try simp only [decide_eq_true_eq, decide_eq_false_iff_not, Bool.not_eq_true', Bool.not_eq_false'] at hg)) | refine st_condT rfl ?_ | refine st_condF rfl ?_ | (refine st_condS rfl ?_ ?_ <;> intro hg <;> (try simp only [decide_eq_true_eq, decide_eq_false_iff_not, Bool.not_eq_true', Bool.not_eq_false'] at hg)) | refine st_nil ?_ | refine st_tN ?_ | refine st_seq ?_ | refine st_block ?_ | refine st_skip ?_ | refine st_exit ?_ | refine st_ret ?_ | refine st_tE ?_ | refine st_tR ?_ | refine st_bN ?_ | refine st_bR ?_ | refine st_bH ?_ | refine st_bM rfl ?_)
  · simp (disch := omega) only [AEnd, Tryz.results52, aresK, fin, go_sem, ↓reduceIte, Nat.reduceEqDiff, Nat.reduceAdd, Nat.reduceLeDiff, if_yes, if_no, implies_true, true_and, and_true, List.reverse_cons, List.reverse_nil]
    unfold fundE; rw [if_pos (by omega)]
  · simp (disch := omega) only [AEnd, Tryz.results52, aresK, fin, go_sem, ↓reduceIte, Nat.reduceEqDiff, Nat.reduceAdd, Nat.reduceLeDiff, if_yes, if_no, implies_true, true_and, and_true, List.reverse_cons, List.reverse_nil]
    unfold fundE; rw [if_neg (by omega), if_pos (by omega)]
  · simp (disch := omega) only [AEnd, Tryz.results52, aresK, fin, go_sem, ↓reduceIte, Nat.reduceEqDiff, Nat.reduceAdd, Nat.reduceLeDiff, if_yes, if_no, implies_true, true_and, and_true, List.reverse_cons, List.reverse_nil]
    unfold fundE; rw [if_neg (by omega), if_neg (by omega), if_pos (by omega)]
  · simp (disch := omega) only [AEnd, Tryz.results52, aresK, fin, go_sem, ↓reduceIte, Nat.reduceEqDiff, Nat.reduceAdd, Nat.reduceLeDiff, if_yes, if_no, implies_true, true_and, and_true, List.reverse_cons, List.reverse_nil]
    unfold fundE; rw [if_neg (by omega), if_neg (by omega), if_neg (by omega), if_pos (by omega)]
  have e0 : fundE x = firstE (useE x.uses) 0 x.uses.length := by unfold fundE; rw [if_neg (by omega), if_neg (by omega), if_neg (by omega), if_neg (by omega)]
  rw [e0]
  refine st_loopC (α := Nat) tab mixed [] [] (by repeat (first | exact trivial | refine ⟨rfl, ?_⟩)) [] [] (by repeat (first | exact trivial | refine ⟨rfl, ?_⟩)) (fun i => [(33, .int .i64 i)]) [(1, _), (31, _), (32, _)] (fun _ => []) [] (fun i => i ≤ x.uses.length ∧ firstE (useE x.uses) i (x.uses.length - i) = firstE (useE x.uses) 0 x.uses.length) (fun i => x.uses.length - i) (by decide) 0 ⟨Nat.zero_le _, rfl⟩ (by (try simp only [go_sem]); repeat' (first | exact trivial | refine And.intro ?_ ?_ | rfl | (simp (disch := omega) only [go_sem, if_yes, if_no, ↓reduceIte, Nat.reduceAdd, Nat.reduceMul, Nat.reduceEqDiff, Nat.reduceBEq, Nat.reduceLeDiff]; rfl) | (simp (disch := omega) only [go_sem, if_yes, if_no, ↓reduceIte, Nat.reduceAdd, Nat.reduceMul, Nat.reduceEqDiff, Nat.reduceBEq, Nat.reduceLeDiff]))) (by (try simp only [go_sem]); repeat' (first | exact trivial | refine And.intro ?_ ?_ | rfl | (simp (disch := omega) only [go_sem, if_yes, if_no, ↓reduceIte, Nat.reduceAdd, Nat.reduceMul, Nat.reduceEqDiff, Nat.reduceBEq, Nat.reduceLeDiff]; rfl) | (simp (disch := omega) only [go_sem, if_yes, if_no, ↓reduceIte, Nat.reduceAdd, Nat.reduceMul, Nat.reduceEqDiff, Nat.reduceBEq, Nat.reduceLeDiff]))) (by first | (simp only [go_sem]; rfl) | rfl) (by intro n; simp only [go_sem]; rfl) ?_
  rintro i c ⟨i1, i2⟩ hc
  simp only [go_sem]
  have hu : useE x.uses i = if ¬ (0 ≤ x.uses.getD i 0 ∧ x.uses.getD i 0 ≤ 7) then 2 else if 0 < i ∧ x.uses.getD i 0 ≤ x.uses.getD (i - 1) 0 then 9 else 0 := rfl
  have ei : ((i : Nat) : Int).toNat = i := rfl
  have em : (((i : Nat) : Int) - 1).toNat = i - 1 := by omega
  repeat' (first | refine st_seq_reg rfl (by first | (simp only [go_sem]; rfl) | rfl) (by first | (simp only [go_sem]; rfl) | rfl) ?_ | refine st_reg rfl (by first | (simp only [go_sem]; rfl) | rfl) (by first | (simp only [go_sem]; rfl) | rfl) ?_ | refine st_op ?_ | refine st_det rfl (by simp (disch := omega) only [go_sem, wr_i64, if_yes, if_no, ↓reduceIte, Nat.reduceAdd, Nat.reduceMul, Nat.reduceEqDiff, Nat.reduceBEq, Nat.reduceLeDiff]; rfl) ?_ | refine st_loc rfl (by simp (disch := omega) only [go_sem, wr_i64, if_yes, if_no, ↓reduceIte, Nat.reduceAdd, Nat.reduceMul, Nat.reduceEqDiff, Nat.reduceBEq, Nat.reduceLeDiff]; rfl) ?_ | refine st_heap rfl (by simp (disch := omega) only [go_sem, wr_i64, if_yes, if_no, ↓reduceIte, Nat.reduceAdd, Nat.reduceMul, Nat.reduceEqDiff, Nat.reduceBEq, Nat.reduceLeDiff]; rfl) ?_ | (refine st_pureE (by first | (simp (disch := omega) only [go_sem]; rfl) | rfl) rfl (c47a _ _ _) (by first | (simp only [go_sem]; rfl) | rfl) (by intro n; first | (simp (disch := omega) only [go_sem]; rfl) | rfl) ?_; intro n hn) | refine st_gT rfl rfl rfl ?_ | refine st_gF rfl rfl rfl ?_ | (refine st_gS rfl rfl ?_ ?_ <;> intro hg <;> (try simp only [decide_eq_true_eq, decide_eq_false_iff_not, Bool.not_eq_true', Bool.not_eq_false'] at hg)) | refine st_condT rfl ?_ | refine st_condF rfl ?_ | (refine st_condS rfl ?_ ?_ <;> intro hg <;> (try simp only [decide_eq_true_eq, decide_eq_false_iff_not, Bool.not_eq_true', Bool.not_eq_false'] at hg)) | refine st_nil ?_ | refine st_tN ?_ | refine st_seq ?_ | refine st_block ?_ | refine st_skip ?_ | refine st_exit ?_ | refine st_ret ?_ | refine st_tE ?_ | refine st_tR ?_ | refine st_bN ?_ | refine st_bR ?_ | refine st_bH ?_ | refine st_bM rfl ?_)
  all_goals try rw [em] at hg
  · have e : useE x.uses i = 2 := by rw [hu, if_pos (by assumption)]
    simp (disch := omega) only [AEnd, Tryz.results52, aresK, fin, go_sem, ↓reduceIte, Nat.reduceEqDiff, Nat.reduceAdd, Nat.reduceLeDiff, if_yes, if_no, implies_true, true_and, and_true, List.reverse_cons, List.reverse_nil]
    rw [← i2, firstE_hit (by omega) e (by decide)]
  · have e : useE x.uses i = 9 := by rw [hu, if_neg (by omega), if_pos (by omega)]
    simp (disch := omega) only [AEnd, Tryz.results52, aresK, fin, go_sem, ↓reduceIte, Nat.reduceEqDiff, Nat.reduceAdd, Nat.reduceLeDiff, if_yes, if_no, implies_true, true_and, and_true, List.reverse_cons, List.reverse_nil]
    rw [← i2, firstE_hit (by omega) e (by decide)]
  · have e : useE x.uses i = 0 := by rw [hu, if_neg (by omega), if_neg (by omega)]
    refine ⟨i + 1, ⟨by omega, by rw [← i2, firstE_miss (by omega) e]⟩, by omega, (by repeat' (first | exact trivial | refine And.intro ?_ ?_ | rfl | (simp (disch := omega) only [go_sem, if_yes, if_no, ↓reduceIte, Nat.reduceAdd, Nat.reduceMul, Nat.reduceEqDiff, Nat.reduceBEq, Nat.reduceLeDiff]; rfl) | (simp (disch := omega) only [go_sem, if_yes, if_no, ↓reduceIte, Nat.reduceAdd, Nat.reduceMul, Nat.reduceEqDiff, Nat.reduceBEq, Nat.reduceLeDiff]))), (by repeat' (first | exact trivial | refine And.intro ?_ ?_ | rfl | (simp (disch := omega) only [go_sem, if_yes, if_no, ↓reduceIte, Nat.reduceAdd, Nat.reduceMul, Nat.reduceEqDiff, Nat.reduceBEq, Nat.reduceLeDiff]; rfl) | (simp (disch := omega) only [go_sem, if_yes, if_no, ↓reduceIte, Nat.reduceAdd, Nat.reduceMul, Nat.reduceEqDiff, Nat.reduceBEq, Nat.reduceLeDiff]))), rfl, (by first | exact HOld.of _ (by omega) | exact HOld.put _ _ _ (by omega))⟩
  · have e : useE x.uses i = 0 := by rw [hu, if_neg (by omega), if_neg (by omega)]
    refine ⟨i + 1, ⟨by omega, by rw [← i2, firstE_miss (by omega) e]⟩, by omega, (by repeat' (first | exact trivial | refine And.intro ?_ ?_ | rfl | (simp (disch := omega) only [go_sem, if_yes, if_no, ↓reduceIte, Nat.reduceAdd, Nat.reduceMul, Nat.reduceEqDiff, Nat.reduceBEq, Nat.reduceLeDiff]; rfl) | (simp (disch := omega) only [go_sem, if_yes, if_no, ↓reduceIte, Nat.reduceAdd, Nat.reduceMul, Nat.reduceEqDiff, Nat.reduceBEq, Nat.reduceLeDiff]))), (by repeat' (first | exact trivial | refine And.intro ?_ ?_ | rfl | (simp (disch := omega) only [go_sem, if_yes, if_no, ↓reduceIte, Nat.reduceAdd, Nat.reduceMul, Nat.reduceEqDiff, Nat.reduceBEq, Nat.reduceLeDiff]; rfl) | (simp (disch := omega) only [go_sem, if_yes, if_no, ↓reduceIte, Nat.reduceAdd, Nat.reduceMul, Nat.reduceEqDiff, Nat.reduceBEq, Nat.reduceLeDiff]))), rfl, (by first | exact HOld.of _ (by omega) | exact HOld.put _ _ _ (by omega))⟩
  · obtain rfl : i = x.uses.length := by omega
    simp (disch := omega) only [AEnd, Tryz.results52, aresK, fin, go_sem, ↓reduceIte, Nat.reduceEqDiff, Nat.reduceAdd, Nat.reduceLeDiff, if_yes, if_no, implies_true, true_and, and_true, List.reverse_cons, List.reverse_nil]
    rw [← i2, firstE_end]
theorem c30 (l : Lg) : Pure Tryz.prog 30 [l.av] (fun v => v = .int .i64 (chkE l)) := by
  intro h
  refine ACalls.forget (ACalls.of tab mixed Tryz.call30 Tryz.func30 rfl (fi := ⟨56, [4, 7], [1, 38, 44, 51], none, []⟩) rfl rfl (Nat.le_of_ble_eq_true rfl) (by decide) ?_)
  unfold startA
  simp only [go_sem]
  repeat' (first | refine st_seq_reg rfl (by first | (simp only [go_sem]; rfl) | rfl) (by first | (simp only [go_sem]; rfl) | rfl) ?_ | refine st_reg rfl (by first | (simp only [go_sem]; rfl) | rfl) (by first | (simp only [go_sem]; rfl) | rfl) ?_ | refine st_op ?_ | refine st_det rfl (by simp (disch := omega) only [go_sem, wr_i64, if_yes, if_no, ↓reduceIte, Nat.reduceAdd, Nat.reduceMul, Nat.reduceEqDiff, Nat.reduceBEq, Nat.reduceLeDiff]; rfl) ?_ | refine st_loc rfl (by simp (disch := omega) only [go_sem, wr_i64, if_yes, if_no, ↓reduceIte, Nat.reduceAdd, Nat.reduceMul, Nat.reduceEqDiff, Nat.reduceBEq, Nat.reduceLeDiff]; rfl) ?_ | refine st_heap rfl (by simp (disch := omega) only [go_sem, wr_i64, if_yes, if_no, ↓reduceIte, Nat.reduceAdd, Nat.reduceMul, Nat.reduceEqDiff, Nat.reduceBEq, Nat.reduceLeDiff]; rfl) ?_ | refine st_store (by simp (disch := omega) only [go_sem, wr_i64, if_yes, if_no, ↓reduceIte, Nat.reduceAdd, Nat.reduceMul, Nat.reduceEqDiff, Nat.reduceBEq, Nat.reduceLeDiff]; rfl) ?_ | refine st_gT rfl rfl rfl ?_ | refine st_gF rfl rfl rfl ?_ | (refine st_gS rfl rfl ?_ ?_ <;> intro hg <;> (try simp only [decide_eq_true_eq, decide_eq_false_iff_not, Bool.not_eq_true', Bool.not_eq_false'] at hg)) | refine st_condT rfl ?_ | refine st_condF rfl ?_ | (refine st_condS rfl ?_ ?_ <;> intro hg <;> (try simp only [decide_eq_true_eq, decide_eq_false_iff_not, Bool.not_eq_true', Bool.not_eq_false'] at hg)) | refine st_nil ?_ | refine st_tN ?_ | refine st_seq ?_ | refine st_block ?_ | refine st_skip ?_ | refine st_exit ?_ | refine st_ret ?_ | refine st_tE ?_ | refine st_tR ?_ | refine st_bN ?_ | refine st_bR ?_ | refine st_bH ?_ | refine st_bM rfl ?_)
  · simp (disch := omega) only [AEnd, Tryz.results30, aresK, fin, go_sem, ↓reduceIte, Nat.reduceEqDiff, Nat.reduceAdd, Nat.reduceLeDiff, if_yes, if_no, implies_true, true_and, and_true, List.reverse_cons, List.reverse_nil]
    unfold chkE; rw [if_pos (by omega)]
  refine st_loopC (α := Nat) tab mixed [] [] (by repeat (first | exact trivial | refine ⟨rfl, ?_⟩)) [] [] (by repeat (first | exact trivial | refine ⟨rfl, ?_⟩)) (fun i => [(15, .int .i64 i)]) [(1, _), (13, _), (14, _)] (fun _ => []) [] (fun i => i ≤ l.fs.length ∧ firstE (fun i => fundE (fd l.fs i)) i (l.fs.length - i) = fundsE l) (fun i => l.fs.length - i) (by decide) 0 ⟨Nat.zero_le _, rfl⟩ (by (try simp only [go_sem]); repeat' (first | exact trivial | refine And.intro ?_ ?_ | rfl | (simp (disch := omega) only [go_sem, if_yes, if_no, ↓reduceIte, Nat.reduceAdd, Nat.reduceMul, Nat.reduceEqDiff, Nat.reduceBEq, Nat.reduceLeDiff]; rfl) | (simp (disch := omega) only [go_sem, if_yes, if_no, ↓reduceIte, Nat.reduceAdd, Nat.reduceMul, Nat.reduceEqDiff, Nat.reduceBEq, Nat.reduceLeDiff]))) (by (try simp only [go_sem]); repeat' (first | exact trivial | refine And.intro ?_ ?_ | rfl | (simp (disch := omega) only [go_sem, if_yes, if_no, ↓reduceIte, Nat.reduceAdd, Nat.reduceMul, Nat.reduceEqDiff, Nat.reduceBEq, Nat.reduceLeDiff]; rfl) | (simp (disch := omega) only [go_sem, if_yes, if_no, ↓reduceIte, Nat.reduceAdd, Nat.reduceMul, Nat.reduceEqDiff, Nat.reduceBEq, Nat.reduceLeDiff]))) (by first | (simp only [go_sem]; rfl) | rfl) (by intro n; simp only [go_sem]; rfl) ?_
  rintro i c ⟨i1, i2⟩ hc
  simp only [go_sem]
  repeat' (first | refine st_seq_reg rfl (by first | (simp only [go_sem]; rfl) | rfl) (by first | (simp only [go_sem]; rfl) | rfl) ?_ | refine st_reg rfl (by first | (simp only [go_sem]; rfl) | rfl) (by first | (simp only [go_sem]; rfl) | rfl) ?_ | refine st_op ?_ | refine st_det rfl (by simp (disch := omega) only [go_sem, wr_i64, if_yes, if_no, ↓reduceIte, Nat.reduceAdd, Nat.reduceMul, Nat.reduceEqDiff, Nat.reduceBEq, Nat.reduceLeDiff]; rfl) ?_ | refine st_loc rfl (by simp (disch := omega) only [go_sem, wr_i64, if_yes, if_no, ↓reduceIte, Nat.reduceAdd, Nat.reduceMul, Nat.reduceEqDiff, Nat.reduceBEq, Nat.reduceLeDiff]; rfl) ?_ | refine st_heap rfl (by simp (disch := omega) only [go_sem, wr_i64, if_yes, if_no, ↓reduceIte, Nat.reduceAdd, Nat.reduceMul, Nat.reduceEqDiff, Nat.reduceBEq, Nat.reduceLeDiff]; rfl) ?_ | refine st_store (by simp (disch := omega) only [go_sem, wr_i64, if_yes, if_no, ↓reduceIte, Nat.reduceAdd, Nat.reduceMul, Nat.reduceEqDiff, Nat.reduceBEq, Nat.reduceLeDiff]; rfl) ?_ | (refine st_pureE (by first | (simp (disch := omega) only [go_sem]; rfl) | rfl) rfl (c52 (fd l.fs i)) (by first | (simp only [go_sem]; rfl) | rfl) (by intro n; first | (simp (disch := omega) only [go_sem]; rfl) | rfl) ?_; intro n hn) | refine st_gT rfl rfl rfl ?_ | refine st_gF rfl rfl rfl ?_ | (refine st_gS rfl rfl ?_ ?_ <;> intro hg <;> (try simp only [decide_eq_true_eq, decide_eq_false_iff_not, Bool.not_eq_true', Bool.not_eq_false'] at hg)) | refine st_condT rfl ?_ | refine st_condF rfl ?_ | (refine st_condS rfl ?_ ?_ <;> intro hg <;> (try simp only [decide_eq_true_eq, decide_eq_false_iff_not, Bool.not_eq_true', Bool.not_eq_false'] at hg)) | refine st_nil ?_ | refine st_tN ?_ | refine st_seq ?_ | refine st_block ?_ | refine st_skip ?_ | refine st_exit ?_ | refine st_ret ?_ | refine st_tE ?_ | refine st_tR ?_ | refine st_bN ?_ | refine st_bR ?_ | refine st_bH ?_ | refine st_bM rfl ?_)
  · have e : fundsE l = fundE (fd l.fs i) := by rw [← i2, firstE_hit (by omega) rfl (by omega)]
    simp (disch := omega) only [AEnd, Tryz.results30, aresK, fin, go_sem, ↓reduceIte, Nat.reduceEqDiff, Nat.reduceAdd, Nat.reduceLeDiff, if_yes, if_no, implies_true, true_and, and_true, List.reverse_cons, List.reverse_nil]
    unfold chkE; rw [if_neg (by omega), if_pos (by omega), e]
  · refine ⟨i + 1, ⟨by omega, by rw [← i2, firstE_miss (by omega) (by omega)]⟩, by omega, (by repeat' (first | exact trivial | refine And.intro ?_ ?_ | rfl | (simp (disch := omega) only [go_sem, if_yes, if_no, ↓reduceIte, Nat.reduceAdd, Nat.reduceMul, Nat.reduceEqDiff, Nat.reduceBEq, Nat.reduceLeDiff]; rfl) | (simp (disch := omega) only [go_sem, if_yes, if_no, ↓reduceIte, Nat.reduceAdd, Nat.reduceMul, Nat.reduceEqDiff, Nat.reduceBEq, Nat.reduceLeDiff]))), (by repeat' (first | exact trivial | refine And.intro ?_ ?_ | rfl | (simp (disch := omega) only [go_sem, if_yes, if_no, ↓reduceIte, Nat.reduceAdd, Nat.reduceMul, Nat.reduceEqDiff, Nat.reduceBEq, Nat.reduceLeDiff]; rfl) | (simp (disch := omega) only [go_sem, if_yes, if_no, ↓reduceIte, Nat.reduceAdd, Nat.reduceMul, Nat.reduceEqDiff, Nat.reduceBEq, Nat.reduceLeDiff]))), rfl, (by first | exact HOld.of _ (by omega) | exact HOld.put _ _ _ (by omega))⟩
  · obtain rfl : i = l.fs.length := by omega
    have e : fundsE l = 0 := by rw [← i2, firstE_end]
    simp (disch := omega) only [AEnd, Tryz.results30, aresK, fin, go_sem, ↓reduceIte, Nat.reduceEqDiff, Nat.reduceAdd, Nat.reduceLeDiff, if_yes, if_no, implies_true, true_and, and_true, List.reverse_cons, List.reverse_nil]
    unfold chkE; rw [if_neg (by omega), if_neg (by omega), if_pos (by omega)]
  obtain rfl : i = l.fs.length := by omega
  have e : fundsE l = 0 := by rw [← i2, firstE_end]
  have e0 : chkE l = firstE (fun i => billE (bl l.bs i)) 0 l.bs.length := by unfold chkE; rw [if_neg (by omega), if_neg (by omega), if_neg (by omega)]
  rw [e0]
  clear i2 i1 hc
  refine st_loopC (α := Nat) tab mixed [] [] (by repeat (first | exact trivial | refine ⟨rfl, ?_⟩)) [] [] (by repeat (first | exact trivial | refine ⟨rfl, ?_⟩)) (fun i => [(32, .int .i64 i)]) [(1, _), (30, _), (31, _)] (fun _ => []) [] (fun i => i ≤ l.bs.length ∧ firstE (fun i => billE (bl l.bs i)) i (l.bs.length - i) = firstE (fun i => billE (bl l.bs i)) 0 l.bs.length) (fun i => l.bs.length - i) (by decide) 0 ⟨Nat.zero_le _, rfl⟩ (by (try simp only [go_sem]); repeat' (first | exact trivial | refine And.intro ?_ ?_ | rfl | (simp (disch := omega) only [go_sem, if_yes, if_no, ↓reduceIte, Nat.reduceAdd, Nat.reduceMul, Nat.reduceEqDiff, Nat.reduceBEq, Nat.reduceLeDiff]; rfl) | (simp (disch := omega) only [go_sem, if_yes, if_no, ↓reduceIte, Nat.reduceAdd, Nat.reduceMul, Nat.reduceEqDiff, Nat.reduceBEq, Nat.reduceLeDiff]))) (by (try simp only [go_sem]); repeat' (first | exact trivial | refine And.intro ?_ ?_ | rfl | (simp (disch := omega) only [go_sem, if_yes, if_no, ↓reduceIte, Nat.reduceAdd, Nat.reduceMul, Nat.reduceEqDiff, Nat.reduceBEq, Nat.reduceLeDiff]; rfl) | (simp (disch := omega) only [go_sem, if_yes, if_no, ↓reduceIte, Nat.reduceAdd, Nat.reduceMul, Nat.reduceEqDiff, Nat.reduceBEq, Nat.reduceLeDiff]))) (by first | (simp only [go_sem]; rfl) | rfl) (by intro n; simp only [go_sem]; rfl) ?_
  rintro i c ⟨i1, i2⟩ hc
  simp only [go_sem]
  have hu : billE (bl l.bs i) = if 0 ≤ (bl l.bs i).day ∧ (bl l.bs i).day ≤ 3650 ∧ 0 ≤ (bl l.bs i).use ∧ (bl l.bs i).use ≤ 7 ∧ 0 ≤ (bl l.bs i).amt ∧ (bl l.bs i).amt ≤ 1000000000 then 0 else 2 := rfl
  repeat' (first | refine st_seq_reg rfl (by first | (simp only [go_sem]; rfl) | rfl) (by first | (simp only [go_sem]; rfl) | rfl) ?_ | refine st_reg rfl (by first | (simp only [go_sem]; rfl) | rfl) (by first | (simp only [go_sem]; rfl) | rfl) ?_ | refine st_op ?_ | refine st_det rfl (by simp (disch := omega) only [go_sem, wr_i64, if_yes, if_no, ↓reduceIte, Nat.reduceAdd, Nat.reduceMul, Nat.reduceEqDiff, Nat.reduceBEq, Nat.reduceLeDiff]; rfl) ?_ | refine st_loc rfl (by simp (disch := omega) only [go_sem, wr_i64, if_yes, if_no, ↓reduceIte, Nat.reduceAdd, Nat.reduceMul, Nat.reduceEqDiff, Nat.reduceBEq, Nat.reduceLeDiff]; rfl) ?_ | refine st_heap rfl (by simp (disch := omega) only [go_sem, wr_i64, if_yes, if_no, ↓reduceIte, Nat.reduceAdd, Nat.reduceMul, Nat.reduceEqDiff, Nat.reduceBEq, Nat.reduceLeDiff]; rfl) ?_ | refine st_store (by simp (disch := omega) only [go_sem, wr_i64, if_yes, if_no, ↓reduceIte, Nat.reduceAdd, Nat.reduceMul, Nat.reduceEqDiff, Nat.reduceBEq, Nat.reduceLeDiff]; rfl) ?_ | (refine st_pureE (by first | (simp (disch := omega) only [go_sem]; rfl) | rfl) rfl (c47a _ _ _) (by first | (simp only [go_sem]; rfl) | rfl) (by intro n; first | (simp (disch := omega) only [go_sem]; rfl) | rfl) ?_; intro n hn) | refine st_gT rfl rfl rfl ?_ | refine st_gF rfl rfl rfl ?_ | (refine st_gS rfl rfl ?_ ?_ <;> intro hg <;> (try simp only [decide_eq_true_eq, decide_eq_false_iff_not, Bool.not_eq_true', Bool.not_eq_false'] at hg)) | refine st_condT rfl ?_ | refine st_condF rfl ?_ | (refine st_condS rfl ?_ ?_ <;> intro hg <;> (try simp only [decide_eq_true_eq, decide_eq_false_iff_not, Bool.not_eq_true', Bool.not_eq_false'] at hg)) | refine st_nil ?_ | refine st_tN ?_ | refine st_seq ?_ | refine st_block ?_ | refine st_skip ?_ | refine st_exit ?_ | refine st_ret ?_ | refine st_tE ?_ | refine st_tR ?_ | refine st_bN ?_ | refine st_bR ?_ | refine st_bH ?_ | refine st_bM rfl ?_)
  · have e : billE (bl l.bs i) = 2 := by rw [hu, if_neg (by omega)]
    simp (disch := omega) only [AEnd, Tryz.results30, aresK, fin, go_sem, ↓reduceIte, Nat.reduceEqDiff, Nat.reduceAdd, Nat.reduceLeDiff, if_yes, if_no, implies_true, true_and, and_true, List.reverse_cons, List.reverse_nil]
    rw [← i2, firstE_hit (by omega) e (by decide)]
  · have e : billE (bl l.bs i) = 2 := by rw [hu, if_neg (by omega)]
    simp (disch := omega) only [AEnd, Tryz.results30, aresK, fin, go_sem, ↓reduceIte, Nat.reduceEqDiff, Nat.reduceAdd, Nat.reduceLeDiff, if_yes, if_no, implies_true, true_and, and_true, List.reverse_cons, List.reverse_nil]
    rw [← i2, firstE_hit (by omega) e (by decide)]
  · have e : billE (bl l.bs i) = 2 := by rw [hu, if_neg (by omega)]
    simp (disch := omega) only [AEnd, Tryz.results30, aresK, fin, go_sem, ↓reduceIte, Nat.reduceEqDiff, Nat.reduceAdd, Nat.reduceLeDiff, if_yes, if_no, implies_true, true_and, and_true, List.reverse_cons, List.reverse_nil]
    rw [← i2, firstE_hit (by omega) e (by decide)]
  · have e : billE (bl l.bs i) = 0 := by rw [hu, if_pos (by omega)]
    refine ⟨i + 1, ⟨by omega, by rw [← i2, firstE_miss (by omega) e]⟩, by omega, (by repeat' (first | exact trivial | refine And.intro ?_ ?_ | rfl | (simp (disch := omega) only [go_sem, if_yes, if_no, ↓reduceIte, Nat.reduceAdd, Nat.reduceMul, Nat.reduceEqDiff, Nat.reduceBEq, Nat.reduceLeDiff]; rfl) | (simp (disch := omega) only [go_sem, if_yes, if_no, ↓reduceIte, Nat.reduceAdd, Nat.reduceMul, Nat.reduceEqDiff, Nat.reduceBEq, Nat.reduceLeDiff]))), (by repeat' (first | exact trivial | refine And.intro ?_ ?_ | rfl | (simp (disch := omega) only [go_sem, if_yes, if_no, ↓reduceIte, Nat.reduceAdd, Nat.reduceMul, Nat.reduceEqDiff, Nat.reduceBEq, Nat.reduceLeDiff]; rfl) | (simp (disch := omega) only [go_sem, if_yes, if_no, ↓reduceIte, Nat.reduceAdd, Nat.reduceMul, Nat.reduceEqDiff, Nat.reduceBEq, Nat.reduceLeDiff]))), rfl, (by first | exact HOld.of _ (by omega) | exact HOld.put _ _ _ (by omega))⟩
  · obtain rfl : i = l.bs.length := by omega
    simp (disch := omega) only [AEnd, Tryz.results30, aresK, fin, go_sem, ↓reduceIte, Nat.reduceEqDiff, Nat.reduceAdd, Nat.reduceLeDiff, if_yes, if_no, implies_true, true_and, and_true, List.reverse_cons, List.reverse_nil]
    rw [← i2, firstE_end]
end Go.Proofs.YtefogfgddofdmaaGreatDoor

namespace Go.Proofs.YtefogfgddofdmaaGreatDoor
open Go.Av Go.Txt Go.Lib
set_option maxRecDepth 20000
def wFund : List UInt8 := [102, 117, 110, 100]
def wBill : List UInt8 := [98, 105, 108, 108]
def wEnd : List UInt8 := [101, 110, 100]
def fdN (x : Fd) : List Int := [x.day, x.till, x.amt] ++ x.uses
def blN (x : Bl) : List Int := [x.day, x.use, x.amt]
def fdT (x : Fd) : List UInt8 := rowT wFund (fdN x)
def blT (x : Bl) : List UInt8 := rowT wBill (blN x)
def bookT (l : Lg) : List UInt8 := l.fs.flatMap fdT ++ l.bs.flatMap blT ++ rowT wEnd [(l.bs.length : Int)]
def wrV (l : Lg) : AV := if chkE l = 0 then .tup [.str (bookT l), .int .i64 0] else .tup [.str [], .int .i64 (chkE l)]
structure LSt where
  l : Lg
  e : Bool
def fdOf (l : List Int) : Fd := ⟨nth l 0, nth l 1, nth l 2, l.drop 3⟩
def blOf (l : List Int) : Bl := ⟨nth l 0, nth l 1, nth l 2⟩
def stepL (st : LSt) (w : List UInt8) (l : List Int) : Option LSt :=
  if st.e = true then none
  else if w = wFund ∧ 3 ≤ l.length ∧ st.l.bs.length = 0 then some ⟨⟨st.l.fs ++ [fdOf l], st.l.bs⟩, st.e⟩
  else if w = wBill ∧ l.length = 3 then some ⟨⟨st.l.fs, st.l.bs ++ [blOf l]⟩, st.e⟩
  else if w = wEnd ∧ l.length = 1 ∧ nth l 0 = st.l.bs.length then some ⟨st.l, true⟩
  else none
def stepR (st : LSt) (row : List UInt8) : Option LSt := match rowP 10 row with
  | none => none
  | some (w, l) => stepL st w l
def runR : Nat → LSt → List (List UInt8) → Nat ⊕ LSt
  | _, st, [] => .inr st
  | i, st, r :: rs => match stepR st r with
    | none => .inl (i + 1)
    | some st' => runR (i + 1) st' rs
def l0 : Lg := ⟨[], []⟩
def st0 : LSt := ⟨l0, false⟩
def badV (k : Nat) (e : Int) : AV := .tup [l0.av, .int .i64 (k : Nat), .int .i64 e]
def rdV (text : List UInt8) : AV :=
  if 2000 < text.length then badV 0 6 else
  match runR 0 st0 ((splitL 10 text).take ((splitL 10 text).length - 1)) with
  | .inl k => badV k 1
  | .inr st =>
    if st.e = false then badV (splitL 10 text).length 1
    else if (splitL 10 text).getD ((splitL 10 text).length - 1) [] ≠ [] then badV (splitL 10 text).length 1
    else if chkE st.l ≠ 0 then badV 0 (chkE st.l)
    else .tup [st.l.av, .int .i64 0, .int .i64 0]
theorem run_drop {i : Nat} {st : LSt} {l : List (List UInt8)} (h : i < l.length) : runR i st (l.drop i) = match stepR st (l.getD i []) with
    | none => .inl (i + 1)
    | some st' => runR (i + 1) st' (l.drop (i + 1)) := by
  rw [List.drop_eq_getElem_cons h, runR, List.getD_eq_getElem?_getD, List.getElem?_eq_getElem h]
  rfl
def Sm (l : List Int) : Prop := ∀ x ∈ l, 0 ≤ x ∧ x < 10000000000
theorem fd_sm {x : Fd} (h : FdOk x) : Sm (fdN x) ∧ (fdN x).length ≤ 11 := by
  have h1 := h.day; have h2 := h.amt; have h3 := h.many
  refine ⟨?_, by unfold fdN; simp; omega⟩
  intro y hy
  simp only [fdN, List.mem_append, List.mem_cons, List.not_mem_nil, or_false] at hy
  rcases hy with (rfl | rfl | rfl) | hy
  · omega
  · omega
  · omega
  · have := h.uses y hy; omega
theorem bl_sm {x : Bl} (h : BlOk x) : Sm (blN x) := by
  have h1 := h.day; have h2 := h.amt; have h3 := h.use
  intro y hy
  simp only [blN, List.mem_cons, List.not_mem_nil, or_false] at hy
  rcases hy with rfl | rfl | rfl <;> omega
theorem Sm.dec {l : List Int} (h : Sm l) : ∀ x ∈ l, 0 ≤ x ∧ (decDigits x.toNat).length ≤ 10 := fun x hx => ⟨(h x hx).1, dec_len 9 _ (by have := h x hx; omega)⟩
theorem numsT_sm : ∀ {l : List Int}, Sm l → (numsT l).length ≤ 11 * l.length
  | [], _ => by simp [numsT]
  | x :: l, h => by
    have h1 := Sm.dec h x (by simp)
    have h2 := numsT_sm (l := l) (fun y hy => h y (by simp [hy]))
    unfold numsT at h2 ⊢
    rw [List.flatMap_cons, List.length_append, List.length_cons, List.length_cons, itoa_nn h1.1]
    omega
theorem rowT_sm {w : List UInt8} {l : List Int} (h : Sm l) : (rowT w l).length ≤ w.length + 11 * l.length + 1 := by
  have := numsT_sm h
  unfold rowT
  simp only [List.length_append, List.length_cons, List.length_nil]
  omega
theorem flat_take {α : Type} {f : α → List UInt8} {l : List α} {d : α} {i : Nat} (h : i < l.length) : (l.take (i + 1)).flatMap f = (l.take i).flatMap f ++ f (l.getD i d) := by
  rw [List.take_add_one, List.flatMap_append, List.getElem?_eq_getElem h, List.getD_eq_getElem?_getD, List.getElem?_eq_getElem h]
  simp
theorem flat_len {α : Type} {f : α → List UInt8} {n : Nat} {l : List α} (h : ∀ x ∈ l, (f x).length ≤ n) : (l.flatMap f).length ≤ n * l.length := by
  induction l with
  | nil => simp
  | cons x l ih =>
    have h1 := h x (by simp)
    have h2 := ih (fun y hy => h y (by simp [hy]))
    rw [List.flatMap_cons, List.length_append, List.length_cons, Nat.mul_succ]
    omega
theorem fdT_len {x : Fd} (h : FdOk x) : (fdT x).length ≤ 130 := by
  have := rowT_sm (w := wFund) (fd_sm h).1
  have e : wFund.length = 4 := rfl
  have e2 := (fd_sm h).2
  unfold fdT; omega
theorem blT_len {x : Bl} (h : BlOk x) : (blT x).length ≤ 40 := by
  have := rowT_sm (w := wBill) (bl_sm h)
  have e : wBill.length = 4 := rfl
  have e2 : (blN x).length = 3 := rfl
  unfold blT; omega
theorem Sm.ok {l : List Int} (h : Sm l) (hl : l.length ≤ 1000) : NumOk l := ⟨by omega, fun x hx => by have := h x hx; omega⟩
theorem sm_len {n : Nat} (h : n ≤ 20) : Sm [(n : Int)] := by intro x hx; simp at hx; omega
theorem book_len {l : Lg} (h : LgOk l) : (bookT l).length ≤ 1500 := by
  have h1 := h.fn; have h2 := h.bn
  have k1 : (l.fs.flatMap fdT).length ≤ 130 * l.fs.length := flat_len (fun x hx => fdT_len (h.f x hx))
  have k2 : (l.bs.flatMap blT).length ≤ 40 * l.bs.length := flat_len (fun x hx => blT_len (h.b x hx))
  have k3 := rowT_sm (w := wEnd) (sm_len (n := l.bs.length) (by omega))
  have e2 : wEnd.length = 3 := rfl
  have e4 : ([(l.bs.length : Int)] : List Int).length = 1 := rfl
  unfold bookT
  simp only [List.length_append]
  omega
def fdR (x : Fd) : List UInt8 := wFund ++ numsT (fdN x)
def blR (x : Bl) : List UInt8 := wBill ++ numsT (blN x)
def enR (n : Nat) : List UInt8 := wEnd ++ numsT [(n : Int)]
def rowsC (l : Lg) : List (List UInt8) := l.fs.map fdR ++ l.bs.map blR ++ [enR l.bs.length]
theorem book_flat (l : Lg) : bookT l = (rowsC l).flatMap (· ++ [10]) := by
  unfold bookT rowsC enR
  simp only [List.flatMap_cons, List.flatMap_append, List.flatMap_map, List.flatMap_nil, List.append_nil]
  unfold rowT
  have e1 : l.fs.flatMap fdT = l.fs.flatMap fun a => fdR a ++ [10] := rfl
  have e2 : l.bs.flatMap blT = l.bs.flatMap fun a => blR a ++ [10] := rfl
  rw [e1, e2]
theorem wne1 : ¬ wBill = wFund := by decide
theorem wne2 : ¬ wEnd = wFund := by decide
theorem wne3 : ¬ wEnd = wBill := by decide
theorem fdN_fdOf {l : List Int} (h : 3 ≤ l.length) : fdN (fdOf l) = l := by
  match l, h with
  | a :: b :: c :: t, _ => rfl
theorem fdOf_fdN (x : Fd) : fdOf (fdN x) = x := rfl
theorem blN_blOf {l : List Int} (h : l.length = 3) : blN (blOf l) = l := by
  match l, h with
  | [a, b, c], _ => rfl
theorem step_fd {st : LSt} {x : Fd} (h : Sm (fdN x)) (he : st.e = false) (hb : st.l.bs = []) : stepR st (fdR x) = some ⟨⟨st.l.fs ++ [x], st.l.bs⟩, st.e⟩ := by
  have hp : rowP 10 (fdR x) = some (wFund, fdN x) := rowP_row (by decide) h.dec
  unfold stepR stepL
  rw [hp]
  dsimp only
  rw [if_neg (by simp [he]), if_pos ⟨rfl, by simp [fdN], by simp [hb]⟩, fdOf_fdN]
theorem step_bl {st : LSt} {x : Bl} (h : Sm (blN x)) (he : st.e = false) : stepR st (blR x) = some ⟨⟨st.l.fs, st.l.bs ++ [x]⟩, st.e⟩ := by
  have hp : rowP 10 (blR x) = some (wBill, blN x) := rowP_row (by decide) h.dec
  unfold stepR stepL
  rw [hp]
  dsimp only
  rw [if_neg (by simp [he]), if_neg (by simp [wne1]), if_pos ⟨rfl, rfl⟩]
  rfl
theorem step_en {st : LSt} (hn : st.l.bs.length ≤ 20) (he : st.e = false) : stepR st (enR st.l.bs.length) = some ⟨st.l, true⟩ := by
  have hp : rowP 10 (enR st.l.bs.length) = some (wEnd, [(st.l.bs.length : Int)]) := rowP_row (by decide) (sm_len hn).dec
  unfold stepR stepL
  rw [hp]
  dsimp only
  rw [if_neg (by simp [he]), if_neg (by simp [wne2]), if_neg (by simp [wne3]), if_pos ⟨rfl, rfl, rfl⟩]
theorem run_fd : ∀ (l : List Fd) (i : Nat) (st : LSt) (rest : List (List UInt8)), (∀ x ∈ l, Sm (fdN x)) → st.e = false → st.l.bs = [] → runR i st (l.map fdR ++ rest) = runR (i + l.length) ⟨⟨st.l.fs ++ l, st.l.bs⟩, st.e⟩ rest
  | [], i, st, rest, _, _, _ => by simp
  | x :: l, i, st, rest, hx, he, hb => by
    rw [List.map_cons, List.cons_append, runR, step_fd (hx x (by simp)) he hb]
    simp only
    rw [run_fd l (i + 1) _ rest (fun y hy => hx y (by simp [hy])) (by exact he) (by exact hb)]
    simp only [List.append_assoc, List.singleton_append, List.length_cons]
    congr 1; omega
theorem run_bl : ∀ (l : List Bl) (i : Nat) (st : LSt) (rest : List (List UInt8)), (∀ x ∈ l, Sm (blN x)) → st.e = false → runR i st (l.map blR ++ rest) = runR (i + l.length) ⟨⟨st.l.fs, st.l.bs ++ l⟩, st.e⟩ rest
  | [], i, st, rest, _, _ => by simp
  | x :: l, i, st, rest, hx, he => by
    rw [List.map_cons, List.cons_append, runR, step_bl (hx x (by simp)) he]
    simp only
    rw [run_bl l (i + 1) _ rest (fun y hy => hx y (by simp [hy])) (by exact he)]
    simp only [List.append_assoc, List.singleton_append, List.length_cons]
    congr 1; omega
theorem run_rows {l : Lg} (h : LgOk l) : runR 0 st0 (rowsC l) = .inr ⟨l, true⟩ := by
  have h2 := h.bn
  unfold rowsC
  rw [List.append_assoc, run_fd _ _ _ _ (fun x hx => (fd_sm (h.f x hx)).1) rfl rfl, run_bl _ _ _ _ (fun x hx => bl_sm (h.b x hx)) rfl, runR]
  have e : (⟨⟨st0.l.fs ++ l.fs, st0.l.bs ++ l.bs⟩, st0.e⟩ : LSt) = ⟨l, false⟩ := by simp [st0, l0]
  rw [e, step_en (st := ⟨l, false⟩) (by show l.bs.length ≤ 20; omega) rfl]
  rfl
theorem rows_no {l : Lg} (h : LgOk l) : ∀ r ∈ rowsC l, (10 : UInt8) ∉ r := by
  have h2 := h.bn
  intro r hr
  have nn : ∀ {w : List UInt8} {l : List Int}, (10 : UInt8) ∉ w → Sm l → (10 : UInt8) ∉ w ++ numsT l := fun h1 h2 h => by
    rcases List.mem_append.1 h with h | h
    · exact h1 h
    · exact numsT_no (by decide) (by decide) (fun x hx => (h2 x hx).1) h
  unfold rowsC at hr
  simp only [List.mem_cons, List.mem_append, List.mem_map, List.not_mem_nil, or_false] at hr
  rcases hr with (⟨x, hm, rfl⟩ | ⟨x, hm, rfl⟩) | rfl
  · exact nn (by decide) (fd_sm (h.f x hm)).1
  · exact nn (by decide) (bl_sm (h.b x hm))
  · exact nn (by decide) (sm_len (by omega))
theorem rd_wr {l : Lg} (hE : chkE l = 0) (h : LgOk l) : rdV (bookT l) = .tup [l.av, .int .i64 0, .int .i64 0] := by
  have hl := book_len h
  have hsp : splitL 10 (bookT l) = rowsC l ++ [[]] := by rw [book_flat, split_rows (rows_no h)]
  have hb : (rowsC l ++ [[]]).length - 1 = (rowsC l).length := by simp
  unfold rdV
  rw [if_neg (by omega), hsp, hb, List.take_left, run_rows h]
  simp only
  rw [if_neg (by simp), if_neg (by simp [List.getD_eq_getElem?_getD]), if_neg (by simp [hE])]
theorem run_e : ∀ {rs : List (List UInt8)} {i : Nat} {st st' : LSt}, runR i st rs = .inr st' → st.e = true → rs = [] ∧ st' = st
  | [], i, st, st', h, _ => by simp only [runR] at h; injection h with h; exact ⟨rfl, h.symm⟩
  | r :: rs, i, st, st', h, he => by
    have : stepR st r = none := by
      unfold stepR
      split
      · rfl
      · unfold stepL; rw [if_pos he]
    rw [runR, this] at h
    cases h
theorem run_inv : ∀ {rs : List (List UInt8)} {i : Nat} {st st' : LSt}, runR i st rs = .inr st' → st.e = false → st'.e = true →
    ∃ f2 b2, rs = f2.map fdR ++ b2.map blR ++ [enR (st.l.bs ++ b2).length] ∧ st'.l = ⟨st.l.fs ++ f2, st.l.bs ++ b2⟩ ∧ (st.l.bs ≠ [] → f2 = [])
  | [], i, st, st', h, he, he' => by
    simp only [runR] at h; injection h with h; rw [h] at he; rw [he] at he'; cases he'
  | r :: rs, i, st, st', h, he, he' => by
    rw [runR] at h
    cases hp : rowP 10 r with
    | none =>
      have : stepR st r = none := by unfold stepR; rw [hp]
      rw [this] at h; cases h
    | some wl =>
      obtain ⟨w, l⟩ := wl
      have hr := row_of hp
      have hst : stepR st r = stepL st w l := by unfold stepR; rw [hp]
      unfold stepL at hst
      rw [if_neg (by simp [he])] at hst
      by_cases h0 : w = wFund ∧ 3 ≤ l.length ∧ st.l.bs.length = 0
      · rw [if_pos h0] at hst
        rw [hst] at h
        simp only at h
        obtain ⟨f2, b2, q1, q2, q3⟩ := run_inv h (by exact he) he'
        refine ⟨fdOf l :: f2, b2, ?_, by rw [q2]; simp, fun hne => absurd (List.length_eq_zero_iff.1 h0.2.2) hne⟩
        rw [q1, hr, h0.1, List.map_cons, fdR, fdN_fdOf h0.2.1]
        simp
      rw [if_neg h0] at hst
      by_cases h1 : w = wBill ∧ l.length = 3
      · rw [if_pos h1] at hst
        rw [hst] at h
        simp only at h
        obtain ⟨f2, b2, q1, q2, q3⟩ := run_inv h (by exact he) he'
        have hf : f2 = [] := q3 (by simp)
        subst hf
        refine ⟨[], blOf l :: b2, ?_, by rw [q2]; simp, fun _ => rfl⟩
        rw [q1, hr, h1.1, List.map_cons, blR, blN_blOf h1.2]
        simp
      rw [if_neg h1] at hst
      by_cases h2 : w = wEnd ∧ l.length = 1 ∧ nth l 0 = st.l.bs.length
      · rw [if_pos h2] at hst
        rw [hst] at h
        simp only at h
        obtain ⟨e1, e2⟩ := run_e h rfl
        obtain ⟨e3, e4, e5⟩ := h2
        refine ⟨[], [], ?_, by rw [e2]; simp, fun _ => rfl⟩
        rw [e1, hr, e3]
        match l, e4 with
        | [a], _ =>
          have e6 : a = st.l.bs.length := e5
          rw [e6]; simp [enR]
      rw [if_neg h2] at hst
      rw [hst] at h; cases h
theorem rd_inv (text : List UInt8) : (∃ k e, rdV text = badV k e ∧ e ≠ 0) ∨ ∃ l : Lg, rdV text = .tup [l.av, .int .i64 0, .int .i64 0] ∧ chkE l = 0 ∧ bookT l = text := by
  obtain ⟨rows, hrows⟩ : ∃ rows, rows = splitL 10 text := ⟨_, rfl⟩
  obtain ⟨nb, hnb⟩ : ∃ nb, nb = rows.length - 1 := ⟨_, rfl⟩
  have hr1 : 1 ≤ rows.length := by rw [hrows]; exact List.length_pos_iff.2 (splitL_ne _ _)
  unfold rdV
  by_cases h1 : 2000 < text.length
  · rw [if_pos h1]; exact .inl ⟨_, _, rfl, by decide⟩
  rw [if_neg h1, ← hrows, ← hnb]
  cases hrun : runR 0 st0 (rows.take nb) with
  | inl k => exact .inl ⟨_, _, rfl, by decide⟩
  | inr st =>
    simp only
    by_cases he : st.e = false
    · rw [if_pos he]; exact .inl ⟨_, _, rfl, by decide⟩
    rw [if_neg he]
    by_cases hla : rows.getD nb [] ≠ []
    · rw [if_pos hla]; exact .inl ⟨_, _, rfl, by decide⟩
    rw [if_neg hla]
    by_cases hE : chkE st.l ≠ 0
    · rw [if_pos hE]; exact .inl ⟨_, _, rfl, hE⟩
    rw [if_neg hE]
    refine .inr ⟨st.l, rfl, by simpa using hE, ?_⟩
    have hla : rows.getD nb [] = [] := by simpa using hla
    have he : st.e = true := by simpa using he
    have hrl : rows = rows.take nb ++ [[]] := by
      have e := (List.take_append_drop nb rows).symm
      have e2 : rows.drop nb = [[]] := by
        rw [List.drop_eq_getElem_cons (by omega), List.drop_eq_nil_of_le (by omega)]
        rw [List.getD_eq_getElem?_getD, List.getElem?_eq_getElem (by omega)] at hla
        simpa using hla
      rw [e2] at e; exact e
    have htext : text = (rows.take nb).flatMap (· ++ [10]) := by
      rw [← join_rows, ← hrl, hrows, join_split]
    rw [book_flat, htext]
    congr 1
    obtain ⟨f2, b2, q1, q2, _⟩ := run_inv hrun rfl he
    rw [q1, q2]
    rfl
end Go.Proofs.YtefogfgddofdmaaGreatDoor
