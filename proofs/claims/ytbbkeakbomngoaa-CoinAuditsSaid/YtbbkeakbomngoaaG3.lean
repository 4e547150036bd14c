/- Contracts of functions that the claim reaches: what each call gives, told in our own logic. Conditions: those of each theorem. -/
import Derived.Test.YtbbkeakbomngoaaG2
import Derived.Test.YtbbkeakbomngoaaP1
set_option linter.all false
set_option linter.unusedSimpArgs false
set_option linter.unusedVariables false
namespace Go.Proofs.Ytbbkeakbomngoaa
open Go.Av
attribute [local irreducible] thenA blockA awp awpOps awpD awp1
set_option maxHeartbeats 8000000
set_option maxRecDepth 20000
/-! ### Amounts -/
def iA (n : Int) : AV := .int .i64 n
@[go_sem] theorem iA_all (l : List Int) : (l.map iA).all AV.cell = true := by
  induction l with
  | nil => rfl
  | cons x l ih => simp only [List.map_cons, List.all_cons, ih, Bool.and_true]; rfl
@[go_sem] theorem iA_get {l : List Int} {i : Nat} (h : i < l.length) : (l.map iA)[i]? = some (.int .i64 (l.getD i 0)) := by
  simp [iA, List.getD_eq_getElem?_getD, h]
@[go_sem] theorem iA_take {l : List Int} {n : Nat} (h : l.length ≤ n) : (l.map iA).take n = l.map iA := List.take_of_length_le (by simpa using h)
theorem iA_put {l : List Int} {j : Nat} {v : Int} (h : j < l.length) : (l.map iA).take j ++ [.int .i64 v] ++ (l.map iA).drop (j + 1) = (l.set j v).map iA := by
  rw [List.map_set, ← List.map_take, ← List.map_drop, List.set_eq_take_append_cons_drop, if_pos (by simpa using h)]
  simp [iA]
@[go_sem] theorem drop_0 {α : Type} (l : List α) : l.drop 0 = l := rfl
def ravN (rs : List Int) : AV := .agg (rs.map iA)
@[go_sem] theorem ravN_eq (rs : List Int) : ravN rs = .agg (rs.map iA) := rfl
def amN (l : List Fd) (i : Nat) : List Int := (List.range 8).map fun j => if j < i then (fd l j).amt else 0
def amts (l : List Fd) : List Int := (List.range 8).map fun j => (fd l j).amt
theorem amN_len (l : List Fd) (i : Nat) : (amN l i).length = 8 := by simp [amN]
theorem amts_len (l : List Fd) : (amts l).length = 8 := by simp [amts]
theorem amN_set {l : List Fd} {i : Nat} (h : i < 8) : (amN l i).set i (fd l i).amt = amN l (i + 1) := by
  refine List.ext_getElem (by simp [amN]) fun j h1 h2 => ?_
  rw [List.getElem_set]
  have hj : j < 8 := by simpa [amN] using h2
  by_cases c : i = j
  · subst c; simp [amN]
  · rw [if_neg c]
    have : (j < i) = (j < i + 1) := propext ⟨fun h => by omega, fun h => by omega⟩
    simp [amN, this]
theorem amN_end {l : List Fd} : amN l l.length = amts l := by
  unfold amN amts
  refine List.map_congr_left fun j hj => ?_
  by_cases c : j < l.length
  · rw [if_pos c]
  · rw [if_neg c]
    simp [fd, List.getD_eq_getElem?_getD, List.getElem?_eq_none (Nat.le_of_not_lt c)]
theorem amts_get {l : List Fd} {j : Nat} (h : j < 8) : (amts l).getD j 0 = (fd l j).amt := by
  simp [amts, List.getD_eq_getElem?_getD, h]
theorem c57 (l : Lg) (hl : l.fs.length ≤ 8) : Pure Try.prog 57 [l.av] (fun v => v = ravN (amts l.fs)) := by
  intro h
  refine ACalls.forget (ACalls.of tab mixed Try.call57 Try.func57 rfl (fi := ⟨20, [2, 3, 5], [1], none, []⟩) rfl rfl (Nat.le_of_ble_eq_true rfl) (by decide) ?_)
  unfold startA
  simp only [go_sem]
  repeat' (first | refine st_seq_reg rfl (by first | (simp only [go_sem]; rfl) | rfl) (by first | (simp only [go_sem]; rfl) | rfl) ?_ | refine st_reg rfl (by first | (simp only [go_sem]; rfl) | rfl) (by first | (simp only [go_sem]; rfl) | rfl) ?_ | refine st_op ?_ | refine st_det rfl (by simp (disch := omega) only [go_sem, wr_i64, if_yes, if_no, ↓reduceIte, Nat.reduceAdd, Nat.reduceMul, Nat.reduceEqDiff, Nat.reduceBEq, Nat.reduceLeDiff]; rfl) ?_ | refine st_loc rfl (by simp (disch := omega) only [go_sem, wr_i64, if_yes, if_no, ↓reduceIte, Nat.reduceAdd, Nat.reduceMul, Nat.reduceEqDiff, Nat.reduceBEq, Nat.reduceLeDiff]; rfl) ?_ | refine st_heap rfl (by simp (disch := omega) only [go_sem, wr_i64, if_yes, if_no, ↓reduceIte, Nat.reduceAdd, Nat.reduceMul, Nat.reduceEqDiff, Nat.reduceBEq, Nat.reduceLeDiff]; rfl) ?_ | refine st_store (by simp (disch := omega) only [go_sem, wr_i64, if_yes, if_no, ↓reduceIte, Nat.reduceAdd, Nat.reduceMul, Nat.reduceEqDiff, Nat.reduceBEq, Nat.reduceLeDiff]; rfl) ?_ | refine st_condT rfl ?_ | refine st_condF rfl ?_ | (refine st_condS rfl ?_ ?_ <;> intro hg <;> (try simp only [decide_eq_true_eq, decide_eq_false_iff_not, Bool.not_eq_true', Bool.not_eq_false'] at hg)) | refine st_nil ?_ | refine st_tN ?_ | refine st_seq ?_ | refine st_block ?_ | refine st_skip ?_ | refine st_exit ?_ | refine st_ret ?_ | refine st_tE ?_ | refine st_tR ?_ | refine st_bN ?_ | refine st_bR ?_ | refine st_bH ?_ | refine st_bM rfl ?_)
  refine st_loopC (α := Nat) tab mixed [3] [_] (by repeat (first | exact trivial | refine ⟨rfl, ?_⟩)) [2] [_] (by repeat (first | exact trivial | refine ⟨rfl, ?_⟩)) (fun i => [(9, .int .i64 i)]) [(1, _), (2, _), (3, _), (7, _), (8, _)] (fun i => [(amN l.fs i).map iA]) [_] (fun i => i ≤ l.fs.length) (fun i => l.fs.length - i) (by decide) 0 (Nat.zero_le _) (by (try simp only [go_sem]); repeat' (first | exact trivial | refine And.intro ?_ ?_ | rfl | (simp (disch := omega) only [go_sem, if_yes, if_no, ↓reduceIte, Nat.reduceAdd, Nat.reduceMul, Nat.reduceEqDiff, Nat.reduceBEq, Nat.reduceLeDiff]; rfl) | (simp (disch := omega) only [go_sem, if_yes, if_no, ↓reduceIte, Nat.reduceAdd, Nat.reduceMul, Nat.reduceEqDiff, Nat.reduceBEq, Nat.reduceLeDiff]))) (by (try simp only [go_sem]); repeat' (first | exact trivial | refine And.intro ?_ ?_ | rfl | (simp (disch := omega) only [go_sem, if_yes, if_no, ↓reduceIte, Nat.reduceAdd, Nat.reduceMul, Nat.reduceEqDiff, Nat.reduceBEq, Nat.reduceLeDiff]; rfl) | (simp (disch := omega) only [go_sem, if_yes, if_no, ↓reduceIte, Nat.reduceAdd, Nat.reduceMul, Nat.reduceEqDiff, Nat.reduceBEq, Nat.reduceLeDiff]))) (by first | (simp only [go_sem]; rfl) | rfl) (by intro n; simp only [go_sem]; rfl) ?_
  intro i c i1 hc
  simp only [go_sem]
  have hn := amN_len l.fs i
  have hp := fun (h : i < l.fs.length) => iA_put (l := amN l.fs i) (j := i) (v := (fd l.fs i).amt) (by omega)
  repeat' (first | refine st_seq_reg rfl (by first | (simp only [go_sem, hn]; rfl) | rfl) (by first | (simp only [go_sem, hn]; rfl) | rfl) ?_ | refine st_reg rfl (by first | (simp only [go_sem, hn]; rfl) | rfl) (by first | (simp only [go_sem, hn]; rfl) | rfl) ?_ | refine st_op ?_ | refine st_det rfl (by simp (disch := omega) only [go_sem, wr_i64, if_yes, if_no, ↓reduceIte, Nat.reduceAdd, Nat.reduceMul, Nat.reduceEqDiff, Nat.reduceBEq, Nat.reduceLeDiff, hn]; rfl) ?_ | refine st_loc rfl (by simp (disch := omega) only [go_sem, wr_i64, if_yes, if_no, ↓reduceIte, Nat.reduceAdd, Nat.reduceMul, Nat.reduceEqDiff, Nat.reduceBEq, Nat.reduceLeDiff, hn]; rfl) ?_ | refine st_heap rfl (by simp (disch := omega) only [go_sem, wr_i64, if_yes, if_no, ↓reduceIte, Nat.reduceAdd, Nat.reduceMul, Nat.reduceEqDiff, Nat.reduceBEq, Nat.reduceLeDiff, hn]; rfl) ?_ | refine st_store (by simp (disch := omega) only [go_sem, wr_i64, if_yes, if_no, ↓reduceIte, Nat.reduceAdd, Nat.reduceMul, Nat.reduceEqDiff, Nat.reduceBEq, Nat.reduceLeDiff, hn]; rfl) ?_ | refine st_condT rfl ?_ | refine st_condF rfl ?_ | (refine st_condS rfl ?_ ?_ <;> intro hg <;> (try simp only [decide_eq_true_eq, decide_eq_false_iff_not, Bool.not_eq_true', Bool.not_eq_false'] at hg)) | refine st_nil ?_ | refine st_tN ?_ | refine st_seq ?_ | refine st_block ?_ | refine st_skip ?_ | refine st_exit ?_ | refine st_ret ?_ | refine st_tE ?_ | refine st_tR ?_ | refine st_bN ?_ | refine st_bR ?_ | refine st_bH ?_ | refine st_bM rfl ?_)
  · refine ⟨i + 1, (by show i + 1 ≤ l.fs.length; omega), by show l.fs.length - (i + 1) < l.fs.length - i; omega, (by (try (simp only [← amN_set (l := l.fs) (i := i) (by omega), ← hp (by omega), Nat.zero_add])); repeat' (first | exact trivial | refine And.intro ?_ ?_ | rfl | (simp (disch := omega) only [go_sem, if_yes, if_no, ↓reduceIte, Nat.reduceAdd, Nat.reduceMul, Nat.reduceEqDiff, Nat.reduceBEq, Nat.reduceLeDiff]; rfl) | (simp (disch := omega) only [go_sem, if_yes, if_no, ↓reduceIte, Nat.reduceAdd, Nat.reduceMul, Nat.reduceEqDiff, Nat.reduceBEq, Nat.reduceLeDiff]))), (by (try (simp only [← amN_set (l := l.fs) (i := i) (by omega), ← hp (by omega), Nat.zero_add])); repeat' (first | exact trivial | refine And.intro ?_ ?_ | rfl | (simp (disch := omega) only [go_sem, if_yes, if_no, ↓reduceIte, Nat.reduceAdd, Nat.reduceMul, Nat.reduceEqDiff, Nat.reduceBEq, Nat.reduceLeDiff]; rfl) | (simp (disch := omega) only [go_sem, if_yes, if_no, ↓reduceIte, Nat.reduceAdd, Nat.reduceMul, Nat.reduceEqDiff, Nat.reduceBEq, Nat.reduceLeDiff]))), rfl, HOld.of _ (by omega)⟩
  · simp (disch := omega) only [AEnd, Try.results57, aresK, fin, go_sem, ↓reduceIte, Nat.reduceEqDiff, Nat.reduceAdd, Nat.reduceLeDiff, if_yes, if_no, implies_true, true_and, and_true, List.reverse_cons, List.reverse_nil, List.append_nil, hn, List.length_map]
    obtain rfl : i = l.fs.length := by omega
    rw [amN_end]
/-! ### Totals -/
theorem sumF_bd {F : Nat → Int} {B : Int} : ∀ n, (∀ i, i < n → -B ≤ F i ∧ F i ≤ B) → -(n * B) ≤ sumF F n ∧ sumF F n ≤ n * B
  | 0, _ => by simp [sumF]
  | n + 1, h => by
    have h1 := sumF_bd n (fun i hi => h i (by omega))
    have h2 := h n (by omega)
    have e : ((n + 1 : Nat) : Int) * B = n * B + B := by rw [Int.natCast_succ, Int.add_mul, Int.one_mul]
    rw [e]
    show -(_) ≤ sumF F n + F n ∧ sumF F n + F n ≤ _
    omega
theorem sumF_le {F : Nat → Int} {n : Nat} (hn : n ≤ 1000) (h : ∀ i, i < n → -10000000000 ≤ F i ∧ F i ≤ 10000000000) {i : Nat} (hi : i ≤ n) : -10000000000000 ≤ sumF F i ∧ sumF F i ≤ 10000000000000 := by
  have := sumF_bd (B := 10000000000) i (fun j hj => h j (by omega))
  omega
theorem c75 (l : List Fd) (g : FuncId) (cap : List AV) (F : Nat → Int) (hc : cap.all noL = true) (hl : l.length ≤ 1000) (hF : ∀ i, i < l.length → -10000000000 ≤ F i ∧ F i ≤ 10000000000)
    (hG : ∀ i, i < l.length → Pure Try.prog g ([.int .i64 (i : Nat), .agg (fd l i).row] ++ cap) (fun v => v = .int .i64 (F i))) :
    Pure Try.prog 75 [.lst 4 (l.map Fd.row), .fn (.func g) [] cap] (fun v => v = .int .i64 (sumF F l.length)) := by
  intro h
  refine ACalls.forget (ACalls.of tab mixed Try.call75 Try.func75 rfl (fi := ⟨23, [7], [], none, []⟩) rfl rfl (Nat.le_of_ble_eq_true rfl) (by decide) ?_)
  unfold startA
  repeat' (first | refine st_seq_reg rfl (by first | (simp only [go_sem]; rfl) | rfl) (by first | (simp only [go_sem]; rfl) | rfl) ?_ | refine st_reg rfl (by first | (simp only [go_sem]; rfl) | rfl) (by first | (simp only [go_sem]; rfl) | rfl) ?_ | refine st_op ?_ | refine st_det rfl (by simp (disch := omega) only [go_sem, wr_i64, if_yes, if_no, ↓reduceIte, Nat.reduceAdd, Nat.reduceMul, Nat.reduceEqDiff, Nat.reduceBEq, Nat.reduceLeDiff]; rfl) ?_ | refine st_loc rfl (by simp (disch := omega) only [go_sem, wr_i64, if_yes, if_no, ↓reduceIte, Nat.reduceAdd, Nat.reduceMul, Nat.reduceEqDiff, Nat.reduceBEq, Nat.reduceLeDiff]; rfl) ?_ | refine st_heap rfl (by simp (disch := omega) only [go_sem, wr_i64, if_yes, if_no, ↓reduceIte, Nat.reduceAdd, Nat.reduceMul, Nat.reduceEqDiff, Nat.reduceBEq, Nat.reduceLeDiff]; rfl) ?_ | refine st_store (by simp (disch := omega) only [go_sem, wr_i64, if_yes, if_no, ↓reduceIte, Nat.reduceAdd, Nat.reduceMul, Nat.reduceEqDiff, Nat.reduceBEq, Nat.reduceLeDiff]; rfl) ?_ | refine st_condT rfl ?_ | refine st_condF rfl ?_ | (refine st_condS rfl ?_ ?_ <;> intro hg <;> (try simp only [decide_eq_true_eq, decide_eq_false_iff_not, Bool.not_eq_true', Bool.not_eq_false'] at hg)) | refine st_nil ?_ | refine st_tN ?_ | refine st_seq ?_ | refine st_block ?_ | refine st_skip ?_ | refine st_exit ?_ | refine st_ret ?_ | refine st_tE ?_ | refine st_tR ?_ | refine st_bN ?_ | refine st_bR ?_ | refine st_bH ?_ | refine st_bM rfl ?_)
  refine st_loopC (α := Nat) tab mixed [] [] (by repeat (first | exact trivial | refine ⟨rfl, ?_⟩)) [] [] (by repeat (first | exact trivial | refine ⟨rfl, ?_⟩)) (fun i => [(10, .int .i64 i), (5, .int .i64 (sumF F i))]) [(1, _), (8, _), (9, _)] (fun _ => []) [] (fun i => i ≤ l.length) (fun i => l.length - i) (by decide) 0 (Nat.zero_le _) (by (try simp only [go_sem]); repeat' (first | exact trivial | refine And.intro ?_ ?_ | rfl | (simp (disch := omega) only [go_sem, if_yes, if_no, ↓reduceIte, Nat.reduceAdd, Nat.reduceMul, Nat.reduceEqDiff, Nat.reduceBEq, Nat.reduceLeDiff]; rfl) | (simp (disch := omega) only [go_sem, if_yes, if_no, ↓reduceIte, Nat.reduceAdd, Nat.reduceMul, Nat.reduceEqDiff, Nat.reduceBEq, Nat.reduceLeDiff]))) (by (try simp only [go_sem]); repeat' (first | exact trivial | refine And.intro ?_ ?_ | rfl | (simp (disch := omega) only [go_sem, if_yes, if_no, ↓reduceIte, Nat.reduceAdd, Nat.reduceMul, Nat.reduceEqDiff, Nat.reduceBEq, Nat.reduceLeDiff]; rfl) | (simp (disch := omega) only [go_sem, if_yes, if_no, ↓reduceIte, Nat.reduceAdd, Nat.reduceMul, Nat.reduceEqDiff, Nat.reduceBEq, Nat.reduceLeDiff]))) (by first | (simp only [go_sem]; rfl) | rfl) (by intro n; simp only [go_sem]; rfl) ?_
  intro i c i1 hc
  simp only [go_sem]
  have hs := sumF_le hl hF i1
  have hf := hF i
  repeat' (first | refine st_seq_reg rfl (by first | (simp only [go_sem]; rfl) | rfl) (by first | (simp only [go_sem]; rfl) | rfl) ?_ | refine st_reg rfl (by first | (simp only [go_sem]; rfl) | rfl) (by first | (simp only [go_sem]; rfl) | rfl) ?_ | refine st_op ?_ | refine st_det rfl (by simp (disch := omega) only [go_sem, wr_i64, if_yes, if_no, ↓reduceIte, Nat.reduceAdd, Nat.reduceMul, Nat.reduceEqDiff, Nat.reduceBEq, Nat.reduceLeDiff]; rfl) ?_ | refine st_loc rfl (by simp (disch := omega) only [go_sem, wr_i64, if_yes, if_no, ↓reduceIte, Nat.reduceAdd, Nat.reduceMul, Nat.reduceEqDiff, Nat.reduceBEq, Nat.reduceLeDiff]; rfl) ?_ | refine st_heap rfl (by simp (disch := omega) only [go_sem, wr_i64, if_yes, if_no, ↓reduceIte, Nat.reduceAdd, Nat.reduceMul, Nat.reduceEqDiff, Nat.reduceBEq, Nat.reduceLeDiff]; rfl) ?_ | refine st_store (by simp (disch := omega) only [go_sem, wr_i64, if_yes, if_no, ↓reduceIte, Nat.reduceAdd, Nat.reduceMul, Nat.reduceEqDiff, Nat.reduceBEq, Nat.reduceLeDiff]; rfl) ?_ | (refine st_pureV (by first | (simp only [go_sem]; rfl) | rfl) (by first | (simp (disch := omega) only [go_sem]; rfl) | rfl) rfl (hG i (by omega)) (by first | (simp only [go_sem]; rfl) | rfl) (by intro n; simp (disch := omega) only [go_sem]; rfl) ?_; intro v n hv hn; subst hv) | refine st_condT rfl ?_ | refine st_condF rfl ?_ | (refine st_condS rfl ?_ ?_ <;> intro hg <;> (try simp only [decide_eq_true_eq, decide_eq_false_iff_not, Bool.not_eq_true', Bool.not_eq_false'] at hg)) | refine st_nil ?_ | refine st_tN ?_ | refine st_seq ?_ | refine st_block ?_ | refine st_skip ?_ | refine st_exit ?_ | refine st_ret ?_ | refine st_tE ?_ | refine st_tR ?_ | refine st_bN ?_ | refine st_bR ?_ | refine st_bH ?_ | refine st_bM rfl ?_)
  · refine ⟨i + 1, (by show i + 1 ≤ l.length; omega), by show l.length - (i + 1) < l.length - i; omega, (by repeat' (first | exact trivial | refine And.intro ?_ ?_ | rfl | (simp (disch := omega) only [go_sem, if_yes, if_no, ↓reduceIte, Nat.reduceAdd, Nat.reduceMul, Nat.reduceEqDiff, Nat.reduceBEq, Nat.reduceLeDiff]; rfl) | (simp (disch := omega) only [go_sem, if_yes, if_no, ↓reduceIte, Nat.reduceAdd, Nat.reduceMul, Nat.reduceEqDiff, Nat.reduceBEq, Nat.reduceLeDiff]))), (by repeat' (first | exact trivial | refine And.intro ?_ ?_ | rfl | (simp (disch := omega) only [go_sem, if_yes, if_no, ↓reduceIte, Nat.reduceAdd, Nat.reduceMul, Nat.reduceEqDiff, Nat.reduceBEq, Nat.reduceLeDiff]; rfl) | (simp (disch := omega) only [go_sem, if_yes, if_no, ↓reduceIte, Nat.reduceAdd, Nat.reduceMul, Nat.reduceEqDiff, Nat.reduceBEq, Nat.reduceLeDiff]))), rfl, HOld.of _ (by omega)⟩
  · simp (disch := omega) only [AEnd, Try.results75, aresK, fin, go_sem, ↓reduceIte, Nat.reduceEqDiff, Nat.reduceAdd, Nat.reduceLeDiff, if_yes, if_no, implies_true, true_and, and_true, List.reverse_cons, List.reverse_nil]
    obtain rfl : i = l.length := by omega
    rfl
end Go.Proofs.Ytbbkeakbomngoaa
