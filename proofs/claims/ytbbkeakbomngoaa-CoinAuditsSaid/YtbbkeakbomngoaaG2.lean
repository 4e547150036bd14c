/- Contracts of functions that the claim reaches: what each call gives, told in our own logic. Conditions: those of each theorem. -/
import Derived.Test.YtbbkeakbomngoaaG1
set_option linter.all false
set_option linter.unusedSimpArgs false
set_option linter.unusedVariables false
namespace Go.Proofs.Ytbbkeakbomngoaa
open Go.Av
attribute [local irreducible] thenA blockA awp awpOps awpD awp1
set_option maxHeartbeats 8000000
set_option maxRecDepth 20000
/-- A fund, a bill, a ledger. -/
structure Fd where
  day : Int
  till : Int
  amt : Int
  uses : List Int
structure Bl where
  day : Int
  use : Int
  amt : Int
structure Lg where
  fs : List Fd
  bs : List Bl
def Fd.row (x : Fd) : List AV := [.int .i64 x.day, .int .i64 x.till, .int .i64 x.amt, .lst 1 (x.uses.map iv)]
@[go_sem] theorem Fd.row_eq (x : Fd) : x.row = [.int .i64 x.day, .int .i64 x.till, .int .i64 x.amt, .lst 1 (x.uses.map iv)] := rfl
def Bl.row (x : Bl) : List AV := [.int .i64 x.day, .int .i64 x.use, .int .i64 x.amt]
@[go_sem] theorem Bl.row_eq (x : Bl) : x.row = [.int .i64 x.day, .int .i64 x.use, .int .i64 x.amt] := rfl
def Lg.av (l : Lg) : AV := .agg [.lst 4 (l.fs.map Fd.row), .lst 3 (l.bs.map Bl.row)]
@[go_sem] theorem Lg.av_eq (l : Lg) : l.av = .agg [.lst 4 (l.fs.map Fd.row), .lst 3 (l.bs.map Bl.row)] := rfl
def fd (l : List Fd) (i : Nat) : Fd := l.getD i ⟨0, 0, 0, []⟩
def bl (l : List Bl) (i : Nat) : Bl := l.getD i ⟨0, 0, 0⟩
@[go_sem] theorem frow_getD {l : List Fd} {i : Nat} (h : i < l.length) : (l.map Fd.row).getD i [] = (fd l i).row := by
  simp [List.getD_eq_getElem?_getD, h, fd]
@[go_sem] theorem brow_getD {l : List Bl} {i : Nat} (h : i < l.length) : (l.map Bl.row).getD i [] = (bl l i).row := by
  simp [List.getD_eq_getElem?_getD, h, bl]
theorem fd_mem {l : List Fd} {i : Nat} (h : i < l.length) : fd l i ∈ l := by
  unfold fd
  rw [List.getD_eq_getElem?_getD, List.getElem?_eq_getElem h]
  exact List.getElem_mem h
theorem bl_mem {l : List Bl} {i : Nat} (h : i < l.length) : bl l i ∈ l := by
  unfold bl
  rw [List.getD_eq_getElem?_getD, List.getElem?_eq_getElem h]
  exact List.getElem_mem h
/-- A fund, a bill, a ledger that is valid. -/
structure FdOk (x : Fd) : Prop where
  day : 0 ≤ x.day ∧ x.day ≤ 3650 ∧ 0 ≤ x.till ∧ x.till ≤ 3650
  ord : x.day ≤ x.till
  amt : 0 ≤ x.amt ∧ x.amt ≤ 1000000000
  many : x.uses.length ≤ 8
  uses : ∀ u ∈ x.uses, 0 ≤ u ∧ u ≤ 7
structure BlOk (x : Bl) : Prop where
  day : 0 ≤ x.day ∧ x.day ≤ 3650
  use : 0 ≤ x.use ∧ x.use ≤ 7
  amt : 0 ≤ x.amt ∧ x.amt ≤ 1000000000
structure LgOk (l : Lg) : Prop where
  fn : l.fs.length ≤ 8
  bn : l.bs.length ≤ 8
  f : ∀ x ∈ l.fs, FdOk x
  b : ∀ x ∈ l.bs, BlOk x
/-! ### Sets -/
def setN (l : List Int) : Nat → Int
  | 0 => 0
  | i + 1 => wthB (setN l i) (l.getD i 0)
def setB (l : List Int) : Int := setN l l.length
theorem c80 (l : List Int) (h1 : l.length ≤ 1000) (h2 : ∀ u ∈ l, 0 ≤ u) : Pure Try.prog 80 [.lst 1 (l.map iv)] (fun v => v = .int .i64 (setB l)) := by
  have hg : ∀ i, i < l.length → 0 ≤ l.getD i 0 := fun i hi => by
    rw [List.getD_eq_getElem?_getD, List.getElem?_eq_getElem hi]; exact h2 _ (List.getElem_mem hi)
  intro h
  refine ACalls.forget (ACalls.of tab mixed Try.call80 Try.func80 rfl (fi := ⟨17, [], [], none, []⟩) rfl rfl (Nat.le_of_ble_eq_true rfl) (by decide) ?_)
  unfold startA
  repeat' (first | refine st_seq_reg rfl (by first | (simp only [go_sem]; rfl) | rfl) (by first | (simp only [go_sem]; rfl) | rfl) ?_ | refine st_reg rfl (by first | (simp only [go_sem]; rfl) | rfl) (by first | (simp only [go_sem]; rfl) | rfl) ?_ | refine st_op ?_ | refine st_det rfl (by simp (disch := omega) only [go_sem, wr_i64, if_yes, if_no, ↓reduceIte, Nat.reduceAdd, Nat.reduceMul, Nat.reduceEqDiff, Nat.reduceBEq, Nat.reduceLeDiff]; rfl) ?_ | refine st_condT rfl ?_ | refine st_condF rfl ?_ | (refine st_condS rfl ?_ ?_ <;> intro hg <;> (try simp only [decide_eq_true_eq, decide_eq_false_iff_not, Bool.not_eq_true', Bool.not_eq_false'] at hg)) | refine st_nil ?_ | refine st_tN ?_ | refine st_seq ?_ | refine st_block ?_ | refine st_skip ?_ | refine st_exit ?_ | refine st_ret ?_ | refine st_tE ?_ | refine st_tR ?_ | refine st_bN ?_ | refine st_bR ?_ | refine st_bH ?_ | refine st_bM rfl ?_)
  refine st_loopC (α := Nat) tab mixed [] [] (by repeat (first | exact trivial | refine ⟨rfl, ?_⟩)) [] [] (by repeat (first | exact trivial | refine ⟨rfl, ?_⟩)) (fun i => [(8, .int .i64 i), (3, .int .i64 (setN l i))]) [(0, _), (6, _), (7, _)] (fun _ => []) [] (fun i => i ≤ l.length) (fun i => l.length - i) (by decide) 0 (Nat.zero_le _) (by (try simp only [go_sem]); repeat' (first | exact trivial | refine And.intro ?_ ?_ | rfl | (simp (disch := omega) only [go_sem, if_yes, if_no, ↓reduceIte, Nat.reduceAdd, Nat.reduceMul, Nat.reduceEqDiff, Nat.reduceBEq, Nat.reduceLeDiff]; rfl) | (simp (disch := omega) only [go_sem, if_yes, if_no, ↓reduceIte, Nat.reduceAdd, Nat.reduceMul, Nat.reduceEqDiff, Nat.reduceBEq, Nat.reduceLeDiff]))) (by (try simp only [go_sem]); repeat' (first | exact trivial | refine And.intro ?_ ?_ | rfl | (simp (disch := omega) only [go_sem, if_yes, if_no, ↓reduceIte, Nat.reduceAdd, Nat.reduceMul, Nat.reduceEqDiff, Nat.reduceBEq, Nat.reduceLeDiff]; rfl) | (simp (disch := omega) only [go_sem, if_yes, if_no, ↓reduceIte, Nat.reduceAdd, Nat.reduceMul, Nat.reduceEqDiff, Nat.reduceBEq, Nat.reduceLeDiff]))) (by first | (simp only [go_sem]; rfl) | rfl) (by intro n; simp only [go_sem]; rfl) ?_
  intro i c i1 hc
  simp only [go_sem]
  have hgi := hg i
  repeat' (first | refine st_seq_reg rfl (by first | (simp only [go_sem]; rfl) | rfl) (by first | (simp only [go_sem]; rfl) | rfl) ?_ | refine st_reg rfl (by first | (simp only [go_sem]; rfl) | rfl) (by first | (simp only [go_sem]; rfl) | rfl) ?_ | refine st_op ?_ | refine st_det rfl (by simp (disch := omega) only [go_sem, wr_i64, if_yes, if_no, ↓reduceIte, Nat.reduceAdd, Nat.reduceMul, Nat.reduceEqDiff, Nat.reduceBEq, Nat.reduceLeDiff]; rfl) ?_ | (refine st_pureE (by first | (simp (disch := omega) only [go_sem]; rfl) | rfl) rfl (c87 (setN l i) (l.getD i 0) (hgi (by omega))) (by first | (simp only [go_sem]; rfl) | rfl) (by intro n; simp (disch := omega) only [go_sem]; rfl) ?_; intro n hn) | refine st_condT rfl ?_ | refine st_condF rfl ?_ | (refine st_condS rfl ?_ ?_ <;> intro hg <;> (try simp only [decide_eq_true_eq, decide_eq_false_iff_not, Bool.not_eq_true', Bool.not_eq_false'] at hg)) | refine st_nil ?_ | refine st_tN ?_ | refine st_seq ?_ | refine st_block ?_ | refine st_skip ?_ | refine st_exit ?_ | refine st_ret ?_ | refine st_tE ?_ | refine st_tR ?_ | refine st_bN ?_ | refine st_bR ?_ | refine st_bH ?_ | refine st_bM rfl ?_)
  · refine ⟨i + 1, (by show i + 1 ≤ l.length; omega), by show l.length - (i + 1) < l.length - i; omega, (by repeat' (first | exact trivial | refine And.intro ?_ ?_ | rfl | (simp (disch := omega) only [go_sem, if_yes, if_no, ↓reduceIte, Nat.reduceAdd, Nat.reduceMul, Nat.reduceEqDiff, Nat.reduceBEq, Nat.reduceLeDiff]; rfl) | (simp (disch := omega) only [go_sem, if_yes, if_no, ↓reduceIte, Nat.reduceAdd, Nat.reduceMul, Nat.reduceEqDiff, Nat.reduceBEq, Nat.reduceLeDiff]))), (by repeat' (first | exact trivial | refine And.intro ?_ ?_ | rfl | (simp (disch := omega) only [go_sem, if_yes, if_no, ↓reduceIte, Nat.reduceAdd, Nat.reduceMul, Nat.reduceEqDiff, Nat.reduceBEq, Nat.reduceLeDiff]; rfl) | (simp (disch := omega) only [go_sem, if_yes, if_no, ↓reduceIte, Nat.reduceAdd, Nat.reduceMul, Nat.reduceEqDiff, Nat.reduceBEq, Nat.reduceLeDiff]))), rfl, HOld.of _ (by omega)⟩
  · simp (disch := omega) only [AEnd, Try.results80, aresK, fin, go_sem, ↓reduceIte, Nat.reduceEqDiff, Nat.reduceAdd, Nat.reduceLeDiff, if_yes, if_no, implies_true, true_and, and_true, List.reverse_cons, List.reverse_nil]
    obtain rfl : i = l.length := by omega
    rfl
def payB (f : Fd) (b : Bl) : Bool := decide (f.day ≤ b.day ∧ b.day ≤ f.till) && hasB (setB f.uses) b.use
theorem c58 (f : Fd) (b : Bl) (h1 : f.uses.length ≤ 1000) (h2 : ∀ u ∈ f.uses, 0 ≤ u) (h3 : 0 ≤ b.use) : Pure Try.prog 58 [.agg f.row, .agg b.row] (fun v => v = .bool (payB f b)) := by
  intro h
  refine ACalls.forget (ACalls.of tab mixed Try.call58 Try.func58 rfl (fi := ⟨24, [], [2, 3, 16], none, []⟩) rfl rfl (Nat.le_of_ble_eq_true rfl) (by decide) ?_)
  unfold startA
  simp only [go_sem]
  repeat' (first | refine st_seq_reg rfl (by first | (simp only [go_sem]; rfl) | rfl) (by first | (simp only [go_sem]; rfl) | rfl) ?_ | refine st_reg rfl (by first | (simp only [go_sem]; rfl) | rfl) (by first | (simp only [go_sem]; rfl) | rfl) ?_ | refine st_op ?_ | refine st_det rfl (by simp (disch := omega) only [go_sem, wr_i64, if_yes, if_no, ↓reduceIte, Nat.reduceAdd, Nat.reduceMul, Nat.reduceEqDiff, Nat.reduceBEq, Nat.reduceLeDiff]; rfl) ?_ | refine st_loc rfl (by simp (disch := omega) only [go_sem, wr_i64, if_yes, if_no, ↓reduceIte, Nat.reduceAdd, Nat.reduceMul, Nat.reduceEqDiff, Nat.reduceBEq, Nat.reduceLeDiff]; rfl) ?_ | refine st_heap rfl (by simp (disch := omega) only [go_sem, wr_i64, if_yes, if_no, ↓reduceIte, Nat.reduceAdd, Nat.reduceMul, Nat.reduceEqDiff, Nat.reduceBEq, Nat.reduceLeDiff]; rfl) ?_ | (refine st_pureE (by first | (simp (disch := omega) only [go_sem]; rfl) | rfl) rfl (c80 f.uses h1 h2) (by first | (simp only [go_sem]; rfl) | rfl) (by intro n; simp (disch := omega) only [go_sem]; rfl) ?_; intro n hn) | (refine st_pureE (by first | (simp (disch := omega) only [go_sem]; rfl) | rfl) rfl (c65a _ _ _) (by first | (simp only [go_sem]; rfl) | rfl) (by intro n; simp (disch := omega) only [go_sem]; rfl) ?_; intro n hn) | (refine st_pureV (by first | (simp only [go_sem]; rfl) | rfl) (by first | (simp (disch := omega) only [go_sem]; rfl) | rfl) rfl (c64 (setB f.uses) b.use h3) (by first | (simp only [go_sem]; rfl) | rfl) (by intro n; simp (disch := omega) only [go_sem]; rfl) ?_; intro v n hv hn; subst hv) | refine st_gT rfl rfl rfl ?_ | refine st_gF rfl rfl rfl ?_ | (refine st_gS rfl rfl ?_ ?_ <;> intro hg <;> (try simp only [decide_eq_true_eq, decide_eq_false_iff_not, Bool.not_eq_true', Bool.not_eq_false'] at hg)) | refine st_nil ?_ | refine st_tN ?_ | refine st_seq ?_ | refine st_skip ?_ | refine st_ret ?_ | refine st_tE ?_ | refine st_tR ?_)
  all_goals
    simp (disch := omega) only [AEnd, Try.results58, aresK, fin, go_sem, ↓reduceIte, Nat.reduceEqDiff, Nat.reduceAdd, Nat.reduceLeDiff, if_yes, if_no, implies_true, true_and, and_true, List.reverse_cons, List.reverse_nil]
    simp [payB, *]
end Go.Proofs.Ytbbkeakbomngoaa
