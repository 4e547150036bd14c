/- Contracts of functions that the claim reaches: what each call gives, told in our own logic. Conditions: those of each theorem. -/
import Derived.Test.YtkjpceapflhmnaaF46a
import Derived.Test.YtkjpceapflhmnaaF10
import Derived.Test.YtkjpceapflhmnaaF3
import Derived.Test.YtkjpceapflhmnaaBaseD
set_option linter.all false
set_option linter.unusedSimpArgs false
set_option linter.unusedVariables false
namespace Go.Proofs.Ytkjpceapflhmnaa
open Go.Av
attribute [local irreducible] thenA blockA awp awpOps awpD awp1
set_option maxHeartbeats 8000000
set_option maxRecDepth 20000
/-! ### Fire rules -/
def ofn (f : Fl) (k : Int) : AV := .fn (.func 115) [] [.iptr f.av.cells 0, .iptr [.int .i64 k] 0]
@[go_sem] theorem ofn_eq (f : Fl) (k : Int) : ofn f k = .fn (.func 115) [] [.iptr [.int .i64 f.len, .int .i64 f.wid, .int .i64 f.front, .int .i64 f.rear, .int .i64 f.turn, .int .i64 f.kilos, .int .i64 f.mid, .int .i64 f.high, .lst 7 (f.loads.map Ld.row)] 0, .iptr [.int .i64 k] 0] := rfl
theorem c104 (f : Fl) (k : Int) : Pure Try.prog 104 [f.av, .int .i64 k] (fun v => v = ofn f k) := by
  intro h
  refine ACalls.forget (ACalls.of tab mixed Try.call104 Try.func104 rfl (fi := ⟨6, [], [2, 3], none, []⟩) rfl rfl (Nat.le_of_ble_eq_true rfl) (by decide) ?_)
  unfold startA
  simp only [go_sem]
  repeat' (first
      | refine st_seq_reg rfl (by first | (simp only [go_sem]; rfl) | rfl) (by first | (simp only [go_sem]; rfl) | rfl) ?_
      | refine st_reg rfl (by first | (simp only [go_sem]; rfl) | rfl) (by first | (simp only [go_sem]; rfl) | rfl) ?_
      | refine st_seq_draw rfl (by first | (simp only [go_sem]; rfl) | rfl) (by first | (simp only [go_sem]; rfl) | rfl) ?_
      | refine st_draw rfl (by first | (simp only [go_sem]; rfl) | rfl) (by first | (simp only [go_sem]; rfl) | rfl) ?_
      | refine st_op ?_
      | refine st_det rfl (by simp (disch := omega) only [go_sem, wr_i64, if_yes, if_no, ↓reduceIte, Nat.reduceAdd, Nat.reduceMul, Nat.reduceEqDiff, Nat.reduceBEq, Nat.reduceLeDiff]; rfl) ?_
      | refine st_dop rfl ?_
      | refine st_loc rfl (by simp (disch := omega) only [go_sem, wr_i64, if_yes, if_no, ↓reduceIte, Nat.reduceAdd, Nat.reduceMul, Nat.reduceEqDiff, Nat.reduceBEq, Nat.reduceLeDiff]; rfl) ?_
      | refine st_heap rfl (by simp (disch := omega) only [go_sem, wr_i64, if_yes, if_no, ↓reduceIte, Nat.reduceAdd, Nat.reduceMul, Nat.reduceEqDiff, Nat.reduceBEq, Nat.reduceLeDiff]; rfl) ?_
      | refine st_store (by simp (disch := omega) only [go_sem, wr_i64, if_yes, if_no, ↓reduceIte, Nat.reduceAdd, Nat.reduceMul, Nat.reduceEqDiff, Nat.reduceBEq, Nat.reduceLeDiff]; rfl) ?_
      | refine st_append (by simp (disch := omega) only [go_sem, wr_i64, if_yes, if_no, ↓reduceIte, Nat.reduceAdd, Nat.reduceMul, Nat.reduceEqDiff, Nat.reduceBEq, Nat.reduceLeDiff]; rfl) ?_
      | refine st_gT rfl rfl rfl ?_
      | refine st_gF rfl rfl rfl ?_
      | refine st_dgT rfl rfl rfl rfl ?_
      | refine st_dgF rfl rfl rfl ?_
      | (refine st_gS rfl rfl ?_ ?_ <;> intro hg <;> (try simp only [decide_eq_true_eq, decide_eq_false_iff_not, Bool.not_eq_true', Bool.not_eq_false'] at hg))
      | (refine st_dgS rfl rfl ?_ ?_ <;> intro hg <;> (try simp only [decide_eq_true_eq, decide_eq_false_iff_not, Bool.not_eq_true', Bool.not_eq_false'] at hg))
      | refine st_condT rfl ?_
      | refine st_condF rfl ?_
      | (refine st_condS rfl ?_ ?_ <;> intro hg <;> (try simp only [decide_eq_true_eq, decide_eq_false_iff_not, Bool.not_eq_true', Bool.not_eq_false'] at hg))
      | refine st_nil ?_
      | refine st_dnil ?_
      | refine st_tN ?_
      | refine st_seq ?_
      | refine st_block ?_
      | refine st_skip ?_
      | refine st_exit ?_
      | refine st_ret ?_
      | refine st_tE ?_
      | refine st_tR ?_
      | refine st_bN ?_
      | refine st_bR ?_
      | refine st_bH ?_
      | refine st_bM rfl ?_)
  simp (disch := omega) only [AEnd, Try.results104, aresK, fin, go_sem, ↓reduceIte, Nat.reduceEqDiff, Nat.reduceAdd, Nat.reduceLeDiff, if_yes, if_no, implies_true, true_and, and_true, List.reverse_cons, List.reverse_nil]
theorem c115 (f : Fl) (k : Int) (l : Nat) (hl : f.loads.length ≤ 1000) (I : Nat → AH → Prop) (hI : ∀ i h n, I i h → h.clk ≤ n → I i (h.tick n)) (hs : ∀ i h, i < f.loads.length → ¬ (ld f.loads i).kind = k → I i h → I (i + 1) h)
    (hy : ∀ i h, i < f.loads.length → (ld f.loads i).kind = k → I i h → AYields Try.prog l [.int .i64 (i : Nat), .agg (ld f.loads i).row] h (fun v h' => v = .bool true ∧ I (i + 1) h')) (h : AH) (h0 : I 0 h) :
    ACalls Try.prog 115 [.fn (.yield l) [] [], .iptr [.int .i64 f.len, .int .i64 f.wid, .int .i64 f.front, .int .i64 f.rear, .int .i64 f.turn, .int .i64 f.kilos, .int .i64 f.mid, .int .i64 f.high, .lst 7 (f.loads.map Ld.row)] 0, .iptr [.int .i64 k] 0] h (fun _ h' => I f.loads.length h') := by
  refine ACalls.of tab mixed Try.call115 Try.func115 rfl (fi := ⟨26, [5], [], none, []⟩) rfl rfl (Nat.le_of_ble_eq_true rfl) (by decide) ?_
  unfold startA
  repeat' (first
      | refine st_seq_reg rfl (by first | (simp only [go_sem, List.length_map]; rfl) | rfl) (by first | (simp only [go_sem, List.length_map]; rfl) | rfl) ?_
      | refine st_reg rfl (by first | (simp only [go_sem, List.length_map]; rfl) | rfl) (by first | (simp only [go_sem, List.length_map]; rfl) | rfl) ?_
      | refine st_seq_draw rfl (by first | (simp only [go_sem, List.length_map]; rfl) | rfl) (by first | (simp only [go_sem, List.length_map]; rfl) | rfl) ?_
      | refine st_draw rfl (by first | (simp only [go_sem, List.length_map]; rfl) | rfl) (by first | (simp only [go_sem, List.length_map]; rfl) | rfl) ?_
      | refine st_op ?_
      | refine st_det rfl (by simp (disch := omega) only [go_sem, wr_i64, if_yes, if_no, ↓reduceIte, Nat.reduceAdd, Nat.reduceMul, Nat.reduceEqDiff, Nat.reduceBEq, Nat.reduceLeDiff, List.length_map]; rfl) ?_
      | refine st_dop rfl ?_
      | refine st_loc rfl (by simp (disch := omega) only [go_sem, wr_i64, if_yes, if_no, ↓reduceIte, Nat.reduceAdd, Nat.reduceMul, Nat.reduceEqDiff, Nat.reduceBEq, Nat.reduceLeDiff, List.length_map]; rfl) ?_
      | refine st_heap rfl (by simp (disch := omega) only [go_sem, wr_i64, if_yes, if_no, ↓reduceIte, Nat.reduceAdd, Nat.reduceMul, Nat.reduceEqDiff, Nat.reduceBEq, Nat.reduceLeDiff, List.length_map]; rfl) ?_
      | refine st_store (by simp (disch := omega) only [go_sem, wr_i64, if_yes, if_no, ↓reduceIte, Nat.reduceAdd, Nat.reduceMul, Nat.reduceEqDiff, Nat.reduceBEq, Nat.reduceLeDiff, List.length_map]; rfl) ?_
      | refine st_append (by simp (disch := omega) only [go_sem, wr_i64, if_yes, if_no, ↓reduceIte, Nat.reduceAdd, Nat.reduceMul, Nat.reduceEqDiff, Nat.reduceBEq, Nat.reduceLeDiff, List.length_map]; rfl) ?_
      | refine st_gT rfl rfl rfl ?_
      | refine st_gF rfl rfl rfl ?_
      | refine st_dgT rfl rfl rfl rfl ?_
      | refine st_dgF rfl rfl rfl ?_
      | (refine st_gS rfl rfl ?_ ?_ <;> intro hg <;> (try simp only [decide_eq_true_eq, decide_eq_false_iff_not, Bool.not_eq_true', Bool.not_eq_false'] at hg))
      | (refine st_dgS rfl rfl ?_ ?_ <;> intro hg <;> (try simp only [decide_eq_true_eq, decide_eq_false_iff_not, Bool.not_eq_true', Bool.not_eq_false'] at hg))
      | refine st_condT rfl ?_
      | refine st_condF rfl ?_
      | (refine st_condS rfl ?_ ?_ <;> intro hg <;> (try simp only [decide_eq_true_eq, decide_eq_false_iff_not, Bool.not_eq_true', Bool.not_eq_false'] at hg))
      | refine st_nil ?_
      | refine st_dnil ?_
      | refine st_tN ?_
      | refine st_seq ?_
      | refine st_block ?_
      | refine st_skip ?_
      | refine st_exit ?_
      | refine st_ret ?_
      | refine st_tE ?_
      | refine st_tR ?_
      | refine st_bN ?_
      | refine st_bR ?_
      | refine st_bH ?_
      | refine st_bM rfl ?_)
  refine st_loopH (α := Nat × AH) tab mixed [] [] (by repeat (first | exact trivial | refine ⟨rfl, ?_⟩)) [] [] (by repeat (first | exact trivial | refine ⟨rfl, ?_⟩)) (fun a => [(9, .int .i64 (a.1 : Nat))]) [(0, _), (1, _), (2, _), (7, _), (8, _)] (fun _ => []) [] (fun a => a.2) (fun a => a.1 ≤ f.loads.length ∧ I a.1 a.2) (fun a => f.loads.length - a.1) (by decide) (0, h) ⟨by omega, h0⟩ (by (try simp only [go_sem]); repeat' (first | exact trivial | refine And.intro ?_ ?_ | rfl | (simp (disch := omega) only [go_sem, if_yes, if_no, ↓reduceIte, Nat.reduceAdd, Nat.reduceMul, Nat.reduceEqDiff, Nat.reduceBEq, Nat.reduceLeDiff]; rfl) | (simp (disch := omega) only [go_sem, if_yes, if_no, ↓reduceIte, Nat.reduceAdd, Nat.reduceMul, Nat.reduceEqDiff, Nat.reduceBEq, Nat.reduceLeDiff]))) (by (try simp only [go_sem]); repeat' (first | exact trivial | refine And.intro ?_ ?_ | rfl | (simp (disch := omega) only [go_sem, if_yes, if_no, ↓reduceIte, Nat.reduceAdd, Nat.reduceMul, Nat.reduceEqDiff, Nat.reduceBEq, Nat.reduceLeDiff]; rfl) | (simp (disch := omega) only [go_sem, if_yes, if_no, ↓reduceIte, Nat.reduceAdd, Nat.reduceMul, Nat.reduceEqDiff, Nat.reduceBEq, Nat.reduceLeDiff]))) (HOld.tick (by simp only [go_sem]; omega)) ?_
  rintro ⟨i, g⟩ c ⟨hi', hi⟩ hc
  dsimp only at hi' hi
  simp only [go_sem] at hc
  simp only [go_sem]
  repeat' (first
      | refine st_seq_reg rfl (by first | (simp only [go_sem, List.length_map]; rfl) | rfl) (by first | (simp only [go_sem, List.length_map]; rfl) | rfl) ?_
      | refine st_reg rfl (by first | (simp only [go_sem, List.length_map]; rfl) | rfl) (by first | (simp only [go_sem, List.length_map]; rfl) | rfl) ?_
      | refine st_seq_draw rfl (by first | (simp only [go_sem, List.length_map]; rfl) | rfl) (by first | (simp only [go_sem, List.length_map]; rfl) | rfl) ?_
      | refine st_draw rfl (by first | (simp only [go_sem, List.length_map]; rfl) | rfl) (by first | (simp only [go_sem, List.length_map]; rfl) | rfl) ?_
      | refine st_op ?_
      | refine st_det rfl (by simp (disch := omega) only [go_sem, wr_i64, if_yes, if_no, ↓reduceIte, Nat.reduceAdd, Nat.reduceMul, Nat.reduceEqDiff, Nat.reduceBEq, Nat.reduceLeDiff, List.length_map]; rfl) ?_
      | refine st_dop rfl ?_
      | refine st_loc rfl (by simp (disch := omega) only [go_sem, wr_i64, if_yes, if_no, ↓reduceIte, Nat.reduceAdd, Nat.reduceMul, Nat.reduceEqDiff, Nat.reduceBEq, Nat.reduceLeDiff, List.length_map]; rfl) ?_
      | refine st_heap rfl (by simp (disch := omega) only [go_sem, wr_i64, if_yes, if_no, ↓reduceIte, Nat.reduceAdd, Nat.reduceMul, Nat.reduceEqDiff, Nat.reduceBEq, Nat.reduceLeDiff, List.length_map]; rfl) ?_
      | refine st_store (by simp (disch := omega) only [go_sem, wr_i64, if_yes, if_no, ↓reduceIte, Nat.reduceAdd, Nat.reduceMul, Nat.reduceEqDiff, Nat.reduceBEq, Nat.reduceLeDiff, List.length_map]; rfl) ?_
      | refine st_append (by simp (disch := omega) only [go_sem, wr_i64, if_yes, if_no, ↓reduceIte, Nat.reduceAdd, Nat.reduceMul, Nat.reduceEqDiff, Nat.reduceBEq, Nat.reduceLeDiff, List.length_map]; rfl) ?_
      | (refine st_yield rfl (by first | (simp (disch := omega) only [go_sem]; rfl) | (simp (disch := omega) only [go_sem])) rfl (hy i _ (by omega) hg (hI i g _ hi (by omega))) ?_; rintro v h' ⟨rfl, hi2⟩)
      | refine st_gT rfl rfl rfl ?_
      | refine st_gF rfl rfl rfl ?_
      | refine st_dgT rfl rfl rfl rfl ?_
      | refine st_dgF rfl rfl rfl ?_
      | (refine st_gS rfl rfl ?_ ?_ <;> intro hg <;> (try simp only [decide_eq_true_eq, decide_eq_false_iff_not, Bool.not_eq_true', Bool.not_eq_false'] at hg))
      | (refine st_dgS rfl rfl ?_ ?_ <;> intro hg <;> (try simp only [decide_eq_true_eq, decide_eq_false_iff_not, Bool.not_eq_true', Bool.not_eq_false'] at hg))
      | refine st_condT rfl ?_
      | refine st_condF rfl ?_
      | (refine st_condS rfl ?_ ?_ <;> intro hg <;> (try simp only [decide_eq_true_eq, decide_eq_false_iff_not, Bool.not_eq_true', Bool.not_eq_false'] at hg))
      | refine st_nil ?_
      | refine st_dnil ?_
      | refine st_tN ?_
      | refine st_seq ?_
      | refine st_block ?_
      | refine st_skip ?_
      | refine st_exit ?_
      | refine st_ret ?_
      | refine st_tE ?_
      | refine st_tR ?_
      | refine st_bN ?_
      | refine st_bR ?_
      | refine st_bH ?_
      | refine st_bM rfl ?_)
  · refine ⟨(i + 1, h'), ⟨by show i + 1 ≤ f.loads.length; omega, hi2⟩, by show f.loads.length - (i + 1) < f.loads.length - i; omega, (by repeat' (first | exact trivial | refine And.intro ?_ ?_ | rfl | (simp (disch := omega) only [go_sem, if_yes, if_no, ↓reduceIte, Nat.reduceAdd, Nat.reduceMul, Nat.reduceEqDiff, Nat.reduceBEq, Nat.reduceLeDiff]; rfl) | (simp (disch := omega) only [go_sem, if_yes, if_no, ↓reduceIte, Nat.reduceAdd, Nat.reduceMul, Nat.reduceEqDiff, Nat.reduceBEq, Nat.reduceLeDiff]))), (by repeat' (first | exact trivial | refine And.intro ?_ ?_ | rfl | (simp (disch := omega) only [go_sem, if_yes, if_no, ↓reduceIte, Nat.reduceAdd, Nat.reduceMul, Nat.reduceEqDiff, Nat.reduceBEq, Nat.reduceLeDiff]; rfl) | (simp (disch := omega) only [go_sem, if_yes, if_no, ↓reduceIte, Nat.reduceAdd, Nat.reduceMul, Nat.reduceEqDiff, Nat.reduceBEq, Nat.reduceLeDiff]))), rfl, HOld.tick (Nat.le_succ _)⟩
  · refine ⟨(i + 1, g), ⟨by show i + 1 ≤ f.loads.length; omega, hs i g (by omega) hg hi⟩, by show f.loads.length - (i + 1) < f.loads.length - i; omega, (by repeat' (first | exact trivial | refine And.intro ?_ ?_ | rfl | (simp (disch := omega) only [go_sem, if_yes, if_no, ↓reduceIte, Nat.reduceAdd, Nat.reduceMul, Nat.reduceEqDiff, Nat.reduceBEq, Nat.reduceLeDiff]; rfl) | (simp (disch := omega) only [go_sem, if_yes, if_no, ↓reduceIte, Nat.reduceAdd, Nat.reduceMul, Nat.reduceEqDiff, Nat.reduceBEq, Nat.reduceLeDiff]))), (by repeat' (first | exact trivial | refine And.intro ?_ ?_ | rfl | (simp (disch := omega) only [go_sem, if_yes, if_no, ↓reduceIte, Nat.reduceAdd, Nat.reduceMul, Nat.reduceEqDiff, Nat.reduceBEq, Nat.reduceLeDiff]; rfl) | (simp (disch := omega) only [go_sem, if_yes, if_no, ↓reduceIte, Nat.reduceAdd, Nat.reduceMul, Nat.reduceEqDiff, Nat.reduceBEq, Nat.reduceLeDiff]))), rfl, by refine HOld.tick ?_; show g.clk ≤ _; omega⟩
  · simp (disch := omega) only [AEnd, Try.results115, aresK, fin, go_sem, ↓reduceIte, Nat.reduceEqDiff, Nat.reduceAdd, Nat.reduceLeDiff, if_yes, if_no, implies_true, true_and, and_true, List.reverse_cons, List.reverse_nil]
    have e : i = f.loads.length := by omega
    subst e
    exact hI _ _ _ hi (by omega)
def nr (p : Nat × Nat) : List AV := [.int .i64 (p.1 : Nat), .int .i64 (p.2 : Nat)]
def isNear (l : List Ld) (ap : Int) (i k : Nat) : Prop := (ld l k).kind = 4 ∧ max ((ld l i).at_ - (ld l k).at_) ((ld l k).at_ - (ld l i).at_) < ap
instance (l : List Ld) (ap : Int) (i k : Nat) : Decidable (isNear l ap i k) := by unfold isNear; infer_instance
def nearRow (l : List Ld) (ap : Int) (i : Nat) : Nat → List (Nat × Nat)
  | 0 => []
  | k + 1 => nearRow l ap i k ++ (if isNear l ap i k then [(i, k)] else [])
def nearUp (l : List Ld) (ap : Int) : Nat → List (Nat × Nat)
  | 0 => []
  | i + 1 => nearUp l ap i ++ (if (ld l i).kind = 2 then nearRow l ap i l.length else [])
def powUp (l : List Ld) : Nat → Int
  | 0 => 0
  | i + 1 => powUp l i + (if (ld l i).kind = 2 then (ld l i).watts else 0)
def lampUp (l : List Ld) : Nat → Int
  | 0 => 0
  | i + 1 => lampUp l i + (if (ld l i).kind = 3 then (ld l i).watts else 0)
def fireE (f : Fl) (ap : Int) : Int := if chkE f ≠ 0 then chkE f else if ¬ (0 ≤ ap ∧ ap ≤ 3000) then 2 else 0
def fireL (f : Fl) (ap : Int) : List (Nat × Nat) := if fireE f ap = 0 then nearUp f.loads ap f.loads.length else []
def fireS (f : Fl) (ap : Int) : Int := if fireE f ap = 0 then powUp f.loads f.loads.length - lampUp f.loads f.loads.length else 0
theorem chkWatts {f : Fl} (h : chkE f = 0) : ∀ x ∈ f.loads, 0 ≤ x.watts ∧ x.watts ≤ 1000000 := by
  have aux : ∀ l : List Ld, loadsE f l = 0 → ∀ x ∈ l, 0 ≤ x.watts ∧ x.watts ≤ 1000000 := by
    intro l
    induction l with
    | nil => intro _ x hx; cases hx
    | cons y l ih =>
      intro he x hx
      unfold loadsE at he
      split at he
      · omega
      · rename_i hy
        rcases List.mem_cons.1 hx with rfl | hx
        · have hy' : loadE f x = 0 := by omega
          unfold loadE at hy'
          (repeat' split at hy') <;> omega
        · exact ih he x hx
  unfold chkE at h
  (repeat' split at h) <;> try omega
  exact aux _ h
theorem pow_bd {l : List Ld} (h : ∀ x ∈ l, 0 ≤ x.watts ∧ x.watts ≤ 1000000) : ∀ i, i ≤ l.length → (0 ≤ powUp l i ∧ powUp l i ≤ 1000000 * i) ∧ (0 ≤ lampUp l i ∧ lampUp l i ≤ 1000000 * i) := by
  intro i
  induction i with
  | zero => intro _; simp [powUp, lampUp]
  | succ i ih =>
    intro hi
    have h1 := ih (by omega)
    have h2 := h _ (ld_mem (l := l) (i := i) (by omega))
    have e1 : powUp l (i + 1) = powUp l i + (if (ld l i).kind = 2 then (ld l i).watts else 0) := rfl
    have e2 : lampUp l (i + 1) = lampUp l i + (if (ld l i).kind = 3 then (ld l i).watts else 0) := rfl
    rw [e1, e2]
    split <;> split <;> omega
/-- The cell that holds the pairs. -/
def NrAt (g : AH) (c : Nat × Nat) (t0 : Nat) (L : List (Nat × Nat)) : Prop :=
  (L = [] ∧ g.at_ c = some ⟨1, [[.nils]]⟩) ∨ ∃ bs : Nat × Nat, t0 < bs.1 ∧ bs.1 < g.clk ∧ g.at_ c = some ⟨1, [[.slc bs 2 0 L.length]]⟩ ∧ g.at_ bs = some ⟨2, L.map nr⟩
theorem sne2 (a b c d : Nat) (h : ¬ b = d) : ¬ ((a, b) : Nat × Nat) = (c, d) := fun e => h (congrArg Prod.snd e)
theorem NrAt.tick {g : AH} {c : Nat × Nat} {t0 m : Nat} {L : List (Nat × Nat)} (h : NrAt g c t0 L) (hm : g.clk ≤ m) : NrAt (g.tick m) c t0 L := by
  rcases h with h | ⟨bs, h1, h2, h3, h4⟩
  · exact .inl h
  · exact .inr ⟨bs, h1, Nat.lt_of_lt_of_le h2 hm, h3, h4⟩
theorem NrAt.put {g : AH} {c x : Nat × Nat} {t0 : Nat} {L : List (Nat × Nat)} {k : Option Blk} (h : NrAt g c t0 L) (hx : ¬ c = x) (hb : ∀ bs : Nat × Nat, t0 < bs.1 → bs.1 < g.clk → ¬ bs = x) : NrAt (g.put x k) c t0 L := by
  rcases h with ⟨e, h⟩ | ⟨bs, h1, h2, h3, h4⟩
  · exact .inl ⟨e, (put_ne _ _ hx).trans h⟩
  · exact .inr ⟨bs, h1, h2, (put_ne _ _ hx).trans h3, (put_ne _ _ (hb bs h1 h2)).trans h4⟩
theorem nearRow_len (l : List Ld) (ap : Int) (i : Nat) : ∀ k, (nearRow l ap i k).length ≤ k
  | 0 => Nat.le_refl _
  | k + 1 => by
    have ih := nearRow_len l ap i k
    have e : nearRow l ap i (k + 1) = nearRow l ap i k ++ (if isNear l ap i k then [(i, k)] else []) := rfl
    rw [e, List.length_append]
    split <;> simp <;> omega
theorem nearUp_len {l : List Ld} {ap : Int} (hl : l.length ≤ 30) : ∀ i, (nearUp l ap i).length ≤ 30 * i
  | 0 => Nat.le_refl _
  | i + 1 => by
    have ih := nearUp_len (ap := ap) hl i
    have e : nearUp l ap (i + 1) = nearUp l ap i ++ (if (ld l i).kind = 2 then nearRow l ap i l.length else []) := rfl
    have r := nearRow_len l ap i l.length
    rw [e, List.length_append]
    split <;> simp <;> omega
theorem c66 (f : Fl) (ap : Int) : Pure Try.prog 66 [f.av, .int .i64 ap] (fun v => v = .tup [.lst 2 ((fireL f ap).map nr), .int .i64 (fireS f ap), .int .i64 (fireE f ap)]) := by
  refine Pure.give Try.call66 fun h hold => ?_
  have hne4 : ∀ b' : Nat × Nat, b'.1 < h.clk → ¬ b' = (h.clk, 4) := fun b' hb' e => by rw [e] at hb'; exact absurd hb' (Nat.lt_irrefl _)
  have hne5 : ∀ b' : Nat × Nat, b'.1 < h.clk → ¬ b' = (h.clk, 5) := fun b' hb' e => by rw [e] at hb'; exact absurd hb' (Nat.lt_irrefl _)
  refine ACalls.ofS tab Try.call66 Try.func66 rfl (fi := ⟨64, [11, 13], [2, 3, 20, 52], none, [(18, [0, 0, 1, 7, 15], [(0, true), (1, true), (2, false), (3, false), (4, false)])]⟩) rfl rfl (Nat.le_of_ble_eq_true rfl) ?_
  unfold startA
  simp only [go_sem]
  refine asem_seq (fi := ⟨64, [11, 13], [2, 3, 20, 52], none, [(18, [0, 0, 1, 7, 15], [(0, true), (1, true), (2, false), (3, false), (4, false)])]⟩) tab mixed (by decide) ?_
  repeat' (first
      | refine st_seq_reg rfl (by first | (simp only [go_sem]; rfl) | rfl) (by first | (simp only [go_sem]; rfl) | rfl) ?_
      | refine st_reg rfl (by first | (simp only [go_sem]; rfl) | rfl) (by first | (simp only [go_sem]; rfl) | rfl) ?_
      | refine st_seq_draw rfl (by first | (simp only [go_sem]; rfl) | rfl) (by first | (simp only [go_sem]; rfl) | rfl) ?_
      | refine st_draw rfl (by first | (simp only [go_sem]; rfl) | rfl) (by first | (simp only [go_sem]; rfl) | rfl) ?_
      | refine st_op ?_
      | refine st_det rfl (by simp (disch := omega) only [go_sem, wr_i64, if_yes, if_no, ↓reduceIte, Nat.reduceAdd, Nat.reduceMul, Nat.reduceEqDiff, Nat.reduceBEq, Nat.reduceLeDiff]; rfl) ?_
      | refine st_dop rfl ?_
      | refine st_loc rfl (by simp (disch := omega) only [go_sem, wr_i64, if_yes, if_no, ↓reduceIte, Nat.reduceAdd, Nat.reduceMul, Nat.reduceEqDiff, Nat.reduceBEq, Nat.reduceLeDiff]; rfl) ?_
      | refine st_heap rfl (by simp (disch := omega) only [go_sem, wr_i64, if_yes, if_no, ↓reduceIte, Nat.reduceAdd, Nat.reduceMul, Nat.reduceEqDiff, Nat.reduceBEq, Nat.reduceLeDiff]; rfl) ?_
      | refine st_store (by simp (disch := omega) only [go_sem, wr_i64, if_yes, if_no, ↓reduceIte, Nat.reduceAdd, Nat.reduceMul, Nat.reduceEqDiff, Nat.reduceBEq, Nat.reduceLeDiff]; rfl) ?_
      | refine st_append (by simp (disch := omega) only [go_sem, wr_i64, if_yes, if_no, ↓reduceIte, Nat.reduceAdd, Nat.reduceMul, Nat.reduceEqDiff, Nat.reduceBEq, Nat.reduceLeDiff]; rfl) ?_
      | refine st_gT rfl rfl rfl ?_
      | refine st_gF rfl rfl rfl ?_
      | refine st_dgT rfl rfl rfl rfl ?_
      | refine st_dgF rfl rfl rfl ?_
      | (refine st_gS rfl rfl ?_ ?_ <;> intro hg <;> (try simp only [decide_eq_true_eq, decide_eq_false_iff_not, Bool.not_eq_true', Bool.not_eq_false'] at hg))
      | (refine st_dgS rfl rfl ?_ ?_ <;> intro hg <;> (try simp only [decide_eq_true_eq, decide_eq_false_iff_not, Bool.not_eq_true', Bool.not_eq_false'] at hg))
      | refine st_condT rfl ?_
      | refine st_condF rfl ?_
      | (refine st_condS rfl ?_ ?_ <;> intro hg <;> (try simp only [decide_eq_true_eq, decide_eq_false_iff_not, Bool.not_eq_true', Bool.not_eq_false'] at hg))
      | refine st_nil ?_
      | refine st_dnil ?_
      | refine st_tN ?_
      | refine st_seq ?_
      | refine st_block ?_
      | refine st_skip ?_
      | refine st_exit ?_
      | refine st_ret ?_
      | refine st_tE ?_
      | refine st_tR ?_
      | refine st_bN ?_
      | refine st_bR ?_
      | refine st_bH ?_
      | refine st_bM rfl ?_)
  refine asem_seq (fi := ⟨64, [11, 13], [2, 3, 20, 52], none, [(18, [0, 0, 1, 7, 15], [(0, true), (1, true), (2, false), (3, false), (4, false)])]⟩) tab mixed (by decide) ?_
  repeat' (first
      | refine st_seq_reg rfl (by first | (simp only [go_sem]; rfl) | rfl) (by first | (simp only [go_sem]; rfl) | rfl) ?_
      | refine st_reg rfl (by first | (simp only [go_sem]; rfl) | rfl) (by first | (simp only [go_sem]; rfl) | rfl) ?_
      | refine st_seq_draw rfl (by first | (simp only [go_sem]; rfl) | rfl) (by first | (simp only [go_sem]; rfl) | rfl) ?_
      | refine st_draw rfl (by first | (simp only [go_sem]; rfl) | rfl) (by first | (simp only [go_sem]; rfl) | rfl) ?_
      | refine st_op ?_
      | refine st_det rfl (by simp (disch := omega) only [go_sem, wr_i64, if_yes, if_no, ↓reduceIte, Nat.reduceAdd, Nat.reduceMul, Nat.reduceEqDiff, Nat.reduceBEq, Nat.reduceLeDiff]; rfl) ?_
      | refine st_dop rfl ?_
      | refine st_loc rfl (by simp (disch := omega) only [go_sem, wr_i64, if_yes, if_no, ↓reduceIte, Nat.reduceAdd, Nat.reduceMul, Nat.reduceEqDiff, Nat.reduceBEq, Nat.reduceLeDiff]; rfl) ?_
      | refine st_heap rfl (by simp (disch := omega) only [go_sem, wr_i64, if_yes, if_no, ↓reduceIte, Nat.reduceAdd, Nat.reduceMul, Nat.reduceEqDiff, Nat.reduceBEq, Nat.reduceLeDiff]; rfl) ?_
      | refine st_store (by simp (disch := omega) only [go_sem, wr_i64, if_yes, if_no, ↓reduceIte, Nat.reduceAdd, Nat.reduceMul, Nat.reduceEqDiff, Nat.reduceBEq, Nat.reduceLeDiff]; rfl) ?_
      | refine st_append (by simp (disch := omega) only [go_sem, wr_i64, if_yes, if_no, ↓reduceIte, Nat.reduceAdd, Nat.reduceMul, Nat.reduceEqDiff, Nat.reduceBEq, Nat.reduceLeDiff]; rfl) ?_
      | (refine st_pureE (by first | (simp (disch := omega) only [go_sem]; rfl) | rfl) rfl (c51 f) (by first | (simp only [go_sem]; rfl) | rfl) (by intro n; simp (disch := omega) only [go_sem]; rfl) ?_; intro n hn)
      | refine st_gT rfl rfl rfl ?_
      | refine st_gF rfl rfl rfl ?_
      | refine st_dgT rfl rfl rfl rfl ?_
      | refine st_dgF rfl rfl rfl ?_
      | (refine st_gS rfl rfl ?_ ?_ <;> intro hg <;> (try simp only [decide_eq_true_eq, decide_eq_false_iff_not, Bool.not_eq_true', Bool.not_eq_false'] at hg))
      | (refine st_dgS rfl rfl ?_ ?_ <;> intro hg <;> (try simp only [decide_eq_true_eq, decide_eq_false_iff_not, Bool.not_eq_true', Bool.not_eq_false'] at hg))
      | refine st_condT rfl ?_
      | refine st_condF rfl ?_
      | (refine st_condS rfl ?_ ?_ <;> intro hg <;> (try simp only [decide_eq_true_eq, decide_eq_false_iff_not, Bool.not_eq_true', Bool.not_eq_false'] at hg))
      | refine st_nil ?_
      | refine st_dnil ?_
      | refine st_tN ?_
      | refine st_seq ?_
      | refine st_block ?_
      | refine st_skip ?_
      | refine st_exit ?_
      | refine st_ret ?_
      | refine st_tE ?_
      | refine st_tR ?_
      | refine st_bN ?_
      | refine st_bR ?_
      | refine st_bH ?_
      | refine st_bM rfl ?_)
  · simp (disch := omega) only [AEnd, Try.results66, aresK, fin, go_sem, ↓reduceIte, Nat.reduceEqDiff, Nat.reduceAdd, Nat.reduceLeDiff, if_yes, if_no, implies_true, true_and, and_true, List.reverse_cons, List.reverse_nil]
    refine ⟨fun b' hb' => ?_, .inl ⟨.tup [.lst 2 [], .int .i64 0, .int .i64 (chkE f)], VLe.tup (by simp only [VLes]; exact ⟨_, _, rfl, VLe.nils 2, _, _, rfl, VLe.refl _, _, _, rfl, VLe.refl _, rfl⟩), ?_⟩⟩
    · rw [if_neg (hne5 b' hb'), if_neg (hne4 b' hb')]
    · have e : fireE f ap = chkE f := if_pos hg
      unfold fireL fireS
      rw [e, if_neg hg, if_neg hg]; rfl
  refine asem_seq (fi := ⟨64, [11, 13], [2, 3, 20, 52], none, [(18, [0, 0, 1, 7, 15], [(0, true), (1, true), (2, false), (3, false), (4, false)])]⟩) tab mixed (by decide) ?_
  repeat' (first
      | refine st_seq_reg rfl (by first | (simp only [go_sem]; rfl) | rfl) (by first | (simp only [go_sem]; rfl) | rfl) ?_
      | refine st_reg rfl (by first | (simp only [go_sem]; rfl) | rfl) (by first | (simp only [go_sem]; rfl) | rfl) ?_
      | refine st_seq_draw rfl (by first | (simp only [go_sem]; rfl) | rfl) (by first | (simp only [go_sem]; rfl) | rfl) ?_
      | refine st_draw rfl (by first | (simp only [go_sem]; rfl) | rfl) (by first | (simp only [go_sem]; rfl) | rfl) ?_
      | refine st_op ?_
      | refine st_det rfl (by simp (disch := omega) only [go_sem, wr_i64, if_yes, if_no, ↓reduceIte, Nat.reduceAdd, Nat.reduceMul, Nat.reduceEqDiff, Nat.reduceBEq, Nat.reduceLeDiff]; rfl) ?_
      | refine st_dop rfl ?_
      | refine st_loc rfl (by simp (disch := omega) only [go_sem, wr_i64, if_yes, if_no, ↓reduceIte, Nat.reduceAdd, Nat.reduceMul, Nat.reduceEqDiff, Nat.reduceBEq, Nat.reduceLeDiff]; rfl) ?_
      | refine st_heap rfl (by simp (disch := omega) only [go_sem, wr_i64, if_yes, if_no, ↓reduceIte, Nat.reduceAdd, Nat.reduceMul, Nat.reduceEqDiff, Nat.reduceBEq, Nat.reduceLeDiff]; rfl) ?_
      | refine st_store (by simp (disch := omega) only [go_sem, wr_i64, if_yes, if_no, ↓reduceIte, Nat.reduceAdd, Nat.reduceMul, Nat.reduceEqDiff, Nat.reduceBEq, Nat.reduceLeDiff]; rfl) ?_
      | refine st_append (by simp (disch := omega) only [go_sem, wr_i64, if_yes, if_no, ↓reduceIte, Nat.reduceAdd, Nat.reduceMul, Nat.reduceEqDiff, Nat.reduceBEq, Nat.reduceLeDiff]; rfl) ?_
      | (refine st_pureE (by first | (simp (disch := omega) only [go_sem]; rfl) | rfl) rfl (c79a _ _ _) (by first | (simp only [go_sem]; rfl) | rfl) (by intro n; simp (disch := omega) only [go_sem]; rfl) ?_; intro n hn)
      | refine st_gT rfl rfl rfl ?_
      | refine st_gF rfl rfl rfl ?_
      | refine st_dgT rfl rfl rfl rfl ?_
      | refine st_dgF rfl rfl rfl ?_
      | (refine st_gS rfl rfl ?_ ?_ <;> intro hg <;> (try simp only [decide_eq_true_eq, decide_eq_false_iff_not, Bool.not_eq_true', Bool.not_eq_false'] at hg))
      | (refine st_dgS rfl rfl ?_ ?_ <;> intro hg <;> (try simp only [decide_eq_true_eq, decide_eq_false_iff_not, Bool.not_eq_true', Bool.not_eq_false'] at hg))
      | refine st_condT rfl ?_
      | refine st_condF rfl ?_
      | (refine st_condS rfl ?_ ?_ <;> intro hg <;> (try simp only [decide_eq_true_eq, decide_eq_false_iff_not, Bool.not_eq_true', Bool.not_eq_false'] at hg))
      | refine st_nil ?_
      | refine st_dnil ?_
      | refine st_tN ?_
      | refine st_seq ?_
      | refine st_block ?_
      | refine st_skip ?_
      | refine st_exit ?_
      | refine st_ret ?_
      | refine st_tE ?_
      | refine st_tR ?_
      | refine st_bN ?_
      | refine st_bR ?_
      | refine st_bH ?_
      | refine st_bM rfl ?_)
  · simp (disch := omega) only [AEnd, Try.results66, aresK, fin, go_sem, ↓reduceIte, Nat.reduceEqDiff, Nat.reduceAdd, Nat.reduceLeDiff, if_yes, if_no, implies_true, true_and, and_true, List.reverse_cons, List.reverse_nil]
    have e : fireE f ap = 2 := by unfold fireE; rw [if_neg (by omega), if_pos hg]
    refine ⟨fun b' hb' => ?_, .inl ⟨.tup [.lst 2 [], .int .i64 0, .int .i64 2], VLe.tup (by simp only [VLes]; exact ⟨_, _, rfl, VLe.nils 2, _, _, rfl, VLe.refl _, _, _, rfl, VLe.refl _, rfl⟩), ?_⟩⟩
    · rw [if_neg (hne5 b' hb'), if_neg (hne4 b' hb')]
    · unfold fireL fireS
      rw [e, if_neg (by decide), if_neg (by decide)]; rfl
  have h0 : chkE f = 0 := by omega
  have hE : fireE f ap = 0 := by unfold fireE; rw [if_neg (by omega), if_neg (by omega)]
  have hW := chkWatts h0
  have hf := chkOk h0
  have hl0 := hf.loads.1
  have hl : f.loads.length ≤ 1000 := by omega
  have pb := pow_bd hW
  refine asem_seq (fi := ⟨64, [11, 13], [2, 3, 20, 52], none, [(18, [0, 0, 1, 7, 15], [(0, true), (1, true), (2, false), (3, false), (4, false)])]⟩) tab mixed (by decide) ?_
  repeat' (first
      | refine st_seq_reg rfl (by first | (simp only [go_sem]; rfl) | rfl) (by first | (simp only [go_sem]; rfl) | rfl) ?_
      | refine st_reg rfl (by first | (simp only [go_sem]; rfl) | rfl) (by first | (simp only [go_sem]; rfl) | rfl) ?_
      | refine st_seq_draw rfl (by first | (simp only [go_sem]; rfl) | rfl) (by first | (simp only [go_sem]; rfl) | rfl) ?_
      | refine st_draw rfl (by first | (simp only [go_sem]; rfl) | rfl) (by first | (simp only [go_sem]; rfl) | rfl) ?_
      | refine st_op ?_
      | refine st_det rfl (by simp (disch := omega) only [go_sem, wr_i64, if_yes, if_no, ↓reduceIte, Nat.reduceAdd, Nat.reduceMul, Nat.reduceEqDiff, Nat.reduceBEq, Nat.reduceLeDiff]; rfl) ?_
      | refine st_dop rfl ?_
      | refine st_loc rfl (by simp (disch := omega) only [go_sem, wr_i64, if_yes, if_no, ↓reduceIte, Nat.reduceAdd, Nat.reduceMul, Nat.reduceEqDiff, Nat.reduceBEq, Nat.reduceLeDiff]; rfl) ?_
      | refine st_heap rfl (by simp (disch := omega) only [go_sem, wr_i64, if_yes, if_no, ↓reduceIte, Nat.reduceAdd, Nat.reduceMul, Nat.reduceEqDiff, Nat.reduceBEq, Nat.reduceLeDiff]; rfl) ?_
      | refine st_store (by simp (disch := omega) only [go_sem, wr_i64, if_yes, if_no, ↓reduceIte, Nat.reduceAdd, Nat.reduceMul, Nat.reduceEqDiff, Nat.reduceBEq, Nat.reduceLeDiff]; rfl) ?_
      | refine st_append (by simp (disch := omega) only [go_sem, wr_i64, if_yes, if_no, ↓reduceIte, Nat.reduceAdd, Nat.reduceMul, Nat.reduceEqDiff, Nat.reduceBEq, Nat.reduceLeDiff]; rfl) ?_
      | (refine st_pureE (by first | (simp (disch := omega) only [go_sem]; rfl) | rfl) rfl (c104 f _) (by first | (simp only [go_sem]; rfl) | rfl) (by intro n; simp (disch := omega) only [go_sem]; rfl) ?_; intro n hn)
      | refine st_gT rfl rfl rfl ?_
      | refine st_gF rfl rfl rfl ?_
      | refine st_dgT rfl rfl rfl rfl ?_
      | refine st_dgF rfl rfl rfl ?_
      | (refine st_gS rfl rfl ?_ ?_ <;> intro hg <;> (try simp only [decide_eq_true_eq, decide_eq_false_iff_not, Bool.not_eq_true', Bool.not_eq_false'] at hg))
      | (refine st_dgS rfl rfl ?_ ?_ <;> intro hg <;> (try simp only [decide_eq_true_eq, decide_eq_false_iff_not, Bool.not_eq_true', Bool.not_eq_false'] at hg))
      | refine st_condT rfl ?_
      | refine st_condF rfl ?_
      | (refine st_condS rfl ?_ ?_ <;> intro hg <;> (try simp only [decide_eq_true_eq, decide_eq_false_iff_not, Bool.not_eq_true', Bool.not_eq_false'] at hg))
      | refine st_nil ?_
      | refine st_dnil ?_
      | refine st_tN ?_
      | refine st_seq ?_
      | refine st_block ?_
      | refine st_skip ?_
      | refine st_exit ?_
      | refine st_ret ?_
      | refine st_tE ?_
      | refine st_tR ?_
      | refine st_bN ?_
      | refine st_bR ?_
      | refine st_bH ?_
      | refine st_bM rfl ?_)
  refine st_rangeFunc rfl (by simp only [go_sem]; rfl) (fun l D R hR hlp => ?_)
  simp only [go_sem] at hlp
  let I : Nat → AH → Prop := fun i g => g.lp l = some R ∧ h.clk + 1 ≤ g.clk ∧ (∀ b' : Bid, b'.1 < h.clk → g.at_ b' = h.at_ b') ∧ (∀ l', l' ≠ l → g.lp l' = h.lp l') ∧ g.at_ (h.clk, 5) = some ⟨1, [[.int .i64 (powUp f.loads i)]]⟩ ∧ NrAt g (h.clk, 4) h.clk (nearUp f.loads ap i)
  refine (c115 f 2 l hl I ?_ ?_ ?_ _ ?_).mono ?_
  · rintro i g m ⟨h1, h2, h3, h4, h5, h6⟩ hm
    refine ⟨h1, by simp only [go_sem]; omega, h3, h4, h5, h6.tick hm⟩
  · rintro i g hi hk ⟨h1, h2, h3, h4, h5, h6⟩
    have e1 : powUp f.loads (i + 1) = powUp f.loads i := by show powUp f.loads i + _ = _; rw [if_neg hk, Int.add_zero]
    have e2 : nearUp f.loads ap (i + 1) = nearUp f.loads ap i := by show nearUp f.loads ap i ++ _ = _; rw [if_neg hk, List.append_nil]
    exact ⟨h1, h2, h3, h4, by rw [e1]; exact h5, by rw [e2]; exact h6⟩
  · rintro i g hi hk ⟨h1, h2, h3, h4, h5, h6⟩
    refine AYields.canon tab mixed [] [2, 3, 52] [] hR h1 rfl (by intro p hp; simp at hp; rcases hp with rfl | rfl <;> decide) [(25, .int .i64 (i : Nat)), (26, .agg (ld f.loads i).row), (2, _), (3, .iptr [.int .i64 ap] 0), (4, .ptr (h.clk, 4) 0 0), (5, .ptr (h.clk, 5) 0 0)] ⟨rfl, rfl, rfl, rfl, rfl, rfl, trivial⟩ rfl rfl ?_
    simp only [go_sem]
    repeat' (first
        | refine st_seq_reg rfl (by first | (simp only [go_sem]; rfl) | rfl) (by first | (simp only [go_sem]; rfl) | rfl) ?_
        | refine st_reg rfl (by first | (simp only [go_sem]; rfl) | rfl) (by first | (simp only [go_sem]; rfl) | rfl) ?_
        | refine st_seq_draw rfl (by first | (simp only [go_sem]; rfl) | rfl) (by first | (simp only [go_sem]; rfl) | rfl) ?_
        | refine st_draw rfl (by first | (simp only [go_sem]; rfl) | rfl) (by first | (simp only [go_sem]; rfl) | rfl) ?_
        | refine st_op ?_
        | refine st_det rfl (by simp (disch := omega) only [go_sem, wr_i64, if_yes, if_no, ↓reduceIte, Nat.reduceAdd, Nat.reduceMul, Nat.reduceEqDiff, Nat.reduceBEq, Nat.reduceLeDiff]; rfl) ?_
        | refine st_dop rfl ?_
        | refine st_loc rfl (by simp (disch := omega) only [go_sem, wr_i64, if_yes, if_no, ↓reduceIte, Nat.reduceAdd, Nat.reduceMul, Nat.reduceEqDiff, Nat.reduceBEq, Nat.reduceLeDiff]; rfl) ?_
        | refine st_heap rfl (by simp (disch := omega) only [go_sem, wr_i64, if_yes, if_no, ↓reduceIte, Nat.reduceAdd, Nat.reduceMul, Nat.reduceEqDiff, Nat.reduceBEq, Nat.reduceLeDiff]; rfl) ?_
        | refine st_store (by simp (disch := omega) only [go_sem, wr_i64, if_yes, if_no, ↓reduceIte, Nat.reduceAdd, Nat.reduceMul, Nat.reduceEqDiff, Nat.reduceBEq, Nat.reduceLeDiff]; rfl) ?_
        | refine st_append (by simp (disch := omega) only [go_sem, wr_i64, if_yes, if_no, ↓reduceIte, Nat.reduceAdd, Nat.reduceMul, Nat.reduceEqDiff, Nat.reduceBEq, Nat.reduceLeDiff]; rfl) ?_
        | refine st_gT rfl rfl rfl ?_
        | refine st_gF rfl rfl rfl ?_
        | refine st_dgT rfl rfl rfl rfl ?_
        | refine st_dgF rfl rfl rfl ?_
        | (refine st_gS rfl rfl ?_ ?_ <;> intro hg <;> (try simp only [decide_eq_true_eq, decide_eq_false_iff_not, Bool.not_eq_true', Bool.not_eq_false'] at hg))
        | (refine st_dgS rfl rfl ?_ ?_ <;> intro hg <;> (try simp only [decide_eq_true_eq, decide_eq_false_iff_not, Bool.not_eq_true', Bool.not_eq_false'] at hg))
        | refine st_condT rfl ?_
        | refine st_condF rfl ?_
        | (refine st_condS rfl ?_ ?_ <;> intro hg <;> (try simp only [decide_eq_true_eq, decide_eq_false_iff_not, Bool.not_eq_true', Bool.not_eq_false'] at hg))
        | refine st_nil ?_
        | refine st_dnil ?_
        | refine st_tN ?_
        | refine st_seq ?_
        | refine st_block ?_
        | refine st_skip ?_
        | refine st_exit ?_
        | refine st_ret ?_
        | refine st_tE ?_
        | refine st_tR ?_
        | refine st_bN ?_
        | refine st_bR ?_
        | refine st_bH ?_
        | refine st_bM rfl ?_)
    have q1 := pb i (by omega)
    have hw := hW _ (ld_mem hi)
    have hx := hf.loads.2 _ (ld_mem hi)
    unfold LdOk at hx
    refine ⟨by simp only [go_sem]; exact h1, ?_⟩
    dsimp only
    have sne : ∀ (a b c d : Nat), ¬ b = d → ¬ ((a, b) : Nat × Nat) = (c, d) := fun a b c d h e => h (congrArg Prod.snd e)
    have hn58 : ¬ (h.clk, 5) = (g.clk, 8) := sne _ _ _ _ (by decide)
    have hn59 : ¬ (h.clk, 5) = (g.clk + 1, 9) := sne _ _ _ _ (by decide)
    have hn95 : ¬ (g.clk + 1, 9) = (h.clk, 5) := sne _ _ _ _ (by decide)
    have hn89 : ¬ (g.clk, 8) = (g.clk + 1, 9) := sne _ _ _ _ (by decide)
    have hn85 : ¬ (g.clk, 8) = (h.clk, 5) := sne _ _ _ _ (by decide)
    repeat' (first
        | refine st_seq_reg rfl (by first | (simp only [go_sem, h5, hn58, hn59, hn95]; rfl) | rfl) (by first | (simp only [go_sem, h5, hn58, hn59, hn95]; rfl) | rfl) ?_
        | refine st_reg rfl (by first | (simp only [go_sem, h5, hn58, hn59, hn95]; rfl) | rfl) (by first | (simp only [go_sem, h5, hn58, hn59, hn95]; rfl) | rfl) ?_
        | refine st_seq_draw rfl (by first | (simp only [go_sem, h5, hn58, hn59, hn95]; rfl) | rfl) (by first | (simp only [go_sem, h5, hn58, hn59, hn95]; rfl) | rfl) ?_
        | refine st_draw rfl (by first | (simp only [go_sem, h5, hn58, hn59, hn95]; rfl) | rfl) (by first | (simp only [go_sem, h5, hn58, hn59, hn95]; rfl) | rfl) ?_
        | refine st_op ?_
        | refine st_det rfl (by simp (disch := omega) only [go_sem, wr_i64, if_yes, if_no, ↓reduceIte, Nat.reduceAdd, Nat.reduceMul, Nat.reduceEqDiff, Nat.reduceBEq, Nat.reduceLeDiff, h5, hn58, hn59, hn95]; rfl) ?_
        | refine st_dop rfl ?_
        | refine st_loc rfl (by simp (disch := omega) only [go_sem, wr_i64, if_yes, if_no, ↓reduceIte, Nat.reduceAdd, Nat.reduceMul, Nat.reduceEqDiff, Nat.reduceBEq, Nat.reduceLeDiff, h5, hn58, hn59, hn95]; rfl) ?_
        | refine st_heap rfl (by simp (disch := omega) only [go_sem, wr_i64, if_yes, if_no, ↓reduceIte, Nat.reduceAdd, Nat.reduceMul, Nat.reduceEqDiff, Nat.reduceBEq, Nat.reduceLeDiff, h5, hn58, hn59, hn95]; rfl) ?_
        | refine st_store (by simp (disch := omega) only [go_sem, wr_i64, if_yes, if_no, ↓reduceIte, Nat.reduceAdd, Nat.reduceMul, Nat.reduceEqDiff, Nat.reduceBEq, Nat.reduceLeDiff, h5, hn58, hn59, hn95]; rfl) ?_
        | refine st_append (by simp (disch := omega) only [go_sem, wr_i64, if_yes, if_no, ↓reduceIte, Nat.reduceAdd, Nat.reduceMul, Nat.reduceEqDiff, Nat.reduceBEq, Nat.reduceLeDiff, h5, hn58, hn59, hn95]; rfl) ?_
        | (refine st_pureE (by first | (simp (disch := omega) only [go_sem, h5, hn58, hn59, hn95]; rfl) | rfl) rfl (c104 f 4) (by first | (simp only [go_sem, h5, hn58, hn59, hn95]; rfl) | rfl) (by intro n; simp (disch := omega) only [go_sem]; rfl) ?_; intro n hn)
        | refine st_gT rfl rfl rfl ?_
        | refine st_gF rfl rfl rfl ?_
        | refine st_dgT rfl rfl rfl rfl ?_
        | refine st_dgF rfl rfl rfl ?_
        | (refine st_gS rfl rfl ?_ ?_ <;> intro hg <;> (try simp only [decide_eq_true_eq, decide_eq_false_iff_not, Bool.not_eq_true', Bool.not_eq_false'] at hg))
        | (refine st_dgS rfl rfl ?_ ?_ <;> intro hg <;> (try simp only [decide_eq_true_eq, decide_eq_false_iff_not, Bool.not_eq_true', Bool.not_eq_false'] at hg))
        | refine st_condT rfl ?_
        | refine st_condF rfl ?_
        | (refine st_condS rfl ?_ ?_ <;> intro hg <;> (try simp only [decide_eq_true_eq, decide_eq_false_iff_not, Bool.not_eq_true', Bool.not_eq_false'] at hg))
        | refine st_nil ?_
        | refine st_dnil ?_
        | refine st_tN ?_
        | refine st_seq ?_
        | refine st_block ?_
        | refine st_skip ?_
        | refine st_exit ?_
        | refine st_ret ?_
        | refine st_tE ?_
        | refine st_tR ?_
        | refine st_bN ?_
        | refine st_bR ?_
        | refine st_bH ?_
        | refine st_bM rfl ?_)
    have ep : powUp f.loads i + (ld f.loads i).watts = powUp f.loads (i + 1) := by show _ = powUp f.loads i + _; rw [if_pos hk]
    rw [ep]
    generalize hG : (((((g.tick (g.clk + 1 + 1)).put (g.clk, 8) (some ⟨1, [[.int .i64 (i : Nat)]]⟩)).put (g.clk + 1, 9) (some ⟨7, [[.int .i64 (ld f.loads i).at_, .int .i64 (ld f.loads i).lo, .int .i64 (ld f.loads i).hi, .int .i64 (ld f.loads i).tlo, .int .i64 (ld f.loads i).thi, .int .i64 (ld f.loads i).kind, .int .i64 (ld f.loads i).watts]]⟩)).lpSet l (some R.busy)).tick n).put (h.clk, 5) (some ⟨1, [[.int .i64 (powUp f.loads (i + 1))]]⟩) = G
    have gl : G.lp l = some R.busy := by rw [← hG]; exact lpSet_same _ _ _
    have gl' : ∀ l', l' ≠ l → G.lp l' = h.lp l' := fun l' hl' => by rw [← hG]; exact (lpSet_ne _ _ hl').trans (h4 l' hl')
    have gk : g.clk + 2 ≤ G.clk := by rw [← hG]; show g.clk + 2 ≤ n; omega
    have gold : ∀ b' : Bid, b'.1 < h.clk → G.at_ b' = h.at_ b' := fun b' hb' => by
      have k8 : ¬ b' = (g.clk, 8) := fun e => by rw [e] at hb'; exact absurd hb' (by show ¬ g.clk < h.clk; omega)
      have k9 : ¬ b' = (g.clk + 1, 9) := fun e => by rw [e] at hb'; exact absurd hb' (by show ¬ g.clk + 1 < h.clk; omega)
      rw [← hG]
      simp only [go_sem, if_neg k8, if_neg k9, if_neg (hne5 b' hb')]
      exact h3 b' hb'
    have g8 : G.at_ (g.clk, 8) = some ⟨1, [[.int .i64 (i : Nat)]]⟩ := by rw [← hG]; simp only [go_sem, ↓reduceIte, Nat.reduceEqDiff, and_false]
    have g9 : G.at_ (g.clk + 1, 9) = some ⟨7, [[.int .i64 (ld f.loads i).at_, .int .i64 (ld f.loads i).lo, .int .i64 (ld f.loads i).hi, .int .i64 (ld f.loads i).tlo, .int .i64 (ld f.loads i).thi, .int .i64 (ld f.loads i).kind, .int .i64 (ld f.loads i).watts]]⟩ := by rw [← hG]; simp only [go_sem, ↓reduceIte, Nat.reduceEqDiff, and_false]
    have g5 : G.at_ (h.clk, 5) = some ⟨1, [[.int .i64 (powUp f.loads (i + 1))]]⟩ := by rw [← hG]; simp only [go_sem, ↓reduceIte]
    have g4 : NrAt G (h.clk, 4) h.clk (nearUp f.loads ap i) := by
      rw [← hG]
      have k := ((h6.put (x := (g.clk, 8)) (k := some ⟨1, [[.int .i64 (i : Nat)]]⟩) (sne _ _ _ _ (by decide)) (fun bs _ hb e => by rw [e] at hb; exact absurd hb (Nat.lt_irrefl _))).put (x := (g.clk + 1, 9)) (k := some ⟨7, [[.int .i64 (ld f.loads i).at_, .int .i64 (ld f.loads i).lo, .int .i64 (ld f.loads i).hi, .int .i64 (ld f.loads i).tlo, .int .i64 (ld f.loads i).thi, .int .i64 (ld f.loads i).kind, .int .i64 (ld f.loads i).watts]]⟩) (sne _ _ _ _ (by decide)) (fun bs _ hb e => by rw [e] at hb; exact absurd hb (by show ¬ g.clk + 1 < g.clk; omega))).put (x := (h.clk, 5)) (k := some ⟨1, [[.int .i64 (powUp f.loads (i + 1))]]⟩) (sne _ _ _ _ (by decide)) (fun bs hb _ e => by rw [e] at hb; exact absurd hb (Nat.lt_irrefl _))
      exact k.tick (m := n) (by show g.clk ≤ n; omega)
    clear hG
    refine st_rangeFuncIn (Rq := R.busy) rfl gl (by simp only [go_sem]; rfl) (fun l2 R2 hR2 hlp2 => ?_)
    have hll : ¬ l2 = l := fun e => by rw [e, gl] at hlp2; cases hlp2
    let J : Nat → AH → Prop := fun k G' => G'.lp l2 = some R2 ∧ G'.lp l = some R.busy ∧ g.clk + 2 ≤ G'.clk ∧ (∀ b' : Bid, b'.1 < h.clk → G'.at_ b' = h.at_ b') ∧ (∀ l', l' ≠ l → l' ≠ l2 → G'.lp l' = h.lp l') ∧
      G'.at_ (g.clk, 8) = some ⟨1, [[.int .i64 (i : Nat)]]⟩ ∧ G'.at_ (g.clk + 1, 9) = some ⟨7, [[.int .i64 (ld f.loads i).at_, .int .i64 (ld f.loads i).lo, .int .i64 (ld f.loads i).hi, .int .i64 (ld f.loads i).tlo, .int .i64 (ld f.loads i).thi, .int .i64 (ld f.loads i).kind, .int .i64 (ld f.loads i).watts]]⟩ ∧
      G'.at_ (h.clk, 5) = some ⟨1, [[.int .i64 (powUp f.loads (i + 1))]]⟩ ∧ NrAt G' (h.clk, 4) h.clk (nearUp f.loads ap i ++ nearRow f.loads ap i k)
    refine (c115 f 4 l2 hl J ?_ ?_ ?_ _ ?_).mono ?_
    · rintro k G' m ⟨j1, j2, j3, j4, j5, j6, j7, j8, j9⟩ hm
      exact ⟨j1, j2, by show g.clk + 2 ≤ m; omega, j4, j5, j6, j7, j8, j9.tick hm⟩
    · rintro k G' hk1 hk2 ⟨j1, j2, j3, j4, j5, j6, j7, j8, j9⟩
      have e2 : nearRow f.loads ap i (k + 1) = nearRow f.loads ap i k := by show nearRow f.loads ap i k ++ _ = _; rw [if_neg (fun e => hk2 e.1), List.append_nil]
      exact ⟨j1, j2, j3, j4, j5, j6, j7, j8, by rw [e2]; exact j9⟩
    · rintro k G' hk1 hk2 ⟨j1, j2, j3, j4, j5, j6, j7, j8, j9⟩
      have hy := hf.loads.2 _ (ld_mem hk1)
      unfold LdOk at hy
      refine AYields.canon tab mixed [11] [2, 3, 52] [] hR2 j1 rfl (by intro p hp; simp at hp; rcases hp with rfl | rfl <;> (show _ < 64; decide)) [(33, .int .i64 (k : Nat)), (34, .agg (ld f.loads k).row), (3, .iptr [.int .i64 ap] 0), (4, .ptr (h.clk, 4) 0 0), (8, .ptr (g.clk, 8) 0 0), (9, .ptr (g.clk + 1, 9) 0 0)] ⟨rfl, rfl, rfl, rfl, rfl, rfl, trivial⟩ rfl rfl ?_
      simp only [go_sem]
      repeat' (first
          | refine st_seq_reg rfl (by first | (simp only [go_sem]; rfl) | rfl) (by first | (simp only [go_sem]; rfl) | rfl) ?_
          | refine st_reg rfl (by first | (simp only [go_sem]; rfl) | rfl) (by first | (simp only [go_sem]; rfl) | rfl) ?_
          | refine st_seq_draw rfl (by first | (simp only [go_sem]; rfl) | rfl) (by first | (simp only [go_sem]; rfl) | rfl) ?_
          | refine st_draw rfl (by first | (simp only [go_sem]; rfl) | rfl) (by first | (simp only [go_sem]; rfl) | rfl) ?_
          | refine st_op ?_
          | refine st_det rfl (by simp (disch := omega) only [go_sem, wr_i64, if_yes, if_no, ↓reduceIte, Nat.reduceAdd, Nat.reduceMul, Nat.reduceEqDiff, Nat.reduceBEq, Nat.reduceLeDiff]; rfl) ?_
          | refine st_dop rfl ?_
          | refine st_loc rfl (by simp (disch := omega) only [go_sem, wr_i64, if_yes, if_no, ↓reduceIte, Nat.reduceAdd, Nat.reduceMul, Nat.reduceEqDiff, Nat.reduceBEq, Nat.reduceLeDiff]; rfl) ?_
          | refine st_heap rfl (by simp (disch := omega) only [go_sem, wr_i64, if_yes, if_no, ↓reduceIte, Nat.reduceAdd, Nat.reduceMul, Nat.reduceEqDiff, Nat.reduceBEq, Nat.reduceLeDiff]; rfl) ?_
          | refine st_store (by simp (disch := omega) only [go_sem, wr_i64, if_yes, if_no, ↓reduceIte, Nat.reduceAdd, Nat.reduceMul, Nat.reduceEqDiff, Nat.reduceBEq, Nat.reduceLeDiff]; rfl) ?_
          | refine st_append (by simp (disch := omega) only [go_sem, wr_i64, if_yes, if_no, ↓reduceIte, Nat.reduceAdd, Nat.reduceMul, Nat.reduceEqDiff, Nat.reduceBEq, Nat.reduceLeDiff]; rfl) ?_
          | refine st_gT rfl rfl rfl ?_
          | refine st_gF rfl rfl rfl ?_
          | refine st_dgT rfl rfl rfl rfl ?_
          | refine st_dgF rfl rfl rfl ?_
          | (refine st_gS rfl rfl ?_ ?_ <;> intro hg <;> (try simp only [decide_eq_true_eq, decide_eq_false_iff_not, Bool.not_eq_true', Bool.not_eq_false'] at hg))
          | (refine st_dgS rfl rfl ?_ ?_ <;> intro hg <;> (try simp only [decide_eq_true_eq, decide_eq_false_iff_not, Bool.not_eq_true', Bool.not_eq_false'] at hg))
          | refine st_condT rfl ?_
          | refine st_condF rfl ?_
          | (refine st_condS rfl ?_ ?_ <;> intro hg <;> (try simp only [decide_eq_true_eq, decide_eq_false_iff_not, Bool.not_eq_true', Bool.not_eq_false'] at hg))
          | refine st_nil ?_
          | refine st_dnil ?_
          | refine st_tN ?_
          | refine st_seq ?_
          | refine st_block ?_
          | refine st_skip ?_
          | refine st_exit ?_
          | refine st_ret ?_
          | refine st_tE ?_
          | refine st_tR ?_
          | refine st_bN ?_
          | refine st_bR ?_
          | refine st_bH ?_
          | refine st_bM rfl ?_)
      refine ⟨by simp only [go_sem]; exact j1, ?_⟩
      dsimp only
      have hL : (nearUp f.loads ap i ++ nearRow f.loads ap i k).length ≤ 1000 := by
        have a1 := nearUp_len (ap := ap) hl0 i
        have a2 := nearRow_len f.loads ap i k
        rw [List.length_append]; omega
      have hll2 : ¬ l = l2 := fun e => hll e.symm
      have hf1 : ¬ max ((ld f.loads i).at_ - (ld f.loads k).at_) ((ld f.loads k).at_ - (ld f.loads i).at_) < ap → nearUp f.loads ap i ++ nearRow f.loads ap i (k + 1) = nearUp f.loads ap i ++ nearRow f.loads ap i k := fun hg => by
        show _ ++ (nearRow f.loads ap i k ++ _) = _; rw [if_neg (fun e : isNear f.loads ap i k => hg e.2), List.append_nil]
      have hf2 : max ((ld f.loads i).at_ - (ld f.loads k).at_) ((ld f.loads k).at_ - (ld f.loads i).at_) < ap → nearUp f.loads ap i ++ nearRow f.loads ap i (k + 1) = (nearUp f.loads ap i ++ nearRow f.loads ap i k) ++ [(i, k)] := fun hg => by
        show _ ++ (nearRow f.loads ap i k ++ _) = _; rw [if_pos (show isNear f.loads ap i k from ⟨hk2, hg⟩), List.append_assoc]
      generalize nearUp f.loads ap i ++ nearRow f.loads ap i k = L at *
      have hid : ∀ b' : Nat × Nat, b'.1 < h.clk → ¬ b' = (G'.clk + 1 + 1 + 1, 53) := fun b' hb' e => by rw [e] at hb'; exact absurd hb' (by show ¬ G'.clk + 1 + 1 + 1 < h.clk; omega)
      rcases j9 with ⟨e0, j9⟩ | ⟨bs, k1, k2, k3, k4⟩
      · repeat' (first
            | refine st_seq_reg rfl (by first | (simp only [go_sem, j6, j7, j9, big]; rfl) | rfl) (by first | (simp only [go_sem, j6, j7, j9, big]; rfl) | rfl) ?_
            | refine st_reg rfl (by first | (simp only [go_sem, j6, j7, j9, big]; rfl) | rfl) (by first | (simp only [go_sem, j6, j7, j9, big]; rfl) | rfl) ?_
            | refine st_seq_draw rfl (by first | (simp only [go_sem, j6, j7, j9, big]; rfl) | rfl) (by first | (simp only [go_sem, j6, j7, j9, big]; rfl) | rfl) ?_
            | refine st_draw rfl (by first | (simp only [go_sem, j6, j7, j9, big]; rfl) | rfl) (by first | (simp only [go_sem, j6, j7, j9, big]; rfl) | rfl) ?_
            | refine st_op ?_
            | refine st_det rfl (by simp (disch := omega) only [go_sem, wr_i64, if_yes, if_no, ↓reduceIte, Nat.reduceAdd, Nat.reduceMul, Nat.reduceEqDiff, Nat.reduceBEq, Nat.reduceLeDiff, j6, j7, j9, big]; rfl) ?_
            | refine st_dop rfl ?_
            | refine st_loc rfl (by simp (disch := omega) only [go_sem, wr_i64, if_yes, if_no, ↓reduceIte, Nat.reduceAdd, Nat.reduceMul, Nat.reduceEqDiff, Nat.reduceBEq, Nat.reduceLeDiff, j6, j7, j9, big]; rfl) ?_
            | refine st_heap rfl (by simp (disch := omega) only [go_sem, wr_i64, if_yes, if_no, ↓reduceIte, Nat.reduceAdd, Nat.reduceMul, Nat.reduceEqDiff, Nat.reduceBEq, Nat.reduceLeDiff, j6, j7, j9, big]; rfl) ?_
            | refine st_store (by simp (disch := omega) only [go_sem, wr_i64, if_yes, if_no, ↓reduceIte, Nat.reduceAdd, Nat.reduceMul, Nat.reduceEqDiff, Nat.reduceBEq, Nat.reduceLeDiff, j6, j7, j9, big]; rfl) ?_
            | refine st_append (by simp (disch := omega) only [go_sem, wr_i64, if_yes, if_no, ↓reduceIte, Nat.reduceAdd, Nat.reduceMul, Nat.reduceEqDiff, Nat.reduceBEq, Nat.reduceLeDiff, j6, j7, j9, big]; rfl) ?_
            | refine st_gT rfl rfl rfl ?_
            | refine st_gF rfl rfl rfl ?_
            | refine st_dgT rfl rfl rfl rfl ?_
            | refine st_dgF rfl rfl rfl ?_
            | (refine st_gS rfl rfl ?_ ?_ <;> intro hg <;> (try simp only [decide_eq_true_eq, decide_eq_false_iff_not, Bool.not_eq_true', Bool.not_eq_false'] at hg))
            | (refine st_dgS rfl rfl ?_ ?_ <;> intro hg <;> (try simp only [decide_eq_true_eq, decide_eq_false_iff_not, Bool.not_eq_true', Bool.not_eq_false'] at hg))
            | refine st_condT rfl ?_
            | refine st_condF rfl ?_
            | (refine st_condS rfl ?_ ?_ <;> intro hg <;> (try simp only [decide_eq_true_eq, decide_eq_false_iff_not, Bool.not_eq_true', Bool.not_eq_false'] at hg))
            | refine st_nil ?_
            | refine st_dnil ?_
            | refine st_tN ?_
            | refine st_seq ?_
            | refine st_block ?_
            | refine st_skip ?_
            | refine st_exit ?_
            | refine st_ret ?_
            | refine st_tE ?_
            | refine st_tR ?_
            | refine st_bN ?_
            | refine st_bR ?_
            | refine st_bH ?_
            | refine st_bM rfl ?_)
        · refine ⟨by simp only [go_sem], rfl, lpSet_same _ _ _, ?_, ?_, fun b' hb' => ?_, fun l' h1' h2' => ?_, ?_, ?_, ?_, ?_⟩
          · rw [lpSet_ne _ _ hll2]; simp only [go_sem]; rw [lpSet_ne _ _ hll2]; exact j2
          · simp only [go_sem]; omega
          · simp only [go_sem, if_neg (hne4 b' hb'), if_neg (hid b' hb')]; exact j4 b' hb'
          · rw [lpSet_ne _ _ h2']; simp only [go_sem]; rw [lpSet_ne _ _ h2']; exact j5 l' h1' h2'
          · simp only [go_sem, ↓reduceIte, Nat.reduceEqDiff, and_false]; exact j6
          · simp only [go_sem, ↓reduceIte, Nat.reduceEqDiff, and_false]; exact j7
          · simp only [go_sem, ↓reduceIte, Nat.reduceEqDiff, and_false]; exact j8
          · rw [hf2 hg, e0]
            refine .inr ⟨(G'.clk + 1 + 1 + 1, 53), by show h.clk < G'.clk + 1 + 1 + 1; omega, by simp only [go_sem]; omega, ?_, ?_⟩
            · simp only [go_sem, ↓reduceIte] <;> rfl
            · (simp only [go_sem, ↓reduceIte, Nat.reduceEqDiff, and_false] <;> rfl)
        · refine ⟨by simp only [go_sem], rfl, lpSet_same _ _ _, ?_, ?_, fun b' hb' => j4 b' hb', fun l' h1' h2' => ?_, j6, j7, j8, ?_⟩
          · rw [lpSet_ne _ _ hll2]; simp only [go_sem]; rw [lpSet_ne _ _ hll2]; exact j2
          · simp only [go_sem]; omega
          · rw [lpSet_ne _ _ h2']; simp only [go_sem]; rw [lpSet_ne _ _ h2']; exact j5 l' h1' h2'
          · rw [hf1 hg]; exact .inl ⟨e0, j9⟩
      · have hnb : ¬ ((h.clk, 4) : Nat × Nat) = bs := fun e => by rw [← e] at k1; exact absurd k1 (Nat.lt_irrefl _)
        have hnb' : ¬ bs = ((h.clk, 4) : Nat × Nat) := fun e => hnb e.symm
        have hob : ∀ b' : Nat × Nat, b'.1 < h.clk → ¬ b' = bs := fun b' hb' e => by rw [e] at hb'; omega
        repeat' (first
            | refine st_seq_reg rfl (by first | (simp only [go_sem, j6, j7, k3, k4, big, hnb, hnb', List.length_map]; rfl) | rfl) (by first | (simp only [go_sem, j6, j7, k3, k4, big, hnb, hnb', List.length_map]; rfl) | rfl) ?_
            | refine st_reg rfl (by first | (simp only [go_sem, j6, j7, k3, k4, big, hnb, hnb', List.length_map]; rfl) | rfl) (by first | (simp only [go_sem, j6, j7, k3, k4, big, hnb, hnb', List.length_map]; rfl) | rfl) ?_
            | refine st_seq_draw rfl (by first | (simp only [go_sem, j6, j7, k3, k4, big, hnb, hnb', List.length_map]; rfl) | rfl) (by first | (simp only [go_sem, j6, j7, k3, k4, big, hnb, hnb', List.length_map]; rfl) | rfl) ?_
            | refine st_draw rfl (by first | (simp only [go_sem, j6, j7, k3, k4, big, hnb, hnb', List.length_map]; rfl) | rfl) (by first | (simp only [go_sem, j6, j7, k3, k4, big, hnb, hnb', List.length_map]; rfl) | rfl) ?_
            | refine st_op ?_
            | refine st_det rfl (by simp (disch := omega) only [go_sem, wr_i64, if_yes, if_no, ↓reduceIte, Nat.reduceAdd, Nat.reduceMul, Nat.reduceEqDiff, Nat.reduceBEq, Nat.reduceLeDiff, j6, j7, k3, k4, big, hnb, hnb', List.length_map]; rfl) ?_
            | refine st_dop rfl ?_
            | refine st_loc rfl (by simp (disch := omega) only [go_sem, wr_i64, if_yes, if_no, ↓reduceIte, Nat.reduceAdd, Nat.reduceMul, Nat.reduceEqDiff, Nat.reduceBEq, Nat.reduceLeDiff, j6, j7, k3, k4, big, hnb, hnb', List.length_map]; rfl) ?_
            | refine st_heap rfl (by simp (disch := omega) only [go_sem, wr_i64, if_yes, if_no, ↓reduceIte, Nat.reduceAdd, Nat.reduceMul, Nat.reduceEqDiff, Nat.reduceBEq, Nat.reduceLeDiff, j6, j7, k3, k4, big, hnb, hnb', List.length_map]; rfl) ?_
            | refine st_store (by simp (disch := omega) only [go_sem, wr_i64, if_yes, if_no, ↓reduceIte, Nat.reduceAdd, Nat.reduceMul, Nat.reduceEqDiff, Nat.reduceBEq, Nat.reduceLeDiff, j6, j7, k3, k4, big, hnb, hnb', List.length_map]; rfl) ?_
            | refine st_append (by simp (disch := omega) only [go_sem, wr_i64, if_yes, if_no, ↓reduceIte, Nat.reduceAdd, Nat.reduceMul, Nat.reduceEqDiff, Nat.reduceBEq, Nat.reduceLeDiff, j6, j7, k3, k4, big, hnb, hnb', List.length_map]; rfl) ?_
            | refine st_gT rfl rfl rfl ?_
            | refine st_gF rfl rfl rfl ?_
            | refine st_dgT rfl rfl rfl rfl ?_
            | refine st_dgF rfl rfl rfl ?_
            | (refine st_gS rfl rfl ?_ ?_ <;> intro hg <;> (try simp only [decide_eq_true_eq, decide_eq_false_iff_not, Bool.not_eq_true', Bool.not_eq_false'] at hg))
            | (refine st_dgS rfl rfl ?_ ?_ <;> intro hg <;> (try simp only [decide_eq_true_eq, decide_eq_false_iff_not, Bool.not_eq_true', Bool.not_eq_false'] at hg))
            | refine st_condT rfl ?_
            | refine st_condF rfl ?_
            | (refine st_condS rfl ?_ ?_ <;> intro hg <;> (try simp only [decide_eq_true_eq, decide_eq_false_iff_not, Bool.not_eq_true', Bool.not_eq_false'] at hg))
            | refine st_nil ?_
            | refine st_dnil ?_
            | refine st_tN ?_
            | refine st_seq ?_
            | refine st_block ?_
            | refine st_skip ?_
            | refine st_exit ?_
            | refine st_ret ?_
            | refine st_tE ?_
            | refine st_tR ?_
            | refine st_bN ?_
            | refine st_bR ?_
            | refine st_bH ?_
            | refine st_bM rfl ?_)
        · have hb8 : ¬ ((g.clk, 8) : Nat × Nat) = bs := fun e => by rw [← e, j6] at k4; cases k4
          have hb9 : ¬ ((g.clk + 1, 9) : Nat × Nat) = bs := fun e => by rw [← e, j7] at k4; cases k4
          have hb5 : ¬ ((h.clk, 5) : Nat × Nat) = bs := fun e => by rw [← e, j8] at k4; cases k4
          refine ⟨by simp only [go_sem], rfl, lpSet_same _ _ _, ?_, ?_, fun b' hb' => ?_, fun l' h1' h2' => ?_, ?_, ?_, ?_, ?_⟩
          · rw [lpSet_ne _ _ hll2]; simp only [go_sem]; rw [lpSet_ne _ _ hll2]; exact j2
          · simp only [go_sem]; omega
          · simp only [go_sem, if_neg (hne4 b' hb'), if_neg (hid b' hb'), if_neg (hob b' hb')]; exact j4 b' hb'
          · rw [lpSet_ne _ _ h2']; simp only [go_sem]; rw [lpSet_ne _ _ h2']; exact j5 l' h1' h2'
          · simp only [go_sem, ↓reduceIte, Nat.reduceEqDiff, and_false, if_neg hb8]; exact j6
          · simp only [go_sem, ↓reduceIte, Nat.reduceEqDiff, and_false, if_neg hb9]; exact j7
          · simp only [go_sem, ↓reduceIte, Nat.reduceEqDiff, and_false, if_neg hb5]; exact j8
          · rw [hf2 hg]
            refine .inr ⟨(G'.clk + 1 + 1 + 1, 53), by show h.clk < G'.clk + 1 + 1 + 1; omega, by simp only [go_sem]; omega, ?_, ?_⟩
            · simp only [go_sem, ↓reduceIte, List.length_append, len_one]
            · have et : List.take L.length (L.map nr) ++ [[.int .i64 (i : Nat), .int .i64 (k : Nat)]] = (L ++ [(i, k)]).map nr := by
                rw [List.take_of_length_le (by simp), List.map_append]; rfl
              rw [← et]
              (simp only [go_sem, ↓reduceIte, Nat.reduceEqDiff, and_false] <;> rfl)
        · refine ⟨by simp only [go_sem], rfl, lpSet_same _ _ _, ?_, ?_, fun b' hb' => j4 b' hb', fun l' h1' h2' => ?_, j6, j7, j8, ?_⟩
          · rw [lpSet_ne _ _ hll2]; simp only [go_sem]; rw [lpSet_ne _ _ hll2]; exact j2
          · simp only [go_sem]; omega
          · rw [lpSet_ne _ _ h2']; simp only [go_sem]; rw [lpSet_ne _ _ h2']; exact j5 l' h1' h2'
          · rw [hf1 hg]; exact .inr ⟨bs, k1, by simp only [go_sem]; omega, k3, k4⟩
    · exact ⟨lpSet_same _ _ _, (lpSet_ne _ _ (fun e => hll e.symm)).trans gl, gk, gold, fun l' h1' h2' => (lpSet_ne _ _ h2').trans (gl' l' h1'), g8, g9, g5, by rw [show nearRow f.loads ap i 0 = [] from rfl, List.append_nil]; exact g4⟩
    · rintro v h' ⟨j1, j2, j3, j4, j5, j6, j7, j8, j9⟩
      refine .inl ⟨j1, st_bN (st_bN ?_)⟩
      have hlp3 : h.lp l2 = none := by rw [← gl' l2 hll]; exact hlp2
      have e2 : nearUp f.loads ap (i + 1) = nearUp f.loads ap i ++ nearRow f.loads ap i f.loads.length := by show nearUp f.loads ap i ++ _ = _; rw [if_pos hk]
      refine ⟨(lpSet_ne _ _ (fun e => hll e.symm)).trans j2, rfl, lpSet_same _ _ _, by simp only [go_sem]; omega, fun b' hb' => j4 b' hb', fun l' hl' => ?_, j8, by rw [e2]; exact j9⟩
      rw [lpSet_ne _ _ hl']
      by_cases e : l' = l2
      · rw [e, lpSet_same, hlp3]
      · rw [lpSet_ne _ _ e]; exact j5 l' hl' e
  · refine ⟨lpSet_same _ _ _, by simp only [go_sem]; omega, fun b' hb' => ?_, fun l' hl' => (lpSet_ne _ _ hl').trans rfl, ?_, .inl ⟨rfl, ?_⟩⟩
    · simp only [go_sem, if_neg (hne4 b' hb'), if_neg (hne5 b' hb')]
    · simp only [go_sem, ↓reduceIte, Nat.reduceEqDiff, and_false] <;> rfl
    · (simp only [go_sem, ↓reduceIte, Nat.reduceEqDiff, and_false] <;> rfl)
  · rintro v h' ⟨h1, h2, h3, h4, h5, h6⟩
    refine .inl ⟨h1, st_bN (st_tN ?_)⟩
    have qn := pb f.loads.length (Nat.le_refl _)
    refine asem_seq (fi := ⟨64, [11, 13], [2, 3, 20, 52], none, [(18, [0, 0, 1, 7, 15], [(0, true), (1, true), (2, false), (3, false), (4, false)])]⟩) tab mixed (by decide) ?_
    repeat' (first
        | refine st_seq_reg rfl (by first | (simp only [go_sem]; rfl) | rfl) (by first | (simp only [go_sem]; rfl) | rfl) ?_
        | refine st_reg rfl (by first | (simp only [go_sem]; rfl) | rfl) (by first | (simp only [go_sem]; rfl) | rfl) ?_
        | refine st_seq_draw rfl (by first | (simp only [go_sem]; rfl) | rfl) (by first | (simp only [go_sem]; rfl) | rfl) ?_
        | refine st_draw rfl (by first | (simp only [go_sem]; rfl) | rfl) (by first | (simp only [go_sem]; rfl) | rfl) ?_
        | refine st_op ?_
        | refine st_det rfl (by simp (disch := omega) only [go_sem, wr_i64, if_yes, if_no, ↓reduceIte, Nat.reduceAdd, Nat.reduceMul, Nat.reduceEqDiff, Nat.reduceBEq, Nat.reduceLeDiff]; rfl) ?_
        | refine st_dop rfl ?_
        | refine st_loc rfl (by simp (disch := omega) only [go_sem, wr_i64, if_yes, if_no, ↓reduceIte, Nat.reduceAdd, Nat.reduceMul, Nat.reduceEqDiff, Nat.reduceBEq, Nat.reduceLeDiff]; rfl) ?_
        | refine st_heap rfl (by simp (disch := omega) only [go_sem, wr_i64, if_yes, if_no, ↓reduceIte, Nat.reduceAdd, Nat.reduceMul, Nat.reduceEqDiff, Nat.reduceBEq, Nat.reduceLeDiff]; rfl) ?_
        | refine st_store (by simp (disch := omega) only [go_sem, wr_i64, if_yes, if_no, ↓reduceIte, Nat.reduceAdd, Nat.reduceMul, Nat.reduceEqDiff, Nat.reduceBEq, Nat.reduceLeDiff]; rfl) ?_
        | refine st_append (by simp (disch := omega) only [go_sem, wr_i64, if_yes, if_no, ↓reduceIte, Nat.reduceAdd, Nat.reduceMul, Nat.reduceEqDiff, Nat.reduceBEq, Nat.reduceLeDiff]; rfl) ?_
        | (refine st_pureE (by first | (simp (disch := omega) only [go_sem]; rfl) | rfl) rfl (c104 f 3) (by first | (simp only [go_sem]; rfl) | rfl) (by intro n; simp (disch := omega) only [go_sem]; rfl) ?_; intro n hn)
        | refine st_gT rfl rfl rfl ?_
        | refine st_gF rfl rfl rfl ?_
        | refine st_dgT rfl rfl rfl rfl ?_
        | refine st_dgF rfl rfl rfl ?_
        | (refine st_gS rfl rfl ?_ ?_ <;> intro hg <;> (try simp only [decide_eq_true_eq, decide_eq_false_iff_not, Bool.not_eq_true', Bool.not_eq_false'] at hg))
        | (refine st_dgS rfl rfl ?_ ?_ <;> intro hg <;> (try simp only [decide_eq_true_eq, decide_eq_false_iff_not, Bool.not_eq_true', Bool.not_eq_false'] at hg))
        | refine st_condT rfl ?_
        | refine st_condF rfl ?_
        | (refine st_condS rfl ?_ ?_ <;> intro hg <;> (try simp only [decide_eq_true_eq, decide_eq_false_iff_not, Bool.not_eq_true', Bool.not_eq_false'] at hg))
        | refine st_nil ?_
        | refine st_dnil ?_
        | refine st_tN ?_
        | refine st_seq ?_
        | refine st_block ?_
        | refine st_skip ?_
        | refine st_exit ?_
        | refine st_ret ?_
        | refine st_tE ?_
        | refine st_tR ?_
        | refine st_bN ?_
        | refine st_bR ?_
        | refine st_bH ?_
        | refine st_bM rfl ?_)
    refine st_rangeFunc rfl (by simp only [go_sem]; rfl) (fun l3 D3 R3 hR3 hlp3 => ?_)
    simp only [go_sem] at hlp3
    generalize hLe : nearUp f.loads ap f.loads.length = L at h6
    let I3 : Nat → AH → Prop := fun i g => g.lp l3 = some R3 ∧ h.clk + 1 ≤ g.clk ∧ (∀ b' : Bid, b'.1 < h.clk → g.at_ b' = h.at_ b') ∧ (∀ l', l' ≠ l3 → g.lp l' = h.lp l') ∧ g.at_ (h.clk, 5) = some ⟨1, [[.int .i64 (powUp f.loads f.loads.length - lampUp f.loads i)]]⟩ ∧ NrAt g (h.clk, 4) h.clk L
    refine (c115 f 3 l3 hl I3 ?_ ?_ ?_ _ ?_).mono ?_
    · rintro i g m ⟨j1, j2, j3, j4, j5, j6⟩ hm
      exact ⟨j1, by simp only [go_sem]; omega, j3, j4, j5, j6.tick hm⟩
    · rintro i g hi hk ⟨j1, j2, j3, j4, j5, j6⟩
      have e1 : lampUp f.loads (i + 1) = lampUp f.loads i := by show lampUp f.loads i + _ = _; rw [if_neg hk, Int.add_zero]
      exact ⟨j1, j2, j3, j4, by rw [e1]; exact j5, j6⟩
    · rintro i g hi hk ⟨j1, j2, j3, j4, j5, j6⟩
      have qi := pb i (by omega)
      have hw := hW _ (ld_mem hi)
      refine AYields.canon tab mixed [13] [] [] hR3 j1 rfl (by intro p hp; simp at hp; rcases hp with rfl | rfl <;> (show _ < 64; decide)) [(56, .int .i64 (i : Nat)), (57, .agg (ld f.loads i).row), (5, .ptr (h.clk, 5) 0 0)] ⟨rfl, rfl, rfl, trivial⟩ rfl rfl ?_
      simp only [go_sem]
      repeat' (first
          | refine st_seq_reg rfl (by first | (simp only [go_sem]; rfl) | rfl) (by first | (simp only [go_sem]; rfl) | rfl) ?_
          | refine st_reg rfl (by first | (simp only [go_sem]; rfl) | rfl) (by first | (simp only [go_sem]; rfl) | rfl) ?_
          | refine st_seq_draw rfl (by first | (simp only [go_sem]; rfl) | rfl) (by first | (simp only [go_sem]; rfl) | rfl) ?_
          | refine st_draw rfl (by first | (simp only [go_sem]; rfl) | rfl) (by first | (simp only [go_sem]; rfl) | rfl) ?_
          | refine st_op ?_
          | refine st_det rfl (by simp (disch := omega) only [go_sem, wr_i64, if_yes, if_no, ↓reduceIte, Nat.reduceAdd, Nat.reduceMul, Nat.reduceEqDiff, Nat.reduceBEq, Nat.reduceLeDiff]; rfl) ?_
          | refine st_dop rfl ?_
          | refine st_loc rfl (by simp (disch := omega) only [go_sem, wr_i64, if_yes, if_no, ↓reduceIte, Nat.reduceAdd, Nat.reduceMul, Nat.reduceEqDiff, Nat.reduceBEq, Nat.reduceLeDiff]; rfl) ?_
          | refine st_heap rfl (by simp (disch := omega) only [go_sem, wr_i64, if_yes, if_no, ↓reduceIte, Nat.reduceAdd, Nat.reduceMul, Nat.reduceEqDiff, Nat.reduceBEq, Nat.reduceLeDiff]; rfl) ?_
          | refine st_store (by simp (disch := omega) only [go_sem, wr_i64, if_yes, if_no, ↓reduceIte, Nat.reduceAdd, Nat.reduceMul, Nat.reduceEqDiff, Nat.reduceBEq, Nat.reduceLeDiff]; rfl) ?_
          | refine st_append (by simp (disch := omega) only [go_sem, wr_i64, if_yes, if_no, ↓reduceIte, Nat.reduceAdd, Nat.reduceMul, Nat.reduceEqDiff, Nat.reduceBEq, Nat.reduceLeDiff]; rfl) ?_
          | refine st_gT rfl rfl rfl ?_
          | refine st_gF rfl rfl rfl ?_
          | refine st_dgT rfl rfl rfl rfl ?_
          | refine st_dgF rfl rfl rfl ?_
          | (refine st_gS rfl rfl ?_ ?_ <;> intro hg <;> (try simp only [decide_eq_true_eq, decide_eq_false_iff_not, Bool.not_eq_true', Bool.not_eq_false'] at hg))
          | (refine st_dgS rfl rfl ?_ ?_ <;> intro hg <;> (try simp only [decide_eq_true_eq, decide_eq_false_iff_not, Bool.not_eq_true', Bool.not_eq_false'] at hg))
          | refine st_condT rfl ?_
          | refine st_condF rfl ?_
          | (refine st_condS rfl ?_ ?_ <;> intro hg <;> (try simp only [decide_eq_true_eq, decide_eq_false_iff_not, Bool.not_eq_true', Bool.not_eq_false'] at hg))
          | refine st_nil ?_
          | refine st_dnil ?_
          | refine st_tN ?_
          | refine st_seq ?_
          | refine st_block ?_
          | refine st_skip ?_
          | refine st_exit ?_
          | refine st_ret ?_
          | refine st_tE ?_
          | refine st_tR ?_
          | refine st_bN ?_
          | refine st_bR ?_
          | refine st_bH ?_
          | refine st_bM rfl ?_)
      refine ⟨by simp only [go_sem]; exact j1, ?_⟩
      dsimp only
      repeat' (first
          | refine st_seq_reg rfl (by first | (simp only [go_sem, j5]; rfl) | rfl) (by first | (simp only [go_sem, j5]; rfl) | rfl) ?_
          | refine st_reg rfl (by first | (simp only [go_sem, j5]; rfl) | rfl) (by first | (simp only [go_sem, j5]; rfl) | rfl) ?_
          | refine st_seq_draw rfl (by first | (simp only [go_sem, j5]; rfl) | rfl) (by first | (simp only [go_sem, j5]; rfl) | rfl) ?_
          | refine st_draw rfl (by first | (simp only [go_sem, j5]; rfl) | rfl) (by first | (simp only [go_sem, j5]; rfl) | rfl) ?_
          | refine st_op ?_
          | refine st_det rfl (by simp (disch := omega) only [go_sem, wr_i64, if_yes, if_no, ↓reduceIte, Nat.reduceAdd, Nat.reduceMul, Nat.reduceEqDiff, Nat.reduceBEq, Nat.reduceLeDiff, j5]; rfl) ?_
          | refine st_dop rfl ?_
          | refine st_loc rfl (by simp (disch := omega) only [go_sem, wr_i64, if_yes, if_no, ↓reduceIte, Nat.reduceAdd, Nat.reduceMul, Nat.reduceEqDiff, Nat.reduceBEq, Nat.reduceLeDiff, j5]; rfl) ?_
          | refine st_heap rfl (by simp (disch := omega) only [go_sem, wr_i64, if_yes, if_no, ↓reduceIte, Nat.reduceAdd, Nat.reduceMul, Nat.reduceEqDiff, Nat.reduceBEq, Nat.reduceLeDiff, j5]; rfl) ?_
          | refine st_store (by simp (disch := omega) only [go_sem, wr_i64, if_yes, if_no, ↓reduceIte, Nat.reduceAdd, Nat.reduceMul, Nat.reduceEqDiff, Nat.reduceBEq, Nat.reduceLeDiff, j5]; rfl) ?_
          | refine st_append (by simp (disch := omega) only [go_sem, wr_i64, if_yes, if_no, ↓reduceIte, Nat.reduceAdd, Nat.reduceMul, Nat.reduceEqDiff, Nat.reduceBEq, Nat.reduceLeDiff, j5]; rfl) ?_
          | refine st_gT rfl rfl rfl ?_
          | refine st_gF rfl rfl rfl ?_
          | refine st_dgT rfl rfl rfl rfl ?_
          | refine st_dgF rfl rfl rfl ?_
          | (refine st_gS rfl rfl ?_ ?_ <;> intro hg <;> (try simp only [decide_eq_true_eq, decide_eq_false_iff_not, Bool.not_eq_true', Bool.not_eq_false'] at hg))
          | (refine st_dgS rfl rfl ?_ ?_ <;> intro hg <;> (try simp only [decide_eq_true_eq, decide_eq_false_iff_not, Bool.not_eq_true', Bool.not_eq_false'] at hg))
          | refine st_condT rfl ?_
          | refine st_condF rfl ?_
          | (refine st_condS rfl ?_ ?_ <;> intro hg <;> (try simp only [decide_eq_true_eq, decide_eq_false_iff_not, Bool.not_eq_true', Bool.not_eq_false'] at hg))
          | refine st_nil ?_
          | refine st_dnil ?_
          | refine st_tN ?_
          | refine st_seq ?_
          | refine st_block ?_
          | refine st_skip ?_
          | refine st_exit ?_
          | refine st_ret ?_
          | refine st_tE ?_
          | refine st_tR ?_
          | refine st_bN ?_
          | refine st_bR ?_
          | refine st_bH ?_
          | refine st_bM rfl ?_)
      have e1 : lampUp f.loads (i + 1) = lampUp f.loads i + (ld f.loads i).watts := by show lampUp f.loads i + _ = _; rw [if_pos hk]
      refine ⟨by simp only [go_sem], rfl, lpSet_same _ _ _, by simp only [go_sem]; omega, fun b' hb' => ?_, fun l' hl' => ?_, ?_, ?_⟩
      · simp only [go_sem, if_neg (hne5 b' hb')]; exact j3 b' hb'
      · rw [lpSet_ne _ _ hl']; simp only [go_sem]; rw [lpSet_ne _ _ hl']; exact j4 l' hl'
      · rw [e1, show powUp f.loads f.loads.length - (lampUp f.loads i + (ld f.loads i).watts) = powUp f.loads f.loads.length - lampUp f.loads i - (ld f.loads i).watts from by omega]
        (simp only [go_sem, ↓reduceIte] <;> rfl)
      · exact (j6.put (x := (h.clk, 5)) (k := some ⟨1, [[.int .i64 (powUp f.loads f.loads.length - lampUp f.loads i - (ld f.loads i).watts)]]⟩) (sne2 _ _ _ _ (by decide)) (fun bs hb _ e => by rw [e] at hb; exact absurd hb (Nat.lt_irrefl _))).tick (m := g.clk + 1 + 1) (by show g.clk ≤ g.clk + 1 + 1; omega)
    · refine ⟨lpSet_same _ _ _, by simp only [go_sem]; omega, fun b' hb' => h3 b' hb', fun l' hl' => ?_, ?_, h6.tick (m := n) (by omega)⟩
      · rw [lpSet_ne _ _ hl']
        by_cases e : l' = l
        · rw [e]; exact (lpSet_same _ _ _).trans hlp.symm
        · exact (lpSet_ne _ _ e).trans (h4 l' e)
      · rw [show lampUp f.loads 0 = 0 from rfl, Int.sub_zero]; exact h5
    · rintro v h'' ⟨j1, j2, j3, j4, j5, j6⟩
      refine .inl ⟨j1, st_bN (st_tN ?_)⟩
      have hv : ∀ S : Int, S = powUp f.loads f.loads.length - lampUp f.loads f.loads.length → fireS f ap = S := fun S e => by unfold fireS; rw [if_pos hE, e]
      have hvL : fireL f ap = L := by
        unfold fireL; rw [if_pos hE]; exact hLe
      have hl3 : h.lp l3 = none := by
        by_cases e : l3 = l
        · rw [e]; exact hlp
        · rw [← h4 l3 e]; exact (lpSet_ne _ _ e).symm.trans hlp3
      have hlpE : (h''.lpSet l3 none).lp = h.lp := by
        funext l'
        by_cases e : l' = l3
        · rw [e, lpSet_same, hl3]
        · rw [lpSet_ne _ _ e]; exact j4 l' e
      rcases j6 with ⟨e0, j6⟩ | ⟨bs, k1, k2, k3, k4⟩
      · refine asem_seqAll (fi := ⟨64, [11, 13], [2, 3, 20, 52], none, [(18, [0, 0, 1, 7, 15], [(0, true), (1, true), (2, false), (3, false), (4, false)])]⟩) tab mixed (by decide) ?_
        refine st_all2 (i := 0) (j := 1) (by decide +kernel) rfl rfl rfl rfl ?_ ?_
        · repeat' (first
              | refine st_seq_reg rfl (by first | (simp only [go_sem, j5, j6]; rfl) | rfl) (by first | (simp only [go_sem, j5, j6]; rfl) | rfl) ?_
              | refine st_reg rfl (by first | (simp only [go_sem, j5, j6]; rfl) | rfl) (by first | (simp only [go_sem, j5, j6]; rfl) | rfl) ?_
              | refine st_seq_draw rfl (by first | (simp only [go_sem, j5, j6]; rfl) | rfl) (by first | (simp only [go_sem, j5, j6]; rfl) | rfl) ?_
              | refine st_draw rfl (by first | (simp only [go_sem, j5, j6]; rfl) | rfl) (by first | (simp only [go_sem, j5, j6]; rfl) | rfl) ?_
              | refine st_op ?_
              | refine st_det rfl (by simp (disch := omega) only [go_sem, wr_i64, if_yes, if_no, ↓reduceIte, Nat.reduceAdd, Nat.reduceMul, Nat.reduceEqDiff, Nat.reduceBEq, Nat.reduceLeDiff, j5, j6]; rfl) ?_
              | refine st_dop rfl ?_
              | refine st_loc rfl (by simp (disch := omega) only [go_sem, wr_i64, if_yes, if_no, ↓reduceIte, Nat.reduceAdd, Nat.reduceMul, Nat.reduceEqDiff, Nat.reduceBEq, Nat.reduceLeDiff, j5, j6]; rfl) ?_
              | refine st_heap rfl (by simp (disch := omega) only [go_sem, wr_i64, if_yes, if_no, ↓reduceIte, Nat.reduceAdd, Nat.reduceMul, Nat.reduceEqDiff, Nat.reduceBEq, Nat.reduceLeDiff, j5, j6]; rfl) ?_
              | refine st_store (by simp (disch := omega) only [go_sem, wr_i64, if_yes, if_no, ↓reduceIte, Nat.reduceAdd, Nat.reduceMul, Nat.reduceEqDiff, Nat.reduceBEq, Nat.reduceLeDiff, j5, j6]; rfl) ?_
              | refine st_append (by simp (disch := omega) only [go_sem, wr_i64, if_yes, if_no, ↓reduceIte, Nat.reduceAdd, Nat.reduceMul, Nat.reduceEqDiff, Nat.reduceBEq, Nat.reduceLeDiff, j5, j6]; rfl) ?_
              | refine st_gT rfl rfl rfl ?_
              | refine st_gF rfl rfl rfl ?_
              | refine st_dgT rfl rfl rfl rfl ?_
              | refine st_dgF rfl rfl rfl ?_
              | (refine st_gS rfl rfl ?_ ?_ <;> intro hg <;> (try simp only [decide_eq_true_eq, decide_eq_false_iff_not, Bool.not_eq_true', Bool.not_eq_false'] at hg))
              | (refine st_dgS rfl rfl ?_ ?_ <;> intro hg <;> (try simp only [decide_eq_true_eq, decide_eq_false_iff_not, Bool.not_eq_true', Bool.not_eq_false'] at hg))
              | refine st_condT rfl ?_
              | refine st_condF rfl ?_
              | (refine st_condS rfl ?_ ?_ <;> intro hg <;> (try simp only [decide_eq_true_eq, decide_eq_false_iff_not, Bool.not_eq_true', Bool.not_eq_false'] at hg))
              | refine st_nil ?_
              | refine st_dnil ?_
              | refine st_tN ?_
              | refine st_seq ?_
              | refine st_block ?_
              | refine st_skip ?_
              | refine st_exit ?_
              | refine st_ret ?_
              | refine st_tE ?_
              | refine st_tR ?_
              | refine st_bN ?_
              | refine st_bR ?_
              | refine st_bH ?_
              | refine st_bM rfl ?_)
          refine st_all2 (i := 1) (j := 2) (by decide +kernel) rfl rfl rfl rfl ?_ ?_
          · repeat' (first
                | refine st_seq_reg rfl (by first | (simp only [go_sem, j5, j6]; rfl) | rfl) (by first | (simp only [go_sem, j5, j6]; rfl) | rfl) ?_
                | refine st_reg rfl (by first | (simp only [go_sem, j5, j6]; rfl) | rfl) (by first | (simp only [go_sem, j5, j6]; rfl) | rfl) ?_
                | refine st_seq_draw rfl (by first | (simp only [go_sem, j5, j6]; rfl) | rfl) (by first | (simp only [go_sem, j5, j6]; rfl) | rfl) ?_
                | refine st_draw rfl (by first | (simp only [go_sem, j5, j6]; rfl) | rfl) (by first | (simp only [go_sem, j5, j6]; rfl) | rfl) ?_
                | refine st_op ?_
                | refine st_det rfl (by simp (disch := omega) only [go_sem, wr_i64, if_yes, if_no, ↓reduceIte, Nat.reduceAdd, Nat.reduceMul, Nat.reduceEqDiff, Nat.reduceBEq, Nat.reduceLeDiff, j5, j6]; rfl) ?_
                | refine st_dop rfl ?_
                | refine st_loc rfl (by simp (disch := omega) only [go_sem, wr_i64, if_yes, if_no, ↓reduceIte, Nat.reduceAdd, Nat.reduceMul, Nat.reduceEqDiff, Nat.reduceBEq, Nat.reduceLeDiff, j5, j6]; rfl) ?_
                | refine st_heap rfl (by simp (disch := omega) only [go_sem, wr_i64, if_yes, if_no, ↓reduceIte, Nat.reduceAdd, Nat.reduceMul, Nat.reduceEqDiff, Nat.reduceBEq, Nat.reduceLeDiff, j5, j6]; rfl) ?_
                | refine st_store (by simp (disch := omega) only [go_sem, wr_i64, if_yes, if_no, ↓reduceIte, Nat.reduceAdd, Nat.reduceMul, Nat.reduceEqDiff, Nat.reduceBEq, Nat.reduceLeDiff, j5, j6]; rfl) ?_
                | refine st_append (by simp (disch := omega) only [go_sem, wr_i64, if_yes, if_no, ↓reduceIte, Nat.reduceAdd, Nat.reduceMul, Nat.reduceEqDiff, Nat.reduceBEq, Nat.reduceLeDiff, j5, j6]; rfl) ?_
                | refine st_gT rfl rfl rfl ?_
                | refine st_gF rfl rfl rfl ?_
                | refine st_dgT rfl rfl rfl rfl ?_
                | refine st_dgF rfl rfl rfl ?_
                | (refine st_gS rfl rfl ?_ ?_ <;> intro hg <;> (try simp only [decide_eq_true_eq, decide_eq_false_iff_not, Bool.not_eq_true', Bool.not_eq_false'] at hg))
                | (refine st_dgS rfl rfl ?_ ?_ <;> intro hg <;> (try simp only [decide_eq_true_eq, decide_eq_false_iff_not, Bool.not_eq_true', Bool.not_eq_false'] at hg))
                | refine st_condT rfl ?_
                | refine st_condF rfl ?_
                | (refine st_condS rfl ?_ ?_ <;> intro hg <;> (try simp only [decide_eq_true_eq, decide_eq_false_iff_not, Bool.not_eq_true', Bool.not_eq_false'] at hg))
                | refine st_nil ?_
                | refine st_dnil ?_
                | refine st_tN ?_
                | refine st_seq ?_
                | refine st_block ?_
                | refine st_skip ?_
                | refine st_exit ?_
                | refine st_ret ?_
                | refine st_tE ?_
                | refine st_tR ?_
                | refine st_bN ?_
                | refine st_bR ?_
                | refine st_bH ?_
                | refine st_bM rfl ?_)
            refine st_all1 (i := 2) (by decide +kernel) rfl rfl ?_
            repeat' (first
                | refine st_seq_reg rfl (by first | (simp only [go_sem, j5, j6]; rfl) | rfl) (by first | (simp only [go_sem, j5, j6]; rfl) | rfl) ?_
                | refine st_reg rfl (by first | (simp only [go_sem, j5, j6]; rfl) | rfl) (by first | (simp only [go_sem, j5, j6]; rfl) | rfl) ?_
                | refine st_seq_draw rfl (by first | (simp only [go_sem, j5, j6]; rfl) | rfl) (by first | (simp only [go_sem, j5, j6]; rfl) | rfl) ?_
                | refine st_draw rfl (by first | (simp only [go_sem, j5, j6]; rfl) | rfl) (by first | (simp only [go_sem, j5, j6]; rfl) | rfl) ?_
                | refine st_op ?_
                | refine st_det rfl (by simp (disch := omega) only [go_sem, wr_i64, if_yes, if_no, ↓reduceIte, Nat.reduceAdd, Nat.reduceMul, Nat.reduceEqDiff, Nat.reduceBEq, Nat.reduceLeDiff, j5, j6]; rfl) ?_
                | refine st_dop rfl ?_
                | refine st_loc rfl (by simp (disch := omega) only [go_sem, wr_i64, if_yes, if_no, ↓reduceIte, Nat.reduceAdd, Nat.reduceMul, Nat.reduceEqDiff, Nat.reduceBEq, Nat.reduceLeDiff, j5, j6]; rfl) ?_
                | refine st_heap rfl (by simp (disch := omega) only [go_sem, wr_i64, if_yes, if_no, ↓reduceIte, Nat.reduceAdd, Nat.reduceMul, Nat.reduceEqDiff, Nat.reduceBEq, Nat.reduceLeDiff, j5, j6]; rfl) ?_
                | refine st_store (by simp (disch := omega) only [go_sem, wr_i64, if_yes, if_no, ↓reduceIte, Nat.reduceAdd, Nat.reduceMul, Nat.reduceEqDiff, Nat.reduceBEq, Nat.reduceLeDiff, j5, j6]; rfl) ?_
                | refine st_append (by simp (disch := omega) only [go_sem, wr_i64, if_yes, if_no, ↓reduceIte, Nat.reduceAdd, Nat.reduceMul, Nat.reduceEqDiff, Nat.reduceBEq, Nat.reduceLeDiff, j5, j6]; rfl) ?_
                | refine st_gT rfl rfl rfl ?_
                | refine st_gF rfl rfl rfl ?_
                | refine st_dgT rfl rfl rfl rfl ?_
                | refine st_dgF rfl rfl rfl ?_
                | (refine st_gS rfl rfl ?_ ?_ <;> intro hg <;> (try simp only [decide_eq_true_eq, decide_eq_false_iff_not, Bool.not_eq_true', Bool.not_eq_false'] at hg))
                | (refine st_dgS rfl rfl ?_ ?_ <;> intro hg <;> (try simp only [decide_eq_true_eq, decide_eq_false_iff_not, Bool.not_eq_true', Bool.not_eq_false'] at hg))
                | refine st_condT rfl ?_
                | refine st_condF rfl ?_
                | (refine st_condS rfl ?_ ?_ <;> intro hg <;> (try simp only [decide_eq_true_eq, decide_eq_false_iff_not, Bool.not_eq_true', Bool.not_eq_false'] at hg))
                | refine st_nil ?_
                | refine st_dnil ?_
                | refine st_tN ?_
                | refine st_seq ?_
                | refine st_block ?_
                | refine st_skip ?_
                | refine st_exit ?_
                | refine st_ret ?_
                | refine st_tE ?_
                | refine st_tR ?_
                | refine st_bN ?_
                | refine st_bR ?_
                | refine st_bH ?_
                | refine st_bM rfl ?_)
            refine st_all1 (i := 3) (by decide +kernel) rfl rfl ?_
            repeat' (first
                | refine st_seq_reg rfl (by first | (simp only [go_sem, j5, j6]; rfl) | rfl) (by first | (simp only [go_sem, j5, j6]; rfl) | rfl) ?_
                | refine st_reg rfl (by first | (simp only [go_sem, j5, j6]; rfl) | rfl) (by first | (simp only [go_sem, j5, j6]; rfl) | rfl) ?_
                | refine st_seq_draw rfl (by first | (simp only [go_sem, j5, j6]; rfl) | rfl) (by first | (simp only [go_sem, j5, j6]; rfl) | rfl) ?_
                | refine st_draw rfl (by first | (simp only [go_sem, j5, j6]; rfl) | rfl) (by first | (simp only [go_sem, j5, j6]; rfl) | rfl) ?_
                | refine st_op ?_
                | refine st_det rfl (by simp (disch := omega) only [go_sem, wr_i64, if_yes, if_no, ↓reduceIte, Nat.reduceAdd, Nat.reduceMul, Nat.reduceEqDiff, Nat.reduceBEq, Nat.reduceLeDiff, j5, j6]; rfl) ?_
                | refine st_dop rfl ?_
                | refine st_loc rfl (by simp (disch := omega) only [go_sem, wr_i64, if_yes, if_no, ↓reduceIte, Nat.reduceAdd, Nat.reduceMul, Nat.reduceEqDiff, Nat.reduceBEq, Nat.reduceLeDiff, j5, j6]; rfl) ?_
                | refine st_heap rfl (by simp (disch := omega) only [go_sem, wr_i64, if_yes, if_no, ↓reduceIte, Nat.reduceAdd, Nat.reduceMul, Nat.reduceEqDiff, Nat.reduceBEq, Nat.reduceLeDiff, j5, j6]; rfl) ?_
                | refine st_store (by simp (disch := omega) only [go_sem, wr_i64, if_yes, if_no, ↓reduceIte, Nat.reduceAdd, Nat.reduceMul, Nat.reduceEqDiff, Nat.reduceBEq, Nat.reduceLeDiff, j5, j6]; rfl) ?_
                | refine st_append (by simp (disch := omega) only [go_sem, wr_i64, if_yes, if_no, ↓reduceIte, Nat.reduceAdd, Nat.reduceMul, Nat.reduceEqDiff, Nat.reduceBEq, Nat.reduceLeDiff, j5, j6]; rfl) ?_
                | refine st_gT rfl rfl rfl ?_
                | refine st_gF rfl rfl rfl ?_
                | refine st_dgT rfl rfl rfl rfl ?_
                | refine st_dgF rfl rfl rfl ?_
                | (refine st_gS rfl rfl ?_ ?_ <;> intro hg <;> (try simp only [decide_eq_true_eq, decide_eq_false_iff_not, Bool.not_eq_true', Bool.not_eq_false'] at hg))
                | (refine st_dgS rfl rfl ?_ ?_ <;> intro hg <;> (try simp only [decide_eq_true_eq, decide_eq_false_iff_not, Bool.not_eq_true', Bool.not_eq_false'] at hg))
                | refine st_condT rfl ?_
                | refine st_condF rfl ?_
                | (refine st_condS rfl ?_ ?_ <;> intro hg <;> (try simp only [decide_eq_true_eq, decide_eq_false_iff_not, Bool.not_eq_true', Bool.not_eq_false'] at hg))
                | refine st_nil ?_
                | refine st_dnil ?_
                | refine st_tN ?_
                | refine st_seq ?_
                | refine st_block ?_
                | refine st_skip ?_
                | refine st_exit ?_
                | refine st_ret ?_
                | refine st_tE ?_
                | refine st_tR ?_
                | refine st_bN ?_
                | refine st_bR ?_
                | refine st_bH ?_
                | refine st_bM rfl ?_)
            refine st_all1 (i := 4) (by decide +kernel) rfl rfl ?_
            repeat' (first
                | refine st_seq_reg rfl (by first | (simp only [go_sem, j5, j6]; rfl) | rfl) (by first | (simp only [go_sem, j5, j6]; rfl) | rfl) ?_
                | refine st_reg rfl (by first | (simp only [go_sem, j5, j6]; rfl) | rfl) (by first | (simp only [go_sem, j5, j6]; rfl) | rfl) ?_
                | refine st_seq_draw rfl (by first | (simp only [go_sem, j5, j6]; rfl) | rfl) (by first | (simp only [go_sem, j5, j6]; rfl) | rfl) ?_
                | refine st_draw rfl (by first | (simp only [go_sem, j5, j6]; rfl) | rfl) (by first | (simp only [go_sem, j5, j6]; rfl) | rfl) ?_
                | refine st_op ?_
                | refine st_det rfl (by simp (disch := omega) only [go_sem, wr_i64, if_yes, if_no, ↓reduceIte, Nat.reduceAdd, Nat.reduceMul, Nat.reduceEqDiff, Nat.reduceBEq, Nat.reduceLeDiff, j5, j6]; rfl) ?_
                | refine st_dop rfl ?_
                | refine st_loc rfl (by simp (disch := omega) only [go_sem, wr_i64, if_yes, if_no, ↓reduceIte, Nat.reduceAdd, Nat.reduceMul, Nat.reduceEqDiff, Nat.reduceBEq, Nat.reduceLeDiff, j5, j6]; rfl) ?_
                | refine st_heap rfl (by simp (disch := omega) only [go_sem, wr_i64, if_yes, if_no, ↓reduceIte, Nat.reduceAdd, Nat.reduceMul, Nat.reduceEqDiff, Nat.reduceBEq, Nat.reduceLeDiff, j5, j6]; rfl) ?_
                | refine st_store (by simp (disch := omega) only [go_sem, wr_i64, if_yes, if_no, ↓reduceIte, Nat.reduceAdd, Nat.reduceMul, Nat.reduceEqDiff, Nat.reduceBEq, Nat.reduceLeDiff, j5, j6]; rfl) ?_
                | refine st_append (by simp (disch := omega) only [go_sem, wr_i64, if_yes, if_no, ↓reduceIte, Nat.reduceAdd, Nat.reduceMul, Nat.reduceEqDiff, Nat.reduceBEq, Nat.reduceLeDiff, j5, j6]; rfl) ?_
                | refine st_gT rfl rfl rfl ?_
                | refine st_gF rfl rfl rfl ?_
                | refine st_dgT rfl rfl rfl rfl ?_
                | refine st_dgF rfl rfl rfl ?_
                | (refine st_gS rfl rfl ?_ ?_ <;> intro hg <;> (try simp only [decide_eq_true_eq, decide_eq_false_iff_not, Bool.not_eq_true', Bool.not_eq_false'] at hg))
                | (refine st_dgS rfl rfl ?_ ?_ <;> intro hg <;> (try simp only [decide_eq_true_eq, decide_eq_false_iff_not, Bool.not_eq_true', Bool.not_eq_false'] at hg))
                | refine st_condT rfl ?_
                | refine st_condF rfl ?_
                | (refine st_condS rfl ?_ ?_ <;> intro hg <;> (try simp only [decide_eq_true_eq, decide_eq_false_iff_not, Bool.not_eq_true', Bool.not_eq_false'] at hg))
                | refine st_nil ?_
                | refine st_dnil ?_
                | refine st_tN ?_
                | refine st_seq ?_
                | refine st_block ?_
                | refine st_skip ?_
                | refine st_exit ?_
                | refine st_ret ?_
                | refine st_tE ?_
                | refine st_tR ?_
                | refine st_bN ?_
                | refine st_bR ?_
                | refine st_bH ?_
                | refine st_bM rfl ?_)
            refine st_allZ (by decide +kernel) ?_
            refine asem_awp (fi := ⟨64, [11, 13], [2, 3, 20, 52], none, [(18, [0, 0, 1, 7, 15], [(0, true), (1, true), (2, false), (3, false), (4, false)])]⟩) tab mixed (by decide) ?_
            repeat' (first
                | refine st_seq_reg rfl (by first | (simp only [go_sem, j5, j6]; rfl) | rfl) (by first | (simp only [go_sem, j5, j6]; rfl) | rfl) ?_
                | refine st_reg rfl (by first | (simp only [go_sem, j5, j6]; rfl) | rfl) (by first | (simp only [go_sem, j5, j6]; rfl) | rfl) ?_
                | refine st_seq_draw rfl (by first | (simp only [go_sem, j5, j6]; rfl) | rfl) (by first | (simp only [go_sem, j5, j6]; rfl) | rfl) ?_
                | refine st_draw rfl (by first | (simp only [go_sem, j5, j6]; rfl) | rfl) (by first | (simp only [go_sem, j5, j6]; rfl) | rfl) ?_
                | refine st_op ?_
                | refine st_det rfl (by simp (disch := omega) only [go_sem, wr_i64, if_yes, if_no, ↓reduceIte, Nat.reduceAdd, Nat.reduceMul, Nat.reduceEqDiff, Nat.reduceBEq, Nat.reduceLeDiff, j5, j6]; rfl) ?_
                | refine st_dop rfl ?_
                | refine st_loc rfl (by simp (disch := omega) only [go_sem, wr_i64, if_yes, if_no, ↓reduceIte, Nat.reduceAdd, Nat.reduceMul, Nat.reduceEqDiff, Nat.reduceBEq, Nat.reduceLeDiff, j5, j6]; rfl) ?_
                | refine st_heap rfl (by simp (disch := omega) only [go_sem, wr_i64, if_yes, if_no, ↓reduceIte, Nat.reduceAdd, Nat.reduceMul, Nat.reduceEqDiff, Nat.reduceBEq, Nat.reduceLeDiff, j5, j6]; rfl) ?_
                | refine st_store (by simp (disch := omega) only [go_sem, wr_i64, if_yes, if_no, ↓reduceIte, Nat.reduceAdd, Nat.reduceMul, Nat.reduceEqDiff, Nat.reduceBEq, Nat.reduceLeDiff, j5, j6]; rfl) ?_
                | refine st_append (by simp (disch := omega) only [go_sem, wr_i64, if_yes, if_no, ↓reduceIte, Nat.reduceAdd, Nat.reduceMul, Nat.reduceEqDiff, Nat.reduceBEq, Nat.reduceLeDiff, j5, j6]; rfl) ?_
                | refine st_gT rfl rfl rfl ?_
                | refine st_gF rfl rfl rfl ?_
                | refine st_dgT rfl rfl rfl rfl ?_
                | refine st_dgF rfl rfl rfl ?_
                | (refine st_gS rfl rfl ?_ ?_ <;> intro hg <;> (try simp only [decide_eq_true_eq, decide_eq_false_iff_not, Bool.not_eq_true', Bool.not_eq_false'] at hg))
                | (refine st_dgS rfl rfl ?_ ?_ <;> intro hg <;> (try simp only [decide_eq_true_eq, decide_eq_false_iff_not, Bool.not_eq_true', Bool.not_eq_false'] at hg))
                | refine st_condT rfl ?_
                | refine st_condF rfl ?_
                | (refine st_condS rfl ?_ ?_ <;> intro hg <;> (try simp only [decide_eq_true_eq, decide_eq_false_iff_not, Bool.not_eq_true', Bool.not_eq_false'] at hg))
                | refine st_nil ?_
                | refine st_dnil ?_
                | refine st_tN ?_
                | refine st_seq ?_
                | refine st_block ?_
                | refine st_skip ?_
                | refine st_exit ?_
                | refine st_ret ?_
                | refine st_tE ?_
                | refine st_tR ?_
                | refine st_bN ?_
                | refine st_bR ?_
                | refine st_bH ?_
                | refine st_bM rfl ?_)
            simp (disch := omega) only [AEnd, Try.results66, aresK, fin, go_sem, ↓reduceIte, Nat.reduceEqDiff, Nat.reduceAdd, Nat.reduceLeDiff, if_yes, if_no, implies_true, true_and, and_true, List.reverse_cons, List.reverse_nil]
            refine ⟨fun b' hb' => ?_, ?_, .inl ⟨.tup [.lst 2 [], .int .i64 (powUp f.loads f.loads.length - lampUp f.loads f.loads.length), .int .i64 0], VLe.tup (by simp only [VLes]; exact ⟨_, _, rfl, VLe.nils 2, _, _, rfl, VLe.refl _, _, _, rfl, VLe.refl _, rfl⟩), by rw [hvL, hv _ rfl, hE, e0]; rfl⟩⟩
            · rw [if_neg (hne5 b' hb'), if_neg (hne4 b' hb')]; exact j3 b' hb'
            · exact hlpE
          · repeat' (first
                | refine st_seq_reg rfl (by first | (simp only [go_sem, j5, j6]; rfl) | rfl) (by first | (simp only [go_sem, j5, j6]; rfl) | rfl) ?_
                | refine st_reg rfl (by first | (simp only [go_sem, j5, j6]; rfl) | rfl) (by first | (simp only [go_sem, j5, j6]; rfl) | rfl) ?_
                | refine st_seq_draw rfl (by first | (simp only [go_sem, j5, j6]; rfl) | rfl) (by first | (simp only [go_sem, j5, j6]; rfl) | rfl) ?_
                | refine st_draw rfl (by first | (simp only [go_sem, j5, j6]; rfl) | rfl) (by first | (simp only [go_sem, j5, j6]; rfl) | rfl) ?_
                | refine st_op ?_
                | refine st_det rfl (by simp (disch := omega) only [go_sem, wr_i64, if_yes, if_no, ↓reduceIte, Nat.reduceAdd, Nat.reduceMul, Nat.reduceEqDiff, Nat.reduceBEq, Nat.reduceLeDiff, j5, j6]; rfl) ?_
                | refine st_dop rfl ?_
                | refine st_loc rfl (by simp (disch := omega) only [go_sem, wr_i64, if_yes, if_no, ↓reduceIte, Nat.reduceAdd, Nat.reduceMul, Nat.reduceEqDiff, Nat.reduceBEq, Nat.reduceLeDiff, j5, j6]; rfl) ?_
                | refine st_heap rfl (by simp (disch := omega) only [go_sem, wr_i64, if_yes, if_no, ↓reduceIte, Nat.reduceAdd, Nat.reduceMul, Nat.reduceEqDiff, Nat.reduceBEq, Nat.reduceLeDiff, j5, j6]; rfl) ?_
                | refine st_store (by simp (disch := omega) only [go_sem, wr_i64, if_yes, if_no, ↓reduceIte, Nat.reduceAdd, Nat.reduceMul, Nat.reduceEqDiff, Nat.reduceBEq, Nat.reduceLeDiff, j5, j6]; rfl) ?_
                | refine st_append (by simp (disch := omega) only [go_sem, wr_i64, if_yes, if_no, ↓reduceIte, Nat.reduceAdd, Nat.reduceMul, Nat.reduceEqDiff, Nat.reduceBEq, Nat.reduceLeDiff, j5, j6]; rfl) ?_
                | refine st_gT rfl rfl rfl ?_
                | refine st_gF rfl rfl rfl ?_
                | refine st_dgT rfl rfl rfl rfl ?_
                | refine st_dgF rfl rfl rfl ?_
                | (refine st_gS rfl rfl ?_ ?_ <;> intro hg <;> (try simp only [decide_eq_true_eq, decide_eq_false_iff_not, Bool.not_eq_true', Bool.not_eq_false'] at hg))
                | (refine st_dgS rfl rfl ?_ ?_ <;> intro hg <;> (try simp only [decide_eq_true_eq, decide_eq_false_iff_not, Bool.not_eq_true', Bool.not_eq_false'] at hg))
                | refine st_condT rfl ?_
                | refine st_condF rfl ?_
                | (refine st_condS rfl ?_ ?_ <;> intro hg <;> (try simp only [decide_eq_true_eq, decide_eq_false_iff_not, Bool.not_eq_true', Bool.not_eq_false'] at hg))
                | refine st_nil ?_
                | refine st_dnil ?_
                | refine st_tN ?_
                | refine st_seq ?_
                | refine st_block ?_
                | refine st_skip ?_
                | refine st_exit ?_
                | refine st_ret ?_
                | refine st_tE ?_
                | refine st_tR ?_
                | refine st_bN ?_
                | refine st_bR ?_
                | refine st_bH ?_
                | refine st_bM rfl ?_)
            refine st_all1 (i := 1) (by decide +kernel) rfl rfl ?_
            repeat' (first
                | refine st_seq_reg rfl (by first | (simp only [go_sem, j5, j6]; rfl) | rfl) (by first | (simp only [go_sem, j5, j6]; rfl) | rfl) ?_
                | refine st_reg rfl (by first | (simp only [go_sem, j5, j6]; rfl) | rfl) (by first | (simp only [go_sem, j5, j6]; rfl) | rfl) ?_
                | refine st_seq_draw rfl (by first | (simp only [go_sem, j5, j6]; rfl) | rfl) (by first | (simp only [go_sem, j5, j6]; rfl) | rfl) ?_
                | refine st_draw rfl (by first | (simp only [go_sem, j5, j6]; rfl) | rfl) (by first | (simp only [go_sem, j5, j6]; rfl) | rfl) ?_
                | refine st_op ?_
                | refine st_det rfl (by simp (disch := omega) only [go_sem, wr_i64, if_yes, if_no, ↓reduceIte, Nat.reduceAdd, Nat.reduceMul, Nat.reduceEqDiff, Nat.reduceBEq, Nat.reduceLeDiff, j5, j6]; rfl) ?_
                | refine st_dop rfl ?_
                | refine st_loc rfl (by simp (disch := omega) only [go_sem, wr_i64, if_yes, if_no, ↓reduceIte, Nat.reduceAdd, Nat.reduceMul, Nat.reduceEqDiff, Nat.reduceBEq, Nat.reduceLeDiff, j5, j6]; rfl) ?_
                | refine st_heap rfl (by simp (disch := omega) only [go_sem, wr_i64, if_yes, if_no, ↓reduceIte, Nat.reduceAdd, Nat.reduceMul, Nat.reduceEqDiff, Nat.reduceBEq, Nat.reduceLeDiff, j5, j6]; rfl) ?_
                | refine st_store (by simp (disch := omega) only [go_sem, wr_i64, if_yes, if_no, ↓reduceIte, Nat.reduceAdd, Nat.reduceMul, Nat.reduceEqDiff, Nat.reduceBEq, Nat.reduceLeDiff, j5, j6]; rfl) ?_
                | refine st_append (by simp (disch := omega) only [go_sem, wr_i64, if_yes, if_no, ↓reduceIte, Nat.reduceAdd, Nat.reduceMul, Nat.reduceEqDiff, Nat.reduceBEq, Nat.reduceLeDiff, j5, j6]; rfl) ?_
                | refine st_gT rfl rfl rfl ?_
                | refine st_gF rfl rfl rfl ?_
                | refine st_dgT rfl rfl rfl rfl ?_
                | refine st_dgF rfl rfl rfl ?_
                | (refine st_gS rfl rfl ?_ ?_ <;> intro hg <;> (try simp only [decide_eq_true_eq, decide_eq_false_iff_not, Bool.not_eq_true', Bool.not_eq_false'] at hg))
                | (refine st_dgS rfl rfl ?_ ?_ <;> intro hg <;> (try simp only [decide_eq_true_eq, decide_eq_false_iff_not, Bool.not_eq_true', Bool.not_eq_false'] at hg))
                | refine st_condT rfl ?_
                | refine st_condF rfl ?_
                | (refine st_condS rfl ?_ ?_ <;> intro hg <;> (try simp only [decide_eq_true_eq, decide_eq_false_iff_not, Bool.not_eq_true', Bool.not_eq_false'] at hg))
                | refine st_nil ?_
                | refine st_dnil ?_
                | refine st_tN ?_
                | refine st_seq ?_
                | refine st_block ?_
                | refine st_skip ?_
                | refine st_exit ?_
                | refine st_ret ?_
                | refine st_tE ?_
                | refine st_tR ?_
                | refine st_bN ?_
                | refine st_bR ?_
                | refine st_bH ?_
                | refine st_bM rfl ?_)
            refine st_all1 (i := 3) (by decide +kernel) rfl rfl ?_
            repeat' (first
                | refine st_seq_reg rfl (by first | (simp only [go_sem, j5, j6]; rfl) | rfl) (by first | (simp only [go_sem, j5, j6]; rfl) | rfl) ?_
                | refine st_reg rfl (by first | (simp only [go_sem, j5, j6]; rfl) | rfl) (by first | (simp only [go_sem, j5, j6]; rfl) | rfl) ?_
                | refine st_seq_draw rfl (by first | (simp only [go_sem, j5, j6]; rfl) | rfl) (by first | (simp only [go_sem, j5, j6]; rfl) | rfl) ?_
                | refine st_draw rfl (by first | (simp only [go_sem, j5, j6]; rfl) | rfl) (by first | (simp only [go_sem, j5, j6]; rfl) | rfl) ?_
                | refine st_op ?_
                | refine st_det rfl (by simp (disch := omega) only [go_sem, wr_i64, if_yes, if_no, ↓reduceIte, Nat.reduceAdd, Nat.reduceMul, Nat.reduceEqDiff, Nat.reduceBEq, Nat.reduceLeDiff, j5, j6]; rfl) ?_
                | refine st_dop rfl ?_
                | refine st_loc rfl (by simp (disch := omega) only [go_sem, wr_i64, if_yes, if_no, ↓reduceIte, Nat.reduceAdd, Nat.reduceMul, Nat.reduceEqDiff, Nat.reduceBEq, Nat.reduceLeDiff, j5, j6]; rfl) ?_
                | refine st_heap rfl (by simp (disch := omega) only [go_sem, wr_i64, if_yes, if_no, ↓reduceIte, Nat.reduceAdd, Nat.reduceMul, Nat.reduceEqDiff, Nat.reduceBEq, Nat.reduceLeDiff, j5, j6]; rfl) ?_
                | refine st_store (by simp (disch := omega) only [go_sem, wr_i64, if_yes, if_no, ↓reduceIte, Nat.reduceAdd, Nat.reduceMul, Nat.reduceEqDiff, Nat.reduceBEq, Nat.reduceLeDiff, j5, j6]; rfl) ?_
                | refine st_append (by simp (disch := omega) only [go_sem, wr_i64, if_yes, if_no, ↓reduceIte, Nat.reduceAdd, Nat.reduceMul, Nat.reduceEqDiff, Nat.reduceBEq, Nat.reduceLeDiff, j5, j6]; rfl) ?_
                | refine st_gT rfl rfl rfl ?_
                | refine st_gF rfl rfl rfl ?_
                | refine st_dgT rfl rfl rfl rfl ?_
                | refine st_dgF rfl rfl rfl ?_
                | (refine st_gS rfl rfl ?_ ?_ <;> intro hg <;> (try simp only [decide_eq_true_eq, decide_eq_false_iff_not, Bool.not_eq_true', Bool.not_eq_false'] at hg))
                | (refine st_dgS rfl rfl ?_ ?_ <;> intro hg <;> (try simp only [decide_eq_true_eq, decide_eq_false_iff_not, Bool.not_eq_true', Bool.not_eq_false'] at hg))
                | refine st_condT rfl ?_
                | refine st_condF rfl ?_
                | (refine st_condS rfl ?_ ?_ <;> intro hg <;> (try simp only [decide_eq_true_eq, decide_eq_false_iff_not, Bool.not_eq_true', Bool.not_eq_false'] at hg))
                | refine st_nil ?_
                | refine st_dnil ?_
                | refine st_tN ?_
                | refine st_seq ?_
                | refine st_block ?_
                | refine st_skip ?_
                | refine st_exit ?_
                | refine st_ret ?_
                | refine st_tE ?_
                | refine st_tR ?_
                | refine st_bN ?_
                | refine st_bR ?_
                | refine st_bH ?_
                | refine st_bM rfl ?_)
            refine st_all1 (i := 4) (by decide +kernel) rfl rfl ?_
            repeat' (first
                | refine st_seq_reg rfl (by first | (simp only [go_sem, j5, j6]; rfl) | rfl) (by first | (simp only [go_sem, j5, j6]; rfl) | rfl) ?_
                | refine st_reg rfl (by first | (simp only [go_sem, j5, j6]; rfl) | rfl) (by first | (simp only [go_sem, j5, j6]; rfl) | rfl) ?_
                | refine st_seq_draw rfl (by first | (simp only [go_sem, j5, j6]; rfl) | rfl) (by first | (simp only [go_sem, j5, j6]; rfl) | rfl) ?_
                | refine st_draw rfl (by first | (simp only [go_sem, j5, j6]; rfl) | rfl) (by first | (simp only [go_sem, j5, j6]; rfl) | rfl) ?_
                | refine st_op ?_
                | refine st_det rfl (by simp (disch := omega) only [go_sem, wr_i64, if_yes, if_no, ↓reduceIte, Nat.reduceAdd, Nat.reduceMul, Nat.reduceEqDiff, Nat.reduceBEq, Nat.reduceLeDiff, j5, j6]; rfl) ?_
                | refine st_dop rfl ?_
                | refine st_loc rfl (by simp (disch := omega) only [go_sem, wr_i64, if_yes, if_no, ↓reduceIte, Nat.reduceAdd, Nat.reduceMul, Nat.reduceEqDiff, Nat.reduceBEq, Nat.reduceLeDiff, j5, j6]; rfl) ?_
                | refine st_heap rfl (by simp (disch := omega) only [go_sem, wr_i64, if_yes, if_no, ↓reduceIte, Nat.reduceAdd, Nat.reduceMul, Nat.reduceEqDiff, Nat.reduceBEq, Nat.reduceLeDiff, j5, j6]; rfl) ?_
                | refine st_store (by simp (disch := omega) only [go_sem, wr_i64, if_yes, if_no, ↓reduceIte, Nat.reduceAdd, Nat.reduceMul, Nat.reduceEqDiff, Nat.reduceBEq, Nat.reduceLeDiff, j5, j6]; rfl) ?_
                | refine st_append (by simp (disch := omega) only [go_sem, wr_i64, if_yes, if_no, ↓reduceIte, Nat.reduceAdd, Nat.reduceMul, Nat.reduceEqDiff, Nat.reduceBEq, Nat.reduceLeDiff, j5, j6]; rfl) ?_
                | refine st_gT rfl rfl rfl ?_
                | refine st_gF rfl rfl rfl ?_
                | refine st_dgT rfl rfl rfl rfl ?_
                | refine st_dgF rfl rfl rfl ?_
                | (refine st_gS rfl rfl ?_ ?_ <;> intro hg <;> (try simp only [decide_eq_true_eq, decide_eq_false_iff_not, Bool.not_eq_true', Bool.not_eq_false'] at hg))
                | (refine st_dgS rfl rfl ?_ ?_ <;> intro hg <;> (try simp only [decide_eq_true_eq, decide_eq_false_iff_not, Bool.not_eq_true', Bool.not_eq_false'] at hg))
                | refine st_condT rfl ?_
                | refine st_condF rfl ?_
                | (refine st_condS rfl ?_ ?_ <;> intro hg <;> (try simp only [decide_eq_true_eq, decide_eq_false_iff_not, Bool.not_eq_true', Bool.not_eq_false'] at hg))
                | refine st_nil ?_
                | refine st_dnil ?_
                | refine st_tN ?_
                | refine st_seq ?_
                | refine st_block ?_
                | refine st_skip ?_
                | refine st_exit ?_
                | refine st_ret ?_
                | refine st_tE ?_
                | refine st_tR ?_
                | refine st_bN ?_
                | refine st_bR ?_
                | refine st_bH ?_
                | refine st_bM rfl ?_)
            refine st_allZ (by decide +kernel) ?_
            refine asem_awp (fi := ⟨64, [11, 13], [2, 3, 20, 52], none, [(18, [0, 0, 1, 7, 15], [(0, true), (1, true), (2, false), (3, false), (4, false)])]⟩) tab mixed (by decide) ?_
            repeat' (first
                | refine st_seq_reg rfl (by first | (simp only [go_sem, j5, j6]; rfl) | rfl) (by first | (simp only [go_sem, j5, j6]; rfl) | rfl) ?_
                | refine st_reg rfl (by first | (simp only [go_sem, j5, j6]; rfl) | rfl) (by first | (simp only [go_sem, j5, j6]; rfl) | rfl) ?_
                | refine st_seq_draw rfl (by first | (simp only [go_sem, j5, j6]; rfl) | rfl) (by first | (simp only [go_sem, j5, j6]; rfl) | rfl) ?_
                | refine st_draw rfl (by first | (simp only [go_sem, j5, j6]; rfl) | rfl) (by first | (simp only [go_sem, j5, j6]; rfl) | rfl) ?_
                | refine st_op ?_
                | refine st_det rfl (by simp (disch := omega) only [go_sem, wr_i64, if_yes, if_no, ↓reduceIte, Nat.reduceAdd, Nat.reduceMul, Nat.reduceEqDiff, Nat.reduceBEq, Nat.reduceLeDiff, j5, j6]; rfl) ?_
                | refine st_dop rfl ?_
                | refine st_loc rfl (by simp (disch := omega) only [go_sem, wr_i64, if_yes, if_no, ↓reduceIte, Nat.reduceAdd, Nat.reduceMul, Nat.reduceEqDiff, Nat.reduceBEq, Nat.reduceLeDiff, j5, j6]; rfl) ?_
                | refine st_heap rfl (by simp (disch := omega) only [go_sem, wr_i64, if_yes, if_no, ↓reduceIte, Nat.reduceAdd, Nat.reduceMul, Nat.reduceEqDiff, Nat.reduceBEq, Nat.reduceLeDiff, j5, j6]; rfl) ?_
                | refine st_store (by simp (disch := omega) only [go_sem, wr_i64, if_yes, if_no, ↓reduceIte, Nat.reduceAdd, Nat.reduceMul, Nat.reduceEqDiff, Nat.reduceBEq, Nat.reduceLeDiff, j5, j6]; rfl) ?_
                | refine st_append (by simp (disch := omega) only [go_sem, wr_i64, if_yes, if_no, ↓reduceIte, Nat.reduceAdd, Nat.reduceMul, Nat.reduceEqDiff, Nat.reduceBEq, Nat.reduceLeDiff, j5, j6]; rfl) ?_
                | refine st_gT rfl rfl rfl ?_
                | refine st_gF rfl rfl rfl ?_
                | refine st_dgT rfl rfl rfl rfl ?_
                | refine st_dgF rfl rfl rfl ?_
                | (refine st_gS rfl rfl ?_ ?_ <;> intro hg <;> (try simp only [decide_eq_true_eq, decide_eq_false_iff_not, Bool.not_eq_true', Bool.not_eq_false'] at hg))
                | (refine st_dgS rfl rfl ?_ ?_ <;> intro hg <;> (try simp only [decide_eq_true_eq, decide_eq_false_iff_not, Bool.not_eq_true', Bool.not_eq_false'] at hg))
                | refine st_condT rfl ?_
                | refine st_condF rfl ?_
                | (refine st_condS rfl ?_ ?_ <;> intro hg <;> (try simp only [decide_eq_true_eq, decide_eq_false_iff_not, Bool.not_eq_true', Bool.not_eq_false'] at hg))
                | refine st_nil ?_
                | refine st_dnil ?_
                | refine st_tN ?_
                | refine st_seq ?_
                | refine st_block ?_
                | refine st_skip ?_
                | refine st_exit ?_
                | refine st_ret ?_
                | refine st_tE ?_
                | refine st_tR ?_
                | refine st_bN ?_
                | refine st_bR ?_
                | refine st_bH ?_
                | refine st_bM rfl ?_)
            simp (disch := omega) only [AEnd, Try.results66, aresK, fin, go_sem, ↓reduceIte, Nat.reduceEqDiff, Nat.reduceAdd, Nat.reduceLeDiff, if_yes, if_no, implies_true, true_and, and_true, List.reverse_cons, List.reverse_nil]
            refine ⟨fun b' hb' => ?_, ?_, .inl ⟨.tup [.lst 2 [], .int .i64 (powUp f.loads f.loads.length - lampUp f.loads f.loads.length), .int .i64 0], VLe.tup (by simp only [VLes]; exact ⟨_, _, rfl, VLe.nils 2, _, _, rfl, VLe.refl _, _, _, rfl, VLe.refl _, rfl⟩), by rw [hvL, hv _ rfl, hE, e0]; rfl⟩⟩
            · rw [if_neg (hne5 b' hb'), if_neg (hne4 b' hb')]; exact j3 b' hb'
            · exact hlpE
        · repeat' (first
              | refine st_seq_reg rfl (by first | (simp only [go_sem, j5, j6]; rfl) | rfl) (by first | (simp only [go_sem, j5, j6]; rfl) | rfl) ?_
              | refine st_reg rfl (by first | (simp only [go_sem, j5, j6]; rfl) | rfl) (by first | (simp only [go_sem, j5, j6]; rfl) | rfl) ?_
              | refine st_seq_draw rfl (by first | (simp only [go_sem, j5, j6]; rfl) | rfl) (by first | (simp only [go_sem, j5, j6]; rfl) | rfl) ?_
              | refine st_draw rfl (by first | (simp only [go_sem, j5, j6]; rfl) | rfl) (by first | (simp only [go_sem, j5, j6]; rfl) | rfl) ?_
              | refine st_op ?_
              | refine st_det rfl (by simp (disch := omega) only [go_sem, wr_i64, if_yes, if_no, ↓reduceIte, Nat.reduceAdd, Nat.reduceMul, Nat.reduceEqDiff, Nat.reduceBEq, Nat.reduceLeDiff, j5, j6]; rfl) ?_
              | refine st_dop rfl ?_
              | refine st_loc rfl (by simp (disch := omega) only [go_sem, wr_i64, if_yes, if_no, ↓reduceIte, Nat.reduceAdd, Nat.reduceMul, Nat.reduceEqDiff, Nat.reduceBEq, Nat.reduceLeDiff, j5, j6]; rfl) ?_
              | refine st_heap rfl (by simp (disch := omega) only [go_sem, wr_i64, if_yes, if_no, ↓reduceIte, Nat.reduceAdd, Nat.reduceMul, Nat.reduceEqDiff, Nat.reduceBEq, Nat.reduceLeDiff, j5, j6]; rfl) ?_
              | refine st_store (by simp (disch := omega) only [go_sem, wr_i64, if_yes, if_no, ↓reduceIte, Nat.reduceAdd, Nat.reduceMul, Nat.reduceEqDiff, Nat.reduceBEq, Nat.reduceLeDiff, j5, j6]; rfl) ?_
              | refine st_append (by simp (disch := omega) only [go_sem, wr_i64, if_yes, if_no, ↓reduceIte, Nat.reduceAdd, Nat.reduceMul, Nat.reduceEqDiff, Nat.reduceBEq, Nat.reduceLeDiff, j5, j6]; rfl) ?_
              | refine st_gT rfl rfl rfl ?_
              | refine st_gF rfl rfl rfl ?_
              | refine st_dgT rfl rfl rfl rfl ?_
              | refine st_dgF rfl rfl rfl ?_
              | (refine st_gS rfl rfl ?_ ?_ <;> intro hg <;> (try simp only [decide_eq_true_eq, decide_eq_false_iff_not, Bool.not_eq_true', Bool.not_eq_false'] at hg))
              | (refine st_dgS rfl rfl ?_ ?_ <;> intro hg <;> (try simp only [decide_eq_true_eq, decide_eq_false_iff_not, Bool.not_eq_true', Bool.not_eq_false'] at hg))
              | refine st_condT rfl ?_
              | refine st_condF rfl ?_
              | (refine st_condS rfl ?_ ?_ <;> intro hg <;> (try simp only [decide_eq_true_eq, decide_eq_false_iff_not, Bool.not_eq_true', Bool.not_eq_false'] at hg))
              | refine st_nil ?_
              | refine st_dnil ?_
              | refine st_tN ?_
              | refine st_seq ?_
              | refine st_block ?_
              | refine st_skip ?_
              | refine st_exit ?_
              | refine st_ret ?_
              | refine st_tE ?_
              | refine st_tR ?_
              | refine st_bN ?_
              | refine st_bR ?_
              | refine st_bH ?_
              | refine st_bM rfl ?_)
          refine st_all1 (i := 0) (by decide +kernel) rfl rfl ?_
          repeat' (first
              | refine st_seq_reg rfl (by first | (simp only [go_sem, j5, j6]; rfl) | rfl) (by first | (simp only [go_sem, j5, j6]; rfl) | rfl) ?_
              | refine st_reg rfl (by first | (simp only [go_sem, j5, j6]; rfl) | rfl) (by first | (simp only [go_sem, j5, j6]; rfl) | rfl) ?_
              | refine st_seq_draw rfl (by first | (simp only [go_sem, j5, j6]; rfl) | rfl) (by first | (simp only [go_sem, j5, j6]; rfl) | rfl) ?_
              | refine st_draw rfl (by first | (simp only [go_sem, j5, j6]; rfl) | rfl) (by first | (simp only [go_sem, j5, j6]; rfl) | rfl) ?_
              | refine st_op ?_
              | refine st_det rfl (by simp (disch := omega) only [go_sem, wr_i64, if_yes, if_no, ↓reduceIte, Nat.reduceAdd, Nat.reduceMul, Nat.reduceEqDiff, Nat.reduceBEq, Nat.reduceLeDiff, j5, j6]; rfl) ?_
              | refine st_dop rfl ?_
              | refine st_loc rfl (by simp (disch := omega) only [go_sem, wr_i64, if_yes, if_no, ↓reduceIte, Nat.reduceAdd, Nat.reduceMul, Nat.reduceEqDiff, Nat.reduceBEq, Nat.reduceLeDiff, j5, j6]; rfl) ?_
              | refine st_heap rfl (by simp (disch := omega) only [go_sem, wr_i64, if_yes, if_no, ↓reduceIte, Nat.reduceAdd, Nat.reduceMul, Nat.reduceEqDiff, Nat.reduceBEq, Nat.reduceLeDiff, j5, j6]; rfl) ?_
              | refine st_store (by simp (disch := omega) only [go_sem, wr_i64, if_yes, if_no, ↓reduceIte, Nat.reduceAdd, Nat.reduceMul, Nat.reduceEqDiff, Nat.reduceBEq, Nat.reduceLeDiff, j5, j6]; rfl) ?_
              | refine st_append (by simp (disch := omega) only [go_sem, wr_i64, if_yes, if_no, ↓reduceIte, Nat.reduceAdd, Nat.reduceMul, Nat.reduceEqDiff, Nat.reduceBEq, Nat.reduceLeDiff, j5, j6]; rfl) ?_
              | refine st_gT rfl rfl rfl ?_
              | refine st_gF rfl rfl rfl ?_
              | refine st_dgT rfl rfl rfl rfl ?_
              | refine st_dgF rfl rfl rfl ?_
              | (refine st_gS rfl rfl ?_ ?_ <;> intro hg <;> (try simp only [decide_eq_true_eq, decide_eq_false_iff_not, Bool.not_eq_true', Bool.not_eq_false'] at hg))
              | (refine st_dgS rfl rfl ?_ ?_ <;> intro hg <;> (try simp only [decide_eq_true_eq, decide_eq_false_iff_not, Bool.not_eq_true', Bool.not_eq_false'] at hg))
              | refine st_condT rfl ?_
              | refine st_condF rfl ?_
              | (refine st_condS rfl ?_ ?_ <;> intro hg <;> (try simp only [decide_eq_true_eq, decide_eq_false_iff_not, Bool.not_eq_true', Bool.not_eq_false'] at hg))
              | refine st_nil ?_
              | refine st_dnil ?_
              | refine st_tN ?_
              | refine st_seq ?_
              | refine st_block ?_
              | refine st_skip ?_
              | refine st_exit ?_
              | refine st_ret ?_
              | refine st_tE ?_
              | refine st_tR ?_
              | refine st_bN ?_
              | refine st_bR ?_
              | refine st_bH ?_
              | refine st_bM rfl ?_)
          refine st_all1 (i := 2) (by decide +kernel) rfl rfl ?_
          repeat' (first
              | refine st_seq_reg rfl (by first | (simp only [go_sem, j5, j6]; rfl) | rfl) (by first | (simp only [go_sem, j5, j6]; rfl) | rfl) ?_
              | refine st_reg rfl (by first | (simp only [go_sem, j5, j6]; rfl) | rfl) (by first | (simp only [go_sem, j5, j6]; rfl) | rfl) ?_
              | refine st_seq_draw rfl (by first | (simp only [go_sem, j5, j6]; rfl) | rfl) (by first | (simp only [go_sem, j5, j6]; rfl) | rfl) ?_
              | refine st_draw rfl (by first | (simp only [go_sem, j5, j6]; rfl) | rfl) (by first | (simp only [go_sem, j5, j6]; rfl) | rfl) ?_
              | refine st_op ?_
              | refine st_det rfl (by simp (disch := omega) only [go_sem, wr_i64, if_yes, if_no, ↓reduceIte, Nat.reduceAdd, Nat.reduceMul, Nat.reduceEqDiff, Nat.reduceBEq, Nat.reduceLeDiff, j5, j6]; rfl) ?_
              | refine st_dop rfl ?_
              | refine st_loc rfl (by simp (disch := omega) only [go_sem, wr_i64, if_yes, if_no, ↓reduceIte, Nat.reduceAdd, Nat.reduceMul, Nat.reduceEqDiff, Nat.reduceBEq, Nat.reduceLeDiff, j5, j6]; rfl) ?_
              | refine st_heap rfl (by simp (disch := omega) only [go_sem, wr_i64, if_yes, if_no, ↓reduceIte, Nat.reduceAdd, Nat.reduceMul, Nat.reduceEqDiff, Nat.reduceBEq, Nat.reduceLeDiff, j5, j6]; rfl) ?_
              | refine st_store (by simp (disch := omega) only [go_sem, wr_i64, if_yes, if_no, ↓reduceIte, Nat.reduceAdd, Nat.reduceMul, Nat.reduceEqDiff, Nat.reduceBEq, Nat.reduceLeDiff, j5, j6]; rfl) ?_
              | refine st_append (by simp (disch := omega) only [go_sem, wr_i64, if_yes, if_no, ↓reduceIte, Nat.reduceAdd, Nat.reduceMul, Nat.reduceEqDiff, Nat.reduceBEq, Nat.reduceLeDiff, j5, j6]; rfl) ?_
              | refine st_gT rfl rfl rfl ?_
              | refine st_gF rfl rfl rfl ?_
              | refine st_dgT rfl rfl rfl rfl ?_
              | refine st_dgF rfl rfl rfl ?_
              | (refine st_gS rfl rfl ?_ ?_ <;> intro hg <;> (try simp only [decide_eq_true_eq, decide_eq_false_iff_not, Bool.not_eq_true', Bool.not_eq_false'] at hg))
              | (refine st_dgS rfl rfl ?_ ?_ <;> intro hg <;> (try simp only [decide_eq_true_eq, decide_eq_false_iff_not, Bool.not_eq_true', Bool.not_eq_false'] at hg))
              | refine st_condT rfl ?_
              | refine st_condF rfl ?_
              | (refine st_condS rfl ?_ ?_ <;> intro hg <;> (try simp only [decide_eq_true_eq, decide_eq_false_iff_not, Bool.not_eq_true', Bool.not_eq_false'] at hg))
              | refine st_nil ?_
              | refine st_dnil ?_
              | refine st_tN ?_
              | refine st_seq ?_
              | refine st_block ?_
              | refine st_skip ?_
              | refine st_exit ?_
              | refine st_ret ?_
              | refine st_tE ?_
              | refine st_tR ?_
              | refine st_bN ?_
              | refine st_bR ?_
              | refine st_bH ?_
              | refine st_bM rfl ?_)
          refine st_all1 (i := 3) (by decide +kernel) rfl rfl ?_
          repeat' (first
              | refine st_seq_reg rfl (by first | (simp only [go_sem, j5, j6]; rfl) | rfl) (by first | (simp only [go_sem, j5, j6]; rfl) | rfl) ?_
              | refine st_reg rfl (by first | (simp only [go_sem, j5, j6]; rfl) | rfl) (by first | (simp only [go_sem, j5, j6]; rfl) | rfl) ?_
              | refine st_seq_draw rfl (by first | (simp only [go_sem, j5, j6]; rfl) | rfl) (by first | (simp only [go_sem, j5, j6]; rfl) | rfl) ?_
              | refine st_draw rfl (by first | (simp only [go_sem, j5, j6]; rfl) | rfl) (by first | (simp only [go_sem, j5, j6]; rfl) | rfl) ?_
              | refine st_op ?_
              | refine st_det rfl (by simp (disch := omega) only [go_sem, wr_i64, if_yes, if_no, ↓reduceIte, Nat.reduceAdd, Nat.reduceMul, Nat.reduceEqDiff, Nat.reduceBEq, Nat.reduceLeDiff, j5, j6]; rfl) ?_
              | refine st_dop rfl ?_
              | refine st_loc rfl (by simp (disch := omega) only [go_sem, wr_i64, if_yes, if_no, ↓reduceIte, Nat.reduceAdd, Nat.reduceMul, Nat.reduceEqDiff, Nat.reduceBEq, Nat.reduceLeDiff, j5, j6]; rfl) ?_
              | refine st_heap rfl (by simp (disch := omega) only [go_sem, wr_i64, if_yes, if_no, ↓reduceIte, Nat.reduceAdd, Nat.reduceMul, Nat.reduceEqDiff, Nat.reduceBEq, Nat.reduceLeDiff, j5, j6]; rfl) ?_
              | refine st_store (by simp (disch := omega) only [go_sem, wr_i64, if_yes, if_no, ↓reduceIte, Nat.reduceAdd, Nat.reduceMul, Nat.reduceEqDiff, Nat.reduceBEq, Nat.reduceLeDiff, j5, j6]; rfl) ?_
              | refine st_append (by simp (disch := omega) only [go_sem, wr_i64, if_yes, if_no, ↓reduceIte, Nat.reduceAdd, Nat.reduceMul, Nat.reduceEqDiff, Nat.reduceBEq, Nat.reduceLeDiff, j5, j6]; rfl) ?_
              | refine st_gT rfl rfl rfl ?_
              | refine st_gF rfl rfl rfl ?_
              | refine st_dgT rfl rfl rfl rfl ?_
              | refine st_dgF rfl rfl rfl ?_
              | (refine st_gS rfl rfl ?_ ?_ <;> intro hg <;> (try simp only [decide_eq_true_eq, decide_eq_false_iff_not, Bool.not_eq_true', Bool.not_eq_false'] at hg))
              | (refine st_dgS rfl rfl ?_ ?_ <;> intro hg <;> (try simp only [decide_eq_true_eq, decide_eq_false_iff_not, Bool.not_eq_true', Bool.not_eq_false'] at hg))
              | refine st_condT rfl ?_
              | refine st_condF rfl ?_
              | (refine st_condS rfl ?_ ?_ <;> intro hg <;> (try simp only [decide_eq_true_eq, decide_eq_false_iff_not, Bool.not_eq_true', Bool.not_eq_false'] at hg))
              | refine st_nil ?_
              | refine st_dnil ?_
              | refine st_tN ?_
              | refine st_seq ?_
              | refine st_block ?_
              | refine st_skip ?_
              | refine st_exit ?_
              | refine st_ret ?_
              | refine st_tE ?_
              | refine st_tR ?_
              | refine st_bN ?_
              | refine st_bR ?_
              | refine st_bH ?_
              | refine st_bM rfl ?_)
          refine st_all1 (i := 4) (by decide +kernel) rfl rfl ?_
          repeat' (first
              | refine st_seq_reg rfl (by first | (simp only [go_sem, j5, j6]; rfl) | rfl) (by first | (simp only [go_sem, j5, j6]; rfl) | rfl) ?_
              | refine st_reg rfl (by first | (simp only [go_sem, j5, j6]; rfl) | rfl) (by first | (simp only [go_sem, j5, j6]; rfl) | rfl) ?_
              | refine st_seq_draw rfl (by first | (simp only [go_sem, j5, j6]; rfl) | rfl) (by first | (simp only [go_sem, j5, j6]; rfl) | rfl) ?_
              | refine st_draw rfl (by first | (simp only [go_sem, j5, j6]; rfl) | rfl) (by first | (simp only [go_sem, j5, j6]; rfl) | rfl) ?_
              | refine st_op ?_
              | refine st_det rfl (by simp (disch := omega) only [go_sem, wr_i64, if_yes, if_no, ↓reduceIte, Nat.reduceAdd, Nat.reduceMul, Nat.reduceEqDiff, Nat.reduceBEq, Nat.reduceLeDiff, j5, j6]; rfl) ?_
              | refine st_dop rfl ?_
              | refine st_loc rfl (by simp (disch := omega) only [go_sem, wr_i64, if_yes, if_no, ↓reduceIte, Nat.reduceAdd, Nat.reduceMul, Nat.reduceEqDiff, Nat.reduceBEq, Nat.reduceLeDiff, j5, j6]; rfl) ?_
              | refine st_heap rfl (by simp (disch := omega) only [go_sem, wr_i64, if_yes, if_no, ↓reduceIte, Nat.reduceAdd, Nat.reduceMul, Nat.reduceEqDiff, Nat.reduceBEq, Nat.reduceLeDiff, j5, j6]; rfl) ?_
              | refine st_store (by simp (disch := omega) only [go_sem, wr_i64, if_yes, if_no, ↓reduceIte, Nat.reduceAdd, Nat.reduceMul, Nat.reduceEqDiff, Nat.reduceBEq, Nat.reduceLeDiff, j5, j6]; rfl) ?_
              | refine st_append (by simp (disch := omega) only [go_sem, wr_i64, if_yes, if_no, ↓reduceIte, Nat.reduceAdd, Nat.reduceMul, Nat.reduceEqDiff, Nat.reduceBEq, Nat.reduceLeDiff, j5, j6]; rfl) ?_
              | refine st_gT rfl rfl rfl ?_
              | refine st_gF rfl rfl rfl ?_
              | refine st_dgT rfl rfl rfl rfl ?_
              | refine st_dgF rfl rfl rfl ?_
              | (refine st_gS rfl rfl ?_ ?_ <;> intro hg <;> (try simp only [decide_eq_true_eq, decide_eq_false_iff_not, Bool.not_eq_true', Bool.not_eq_false'] at hg))
              | (refine st_dgS rfl rfl ?_ ?_ <;> intro hg <;> (try simp only [decide_eq_true_eq, decide_eq_false_iff_not, Bool.not_eq_true', Bool.not_eq_false'] at hg))
              | refine st_condT rfl ?_
              | refine st_condF rfl ?_
              | (refine st_condS rfl ?_ ?_ <;> intro hg <;> (try simp only [decide_eq_true_eq, decide_eq_false_iff_not, Bool.not_eq_true', Bool.not_eq_false'] at hg))
              | refine st_nil ?_
              | refine st_dnil ?_
              | refine st_tN ?_
              | refine st_seq ?_
              | refine st_block ?_
              | refine st_skip ?_
              | refine st_exit ?_
              | refine st_ret ?_
              | refine st_tE ?_
              | refine st_tR ?_
              | refine st_bN ?_
              | refine st_bR ?_
              | refine st_bH ?_
              | refine st_bM rfl ?_)
          refine st_allZ (by decide +kernel) ?_
          refine asem_awp (fi := ⟨64, [11, 13], [2, 3, 20, 52], none, [(18, [0, 0, 1, 7, 15], [(0, true), (1, true), (2, false), (3, false), (4, false)])]⟩) tab mixed (by decide) ?_
          repeat' (first
              | refine st_seq_reg rfl (by first | (simp only [go_sem, j5, j6]; rfl) | rfl) (by first | (simp only [go_sem, j5, j6]; rfl) | rfl) ?_
              | refine st_reg rfl (by first | (simp only [go_sem, j5, j6]; rfl) | rfl) (by first | (simp only [go_sem, j5, j6]; rfl) | rfl) ?_
              | refine st_seq_draw rfl (by first | (simp only [go_sem, j5, j6]; rfl) | rfl) (by first | (simp only [go_sem, j5, j6]; rfl) | rfl) ?_
              | refine st_draw rfl (by first | (simp only [go_sem, j5, j6]; rfl) | rfl) (by first | (simp only [go_sem, j5, j6]; rfl) | rfl) ?_
              | refine st_op ?_
              | refine st_det rfl (by simp (disch := omega) only [go_sem, wr_i64, if_yes, if_no, ↓reduceIte, Nat.reduceAdd, Nat.reduceMul, Nat.reduceEqDiff, Nat.reduceBEq, Nat.reduceLeDiff, j5, j6]; rfl) ?_
              | refine st_dop rfl ?_
              | refine st_loc rfl (by simp (disch := omega) only [go_sem, wr_i64, if_yes, if_no, ↓reduceIte, Nat.reduceAdd, Nat.reduceMul, Nat.reduceEqDiff, Nat.reduceBEq, Nat.reduceLeDiff, j5, j6]; rfl) ?_
              | refine st_heap rfl (by simp (disch := omega) only [go_sem, wr_i64, if_yes, if_no, ↓reduceIte, Nat.reduceAdd, Nat.reduceMul, Nat.reduceEqDiff, Nat.reduceBEq, Nat.reduceLeDiff, j5, j6]; rfl) ?_
              | refine st_store (by simp (disch := omega) only [go_sem, wr_i64, if_yes, if_no, ↓reduceIte, Nat.reduceAdd, Nat.reduceMul, Nat.reduceEqDiff, Nat.reduceBEq, Nat.reduceLeDiff, j5, j6]; rfl) ?_
              | refine st_append (by simp (disch := omega) only [go_sem, wr_i64, if_yes, if_no, ↓reduceIte, Nat.reduceAdd, Nat.reduceMul, Nat.reduceEqDiff, Nat.reduceBEq, Nat.reduceLeDiff, j5, j6]; rfl) ?_
              | refine st_gT rfl rfl rfl ?_
              | refine st_gF rfl rfl rfl ?_
              | refine st_dgT rfl rfl rfl rfl ?_
              | refine st_dgF rfl rfl rfl ?_
              | (refine st_gS rfl rfl ?_ ?_ <;> intro hg <;> (try simp only [decide_eq_true_eq, decide_eq_false_iff_not, Bool.not_eq_true', Bool.not_eq_false'] at hg))
              | (refine st_dgS rfl rfl ?_ ?_ <;> intro hg <;> (try simp only [decide_eq_true_eq, decide_eq_false_iff_not, Bool.not_eq_true', Bool.not_eq_false'] at hg))
              | refine st_condT rfl ?_
              | refine st_condF rfl ?_
              | (refine st_condS rfl ?_ ?_ <;> intro hg <;> (try simp only [decide_eq_true_eq, decide_eq_false_iff_not, Bool.not_eq_true', Bool.not_eq_false'] at hg))
              | refine st_nil ?_
              | refine st_dnil ?_
              | refine st_tN ?_
              | refine st_seq ?_
              | refine st_block ?_
              | refine st_skip ?_
              | refine st_exit ?_
              | refine st_ret ?_
              | refine st_tE ?_
              | refine st_tR ?_
              | refine st_bN ?_
              | refine st_bR ?_
              | refine st_bH ?_
              | refine st_bM rfl ?_)
          simp (disch := omega) only [AEnd, Try.results66, aresK, fin, go_sem, ↓reduceIte, Nat.reduceEqDiff, Nat.reduceAdd, Nat.reduceLeDiff, if_yes, if_no, implies_true, true_and, and_true, List.reverse_cons, List.reverse_nil]
          refine ⟨fun b' hb' => ?_, ?_, .inl ⟨.tup [.lst 2 [], .int .i64 (powUp f.loads f.loads.length - lampUp f.loads f.loads.length), .int .i64 0], VLe.tup (by simp only [VLes]; exact ⟨_, _, rfl, VLe.nils 2, _, _, rfl, VLe.refl _, _, _, rfl, VLe.refl _, rfl⟩), by rw [hvL, hv _ rfl, hE, e0]; rfl⟩⟩
          · rw [if_neg (hne5 b' hb'), if_neg (hne4 b' hb')]; exact j3 b' hb'
          · exact hlpE
      · have hb4 : ¬ ((h.clk, 4) : Nat × Nat) = bs := fun e => by rw [← e] at k1; exact absurd k1 (Nat.lt_irrefl _)
        have hb5 : ¬ ((h.clk, 5) : Nat × Nat) = bs := fun e => by rw [← e] at k1; exact absurd k1 (Nat.lt_irrefl _)
        have hb4' : ¬ bs = ((h.clk, 4) : Nat × Nat) := fun e => hb4 e.symm
        have hb5' : ¬ bs = ((h.clk, 5) : Nat × Nat) := fun e => hb5 e.symm
        refine asem_seqAll (fi := ⟨64, [11, 13], [2, 3, 20, 52], none, [(18, [0, 0, 1, 7, 15], [(0, true), (1, true), (2, false), (3, false), (4, false)])]⟩) tab mixed (by decide) ?_
        refine st_all2 (i := 0) (j := 1) (by decide +kernel) rfl rfl rfl rfl ?_ ?_
        · repeat' (first
              | refine st_seq_reg rfl (by first | (simp only [go_sem, j5, k3, hb4, hb4', hb5, hb5']; rfl) | rfl) (by first | (simp only [go_sem, j5, k3, hb4, hb4', hb5, hb5']; rfl) | rfl) ?_
              | refine st_reg rfl (by first | (simp only [go_sem, j5, k3, hb4, hb4', hb5, hb5']; rfl) | rfl) (by first | (simp only [go_sem, j5, k3, hb4, hb4', hb5, hb5']; rfl) | rfl) ?_
              | refine st_seq_draw rfl (by first | (simp only [go_sem, j5, k3, hb4, hb4', hb5, hb5']; rfl) | rfl) (by first | (simp only [go_sem, j5, k3, hb4, hb4', hb5, hb5']; rfl) | rfl) ?_
              | refine st_draw rfl (by first | (simp only [go_sem, j5, k3, hb4, hb4', hb5, hb5']; rfl) | rfl) (by first | (simp only [go_sem, j5, k3, hb4, hb4', hb5, hb5']; rfl) | rfl) ?_
              | refine st_op ?_
              | refine st_det rfl (by simp (disch := omega) only [go_sem, wr_i64, if_yes, if_no, ↓reduceIte, Nat.reduceAdd, Nat.reduceMul, Nat.reduceEqDiff, Nat.reduceBEq, Nat.reduceLeDiff, j5, k3, hb4, hb4', hb5, hb5']; rfl) ?_
              | refine st_dop rfl ?_
              | refine st_loc rfl (by simp (disch := omega) only [go_sem, wr_i64, if_yes, if_no, ↓reduceIte, Nat.reduceAdd, Nat.reduceMul, Nat.reduceEqDiff, Nat.reduceBEq, Nat.reduceLeDiff, j5, k3, hb4, hb4', hb5, hb5']; rfl) ?_
              | refine st_heap rfl (by simp (disch := omega) only [go_sem, wr_i64, if_yes, if_no, ↓reduceIte, Nat.reduceAdd, Nat.reduceMul, Nat.reduceEqDiff, Nat.reduceBEq, Nat.reduceLeDiff, j5, k3, hb4, hb4', hb5, hb5']; rfl) ?_
              | refine st_store (by simp (disch := omega) only [go_sem, wr_i64, if_yes, if_no, ↓reduceIte, Nat.reduceAdd, Nat.reduceMul, Nat.reduceEqDiff, Nat.reduceBEq, Nat.reduceLeDiff, j5, k3, hb4, hb4', hb5, hb5']; rfl) ?_
              | refine st_append (by simp (disch := omega) only [go_sem, wr_i64, if_yes, if_no, ↓reduceIte, Nat.reduceAdd, Nat.reduceMul, Nat.reduceEqDiff, Nat.reduceBEq, Nat.reduceLeDiff, j5, k3, hb4, hb4', hb5, hb5']; rfl) ?_
              | refine st_gT rfl rfl rfl ?_
              | refine st_gF rfl rfl rfl ?_
              | refine st_dgT rfl rfl rfl rfl ?_
              | refine st_dgF rfl rfl rfl ?_
              | (refine st_gS rfl rfl ?_ ?_ <;> intro hg <;> (try simp only [decide_eq_true_eq, decide_eq_false_iff_not, Bool.not_eq_true', Bool.not_eq_false'] at hg))
              | (refine st_dgS rfl rfl ?_ ?_ <;> intro hg <;> (try simp only [decide_eq_true_eq, decide_eq_false_iff_not, Bool.not_eq_true', Bool.not_eq_false'] at hg))
              | refine st_condT rfl ?_
              | refine st_condF rfl ?_
              | (refine st_condS rfl ?_ ?_ <;> intro hg <;> (try simp only [decide_eq_true_eq, decide_eq_false_iff_not, Bool.not_eq_true', Bool.not_eq_false'] at hg))
              | refine st_nil ?_
              | refine st_dnil ?_
              | refine st_tN ?_
              | refine st_seq ?_
              | refine st_block ?_
              | refine st_skip ?_
              | refine st_exit ?_
              | refine st_ret ?_
              | refine st_tE ?_
              | refine st_tR ?_
              | refine st_bN ?_
              | refine st_bR ?_
              | refine st_bH ?_
              | refine st_bM rfl ?_)
          refine st_all2 (i := 1) (j := 2) (by decide +kernel) rfl rfl rfl rfl ?_ ?_
          · repeat' (first
                | refine st_seq_reg rfl (by first | (simp only [go_sem, j5, k3, hb4, hb4', hb5, hb5']; rfl) | rfl) (by first | (simp only [go_sem, j5, k3, hb4, hb4', hb5, hb5']; rfl) | rfl) ?_
                | refine st_reg rfl (by first | (simp only [go_sem, j5, k3, hb4, hb4', hb5, hb5']; rfl) | rfl) (by first | (simp only [go_sem, j5, k3, hb4, hb4', hb5, hb5']; rfl) | rfl) ?_
                | refine st_seq_draw rfl (by first | (simp only [go_sem, j5, k3, hb4, hb4', hb5, hb5']; rfl) | rfl) (by first | (simp only [go_sem, j5, k3, hb4, hb4', hb5, hb5']; rfl) | rfl) ?_
                | refine st_draw rfl (by first | (simp only [go_sem, j5, k3, hb4, hb4', hb5, hb5']; rfl) | rfl) (by first | (simp only [go_sem, j5, k3, hb4, hb4', hb5, hb5']; rfl) | rfl) ?_
                | refine st_op ?_
                | refine st_det rfl (by simp (disch := omega) only [go_sem, wr_i64, if_yes, if_no, ↓reduceIte, Nat.reduceAdd, Nat.reduceMul, Nat.reduceEqDiff, Nat.reduceBEq, Nat.reduceLeDiff, j5, k3, hb4, hb4', hb5, hb5']; rfl) ?_
                | refine st_dop rfl ?_
                | refine st_loc rfl (by simp (disch := omega) only [go_sem, wr_i64, if_yes, if_no, ↓reduceIte, Nat.reduceAdd, Nat.reduceMul, Nat.reduceEqDiff, Nat.reduceBEq, Nat.reduceLeDiff, j5, k3, hb4, hb4', hb5, hb5']; rfl) ?_
                | refine st_heap rfl (by simp (disch := omega) only [go_sem, wr_i64, if_yes, if_no, ↓reduceIte, Nat.reduceAdd, Nat.reduceMul, Nat.reduceEqDiff, Nat.reduceBEq, Nat.reduceLeDiff, j5, k3, hb4, hb4', hb5, hb5']; rfl) ?_
                | refine st_store (by simp (disch := omega) only [go_sem, wr_i64, if_yes, if_no, ↓reduceIte, Nat.reduceAdd, Nat.reduceMul, Nat.reduceEqDiff, Nat.reduceBEq, Nat.reduceLeDiff, j5, k3, hb4, hb4', hb5, hb5']; rfl) ?_
                | refine st_append (by simp (disch := omega) only [go_sem, wr_i64, if_yes, if_no, ↓reduceIte, Nat.reduceAdd, Nat.reduceMul, Nat.reduceEqDiff, Nat.reduceBEq, Nat.reduceLeDiff, j5, k3, hb4, hb4', hb5, hb5']; rfl) ?_
                | refine st_gT rfl rfl rfl ?_
                | refine st_gF rfl rfl rfl ?_
                | refine st_dgT rfl rfl rfl rfl ?_
                | refine st_dgF rfl rfl rfl ?_
                | (refine st_gS rfl rfl ?_ ?_ <;> intro hg <;> (try simp only [decide_eq_true_eq, decide_eq_false_iff_not, Bool.not_eq_true', Bool.not_eq_false'] at hg))
                | (refine st_dgS rfl rfl ?_ ?_ <;> intro hg <;> (try simp only [decide_eq_true_eq, decide_eq_false_iff_not, Bool.not_eq_true', Bool.not_eq_false'] at hg))
                | refine st_condT rfl ?_
                | refine st_condF rfl ?_
                | (refine st_condS rfl ?_ ?_ <;> intro hg <;> (try simp only [decide_eq_true_eq, decide_eq_false_iff_not, Bool.not_eq_true', Bool.not_eq_false'] at hg))
                | refine st_nil ?_
                | refine st_dnil ?_
                | refine st_tN ?_
                | refine st_seq ?_
                | refine st_block ?_
                | refine st_skip ?_
                | refine st_exit ?_
                | refine st_ret ?_
                | refine st_tE ?_
                | refine st_tR ?_
                | refine st_bN ?_
                | refine st_bR ?_
                | refine st_bH ?_
                | refine st_bM rfl ?_)
            refine st_all1 (i := 2) (by decide +kernel) rfl rfl ?_
            repeat' (first
                | refine st_seq_reg rfl (by first | (simp only [go_sem, j5, k3, hb4, hb4', hb5, hb5']; rfl) | rfl) (by first | (simp only [go_sem, j5, k3, hb4, hb4', hb5, hb5']; rfl) | rfl) ?_
                | refine st_reg rfl (by first | (simp only [go_sem, j5, k3, hb4, hb4', hb5, hb5']; rfl) | rfl) (by first | (simp only [go_sem, j5, k3, hb4, hb4', hb5, hb5']; rfl) | rfl) ?_
                | refine st_seq_draw rfl (by first | (simp only [go_sem, j5, k3, hb4, hb4', hb5, hb5']; rfl) | rfl) (by first | (simp only [go_sem, j5, k3, hb4, hb4', hb5, hb5']; rfl) | rfl) ?_
                | refine st_draw rfl (by first | (simp only [go_sem, j5, k3, hb4, hb4', hb5, hb5']; rfl) | rfl) (by first | (simp only [go_sem, j5, k3, hb4, hb4', hb5, hb5']; rfl) | rfl) ?_
                | refine st_op ?_
                | refine st_det rfl (by simp (disch := omega) only [go_sem, wr_i64, if_yes, if_no, ↓reduceIte, Nat.reduceAdd, Nat.reduceMul, Nat.reduceEqDiff, Nat.reduceBEq, Nat.reduceLeDiff, j5, k3, hb4, hb4', hb5, hb5']; rfl) ?_
                | refine st_dop rfl ?_
                | refine st_loc rfl (by simp (disch := omega) only [go_sem, wr_i64, if_yes, if_no, ↓reduceIte, Nat.reduceAdd, Nat.reduceMul, Nat.reduceEqDiff, Nat.reduceBEq, Nat.reduceLeDiff, j5, k3, hb4, hb4', hb5, hb5']; rfl) ?_
                | refine st_heap rfl (by simp (disch := omega) only [go_sem, wr_i64, if_yes, if_no, ↓reduceIte, Nat.reduceAdd, Nat.reduceMul, Nat.reduceEqDiff, Nat.reduceBEq, Nat.reduceLeDiff, j5, k3, hb4, hb4', hb5, hb5']; rfl) ?_
                | refine st_store (by simp (disch := omega) only [go_sem, wr_i64, if_yes, if_no, ↓reduceIte, Nat.reduceAdd, Nat.reduceMul, Nat.reduceEqDiff, Nat.reduceBEq, Nat.reduceLeDiff, j5, k3, hb4, hb4', hb5, hb5']; rfl) ?_
                | refine st_append (by simp (disch := omega) only [go_sem, wr_i64, if_yes, if_no, ↓reduceIte, Nat.reduceAdd, Nat.reduceMul, Nat.reduceEqDiff, Nat.reduceBEq, Nat.reduceLeDiff, j5, k3, hb4, hb4', hb5, hb5']; rfl) ?_
                | refine st_gT rfl rfl rfl ?_
                | refine st_gF rfl rfl rfl ?_
                | refine st_dgT rfl rfl rfl rfl ?_
                | refine st_dgF rfl rfl rfl ?_
                | (refine st_gS rfl rfl ?_ ?_ <;> intro hg <;> (try simp only [decide_eq_true_eq, decide_eq_false_iff_not, Bool.not_eq_true', Bool.not_eq_false'] at hg))
                | (refine st_dgS rfl rfl ?_ ?_ <;> intro hg <;> (try simp only [decide_eq_true_eq, decide_eq_false_iff_not, Bool.not_eq_true', Bool.not_eq_false'] at hg))
                | refine st_condT rfl ?_
                | refine st_condF rfl ?_
                | (refine st_condS rfl ?_ ?_ <;> intro hg <;> (try simp only [decide_eq_true_eq, decide_eq_false_iff_not, Bool.not_eq_true', Bool.not_eq_false'] at hg))
                | refine st_nil ?_
                | refine st_dnil ?_
                | refine st_tN ?_
                | refine st_seq ?_
                | refine st_block ?_
                | refine st_skip ?_
                | refine st_exit ?_
                | refine st_ret ?_
                | refine st_tE ?_
                | refine st_tR ?_
                | refine st_bN ?_
                | refine st_bR ?_
                | refine st_bH ?_
                | refine st_bM rfl ?_)
            refine st_all1 (i := 3) (by decide +kernel) rfl rfl ?_
            repeat' (first
                | refine st_seq_reg rfl (by first | (simp only [go_sem, j5, k3, hb4, hb4', hb5, hb5']; rfl) | rfl) (by first | (simp only [go_sem, j5, k3, hb4, hb4', hb5, hb5']; rfl) | rfl) ?_
                | refine st_reg rfl (by first | (simp only [go_sem, j5, k3, hb4, hb4', hb5, hb5']; rfl) | rfl) (by first | (simp only [go_sem, j5, k3, hb4, hb4', hb5, hb5']; rfl) | rfl) ?_
                | refine st_seq_draw rfl (by first | (simp only [go_sem, j5, k3, hb4, hb4', hb5, hb5']; rfl) | rfl) (by first | (simp only [go_sem, j5, k3, hb4, hb4', hb5, hb5']; rfl) | rfl) ?_
                | refine st_draw rfl (by first | (simp only [go_sem, j5, k3, hb4, hb4', hb5, hb5']; rfl) | rfl) (by first | (simp only [go_sem, j5, k3, hb4, hb4', hb5, hb5']; rfl) | rfl) ?_
                | refine st_op ?_
                | refine st_det rfl (by simp (disch := omega) only [go_sem, wr_i64, if_yes, if_no, ↓reduceIte, Nat.reduceAdd, Nat.reduceMul, Nat.reduceEqDiff, Nat.reduceBEq, Nat.reduceLeDiff, j5, k3, hb4, hb4', hb5, hb5']; rfl) ?_
                | refine st_dop rfl ?_
                | refine st_loc rfl (by simp (disch := omega) only [go_sem, wr_i64, if_yes, if_no, ↓reduceIte, Nat.reduceAdd, Nat.reduceMul, Nat.reduceEqDiff, Nat.reduceBEq, Nat.reduceLeDiff, j5, k3, hb4, hb4', hb5, hb5']; rfl) ?_
                | refine st_heap rfl (by simp (disch := omega) only [go_sem, wr_i64, if_yes, if_no, ↓reduceIte, Nat.reduceAdd, Nat.reduceMul, Nat.reduceEqDiff, Nat.reduceBEq, Nat.reduceLeDiff, j5, k3, hb4, hb4', hb5, hb5']; rfl) ?_
                | refine st_store (by simp (disch := omega) only [go_sem, wr_i64, if_yes, if_no, ↓reduceIte, Nat.reduceAdd, Nat.reduceMul, Nat.reduceEqDiff, Nat.reduceBEq, Nat.reduceLeDiff, j5, k3, hb4, hb4', hb5, hb5']; rfl) ?_
                | refine st_append (by simp (disch := omega) only [go_sem, wr_i64, if_yes, if_no, ↓reduceIte, Nat.reduceAdd, Nat.reduceMul, Nat.reduceEqDiff, Nat.reduceBEq, Nat.reduceLeDiff, j5, k3, hb4, hb4', hb5, hb5']; rfl) ?_
                | refine st_gT rfl rfl rfl ?_
                | refine st_gF rfl rfl rfl ?_
                | refine st_dgT rfl rfl rfl rfl ?_
                | refine st_dgF rfl rfl rfl ?_
                | (refine st_gS rfl rfl ?_ ?_ <;> intro hg <;> (try simp only [decide_eq_true_eq, decide_eq_false_iff_not, Bool.not_eq_true', Bool.not_eq_false'] at hg))
                | (refine st_dgS rfl rfl ?_ ?_ <;> intro hg <;> (try simp only [decide_eq_true_eq, decide_eq_false_iff_not, Bool.not_eq_true', Bool.not_eq_false'] at hg))
                | refine st_condT rfl ?_
                | refine st_condF rfl ?_
                | (refine st_condS rfl ?_ ?_ <;> intro hg <;> (try simp only [decide_eq_true_eq, decide_eq_false_iff_not, Bool.not_eq_true', Bool.not_eq_false'] at hg))
                | refine st_nil ?_
                | refine st_dnil ?_
                | refine st_tN ?_
                | refine st_seq ?_
                | refine st_block ?_
                | refine st_skip ?_
                | refine st_exit ?_
                | refine st_ret ?_
                | refine st_tE ?_
                | refine st_tR ?_
                | refine st_bN ?_
                | refine st_bR ?_
                | refine st_bH ?_
                | refine st_bM rfl ?_)
            refine st_all1 (i := 4) (by decide +kernel) rfl rfl ?_
            repeat' (first
                | refine st_seq_reg rfl (by first | (simp only [go_sem, j5, k3, hb4, hb4', hb5, hb5']; rfl) | rfl) (by first | (simp only [go_sem, j5, k3, hb4, hb4', hb5, hb5']; rfl) | rfl) ?_
                | refine st_reg rfl (by first | (simp only [go_sem, j5, k3, hb4, hb4', hb5, hb5']; rfl) | rfl) (by first | (simp only [go_sem, j5, k3, hb4, hb4', hb5, hb5']; rfl) | rfl) ?_
                | refine st_seq_draw rfl (by first | (simp only [go_sem, j5, k3, hb4, hb4', hb5, hb5']; rfl) | rfl) (by first | (simp only [go_sem, j5, k3, hb4, hb4', hb5, hb5']; rfl) | rfl) ?_
                | refine st_draw rfl (by first | (simp only [go_sem, j5, k3, hb4, hb4', hb5, hb5']; rfl) | rfl) (by first | (simp only [go_sem, j5, k3, hb4, hb4', hb5, hb5']; rfl) | rfl) ?_
                | refine st_op ?_
                | refine st_det rfl (by simp (disch := omega) only [go_sem, wr_i64, if_yes, if_no, ↓reduceIte, Nat.reduceAdd, Nat.reduceMul, Nat.reduceEqDiff, Nat.reduceBEq, Nat.reduceLeDiff, j5, k3, hb4, hb4', hb5, hb5']; rfl) ?_
                | refine st_dop rfl ?_
                | refine st_loc rfl (by simp (disch := omega) only [go_sem, wr_i64, if_yes, if_no, ↓reduceIte, Nat.reduceAdd, Nat.reduceMul, Nat.reduceEqDiff, Nat.reduceBEq, Nat.reduceLeDiff, j5, k3, hb4, hb4', hb5, hb5']; rfl) ?_
                | refine st_heap rfl (by simp (disch := omega) only [go_sem, wr_i64, if_yes, if_no, ↓reduceIte, Nat.reduceAdd, Nat.reduceMul, Nat.reduceEqDiff, Nat.reduceBEq, Nat.reduceLeDiff, j5, k3, hb4, hb4', hb5, hb5']; rfl) ?_
                | refine st_store (by simp (disch := omega) only [go_sem, wr_i64, if_yes, if_no, ↓reduceIte, Nat.reduceAdd, Nat.reduceMul, Nat.reduceEqDiff, Nat.reduceBEq, Nat.reduceLeDiff, j5, k3, hb4, hb4', hb5, hb5']; rfl) ?_
                | refine st_append (by simp (disch := omega) only [go_sem, wr_i64, if_yes, if_no, ↓reduceIte, Nat.reduceAdd, Nat.reduceMul, Nat.reduceEqDiff, Nat.reduceBEq, Nat.reduceLeDiff, j5, k3, hb4, hb4', hb5, hb5']; rfl) ?_
                | refine st_gT rfl rfl rfl ?_
                | refine st_gF rfl rfl rfl ?_
                | refine st_dgT rfl rfl rfl rfl ?_
                | refine st_dgF rfl rfl rfl ?_
                | (refine st_gS rfl rfl ?_ ?_ <;> intro hg <;> (try simp only [decide_eq_true_eq, decide_eq_false_iff_not, Bool.not_eq_true', Bool.not_eq_false'] at hg))
                | (refine st_dgS rfl rfl ?_ ?_ <;> intro hg <;> (try simp only [decide_eq_true_eq, decide_eq_false_iff_not, Bool.not_eq_true', Bool.not_eq_false'] at hg))
                | refine st_condT rfl ?_
                | refine st_condF rfl ?_
                | (refine st_condS rfl ?_ ?_ <;> intro hg <;> (try simp only [decide_eq_true_eq, decide_eq_false_iff_not, Bool.not_eq_true', Bool.not_eq_false'] at hg))
                | refine st_nil ?_
                | refine st_dnil ?_
                | refine st_tN ?_
                | refine st_seq ?_
                | refine st_block ?_
                | refine st_skip ?_
                | refine st_exit ?_
                | refine st_ret ?_
                | refine st_tE ?_
                | refine st_tR ?_
                | refine st_bN ?_
                | refine st_bR ?_
                | refine st_bH ?_
                | refine st_bM rfl ?_)
            refine st_allZ (by decide +kernel) ?_
            refine asem_awp (fi := ⟨64, [11, 13], [2, 3, 20, 52], none, [(18, [0, 0, 1, 7, 15], [(0, true), (1, true), (2, false), (3, false), (4, false)])]⟩) tab mixed (by decide) ?_
            repeat' (first
                | refine st_seq_reg rfl (by first | (simp only [go_sem, j5, k3, hb4, hb4', hb5, hb5']; rfl) | rfl) (by first | (simp only [go_sem, j5, k3, hb4, hb4', hb5, hb5']; rfl) | rfl) ?_
                | refine st_reg rfl (by first | (simp only [go_sem, j5, k3, hb4, hb4', hb5, hb5']; rfl) | rfl) (by first | (simp only [go_sem, j5, k3, hb4, hb4', hb5, hb5']; rfl) | rfl) ?_
                | refine st_seq_draw rfl (by first | (simp only [go_sem, j5, k3, hb4, hb4', hb5, hb5']; rfl) | rfl) (by first | (simp only [go_sem, j5, k3, hb4, hb4', hb5, hb5']; rfl) | rfl) ?_
                | refine st_draw rfl (by first | (simp only [go_sem, j5, k3, hb4, hb4', hb5, hb5']; rfl) | rfl) (by first | (simp only [go_sem, j5, k3, hb4, hb4', hb5, hb5']; rfl) | rfl) ?_
                | refine st_op ?_
                | refine st_det rfl (by simp (disch := omega) only [go_sem, wr_i64, if_yes, if_no, ↓reduceIte, Nat.reduceAdd, Nat.reduceMul, Nat.reduceEqDiff, Nat.reduceBEq, Nat.reduceLeDiff, j5, k3, hb4, hb4', hb5, hb5']; rfl) ?_
                | refine st_dop rfl ?_
                | refine st_loc rfl (by simp (disch := omega) only [go_sem, wr_i64, if_yes, if_no, ↓reduceIte, Nat.reduceAdd, Nat.reduceMul, Nat.reduceEqDiff, Nat.reduceBEq, Nat.reduceLeDiff, j5, k3, hb4, hb4', hb5, hb5']; rfl) ?_
                | refine st_heap rfl (by simp (disch := omega) only [go_sem, wr_i64, if_yes, if_no, ↓reduceIte, Nat.reduceAdd, Nat.reduceMul, Nat.reduceEqDiff, Nat.reduceBEq, Nat.reduceLeDiff, j5, k3, hb4, hb4', hb5, hb5']; rfl) ?_
                | refine st_store (by simp (disch := omega) only [go_sem, wr_i64, if_yes, if_no, ↓reduceIte, Nat.reduceAdd, Nat.reduceMul, Nat.reduceEqDiff, Nat.reduceBEq, Nat.reduceLeDiff, j5, k3, hb4, hb4', hb5, hb5']; rfl) ?_
                | refine st_append (by simp (disch := omega) only [go_sem, wr_i64, if_yes, if_no, ↓reduceIte, Nat.reduceAdd, Nat.reduceMul, Nat.reduceEqDiff, Nat.reduceBEq, Nat.reduceLeDiff, j5, k3, hb4, hb4', hb5, hb5']; rfl) ?_
                | refine st_gT rfl rfl rfl ?_
                | refine st_gF rfl rfl rfl ?_
                | refine st_dgT rfl rfl rfl rfl ?_
                | refine st_dgF rfl rfl rfl ?_
                | (refine st_gS rfl rfl ?_ ?_ <;> intro hg <;> (try simp only [decide_eq_true_eq, decide_eq_false_iff_not, Bool.not_eq_true', Bool.not_eq_false'] at hg))
                | (refine st_dgS rfl rfl ?_ ?_ <;> intro hg <;> (try simp only [decide_eq_true_eq, decide_eq_false_iff_not, Bool.not_eq_true', Bool.not_eq_false'] at hg))
                | refine st_condT rfl ?_
                | refine st_condF rfl ?_
                | (refine st_condS rfl ?_ ?_ <;> intro hg <;> (try simp only [decide_eq_true_eq, decide_eq_false_iff_not, Bool.not_eq_true', Bool.not_eq_false'] at hg))
                | refine st_nil ?_
                | refine st_dnil ?_
                | refine st_tN ?_
                | refine st_seq ?_
                | refine st_block ?_
                | refine st_skip ?_
                | refine st_exit ?_
                | refine st_ret ?_
                | refine st_tE ?_
                | refine st_tR ?_
                | refine st_bN ?_
                | refine st_bR ?_
                | refine st_bH ?_
                | refine st_bM rfl ?_)
            simp (disch := omega) only [AEnd, Try.results66, aresK, fin, go_sem, ↓reduceIte, Nat.reduceEqDiff, Nat.reduceAdd, Nat.reduceLeDiff, if_yes, if_no, implies_true, true_and, and_true, List.reverse_cons, List.reverse_nil]
            refine ⟨fun b' hb' => ?_, ?_, .inr ⟨bs, ⟨2, L.map nr⟩, by omega, ?_, ?_⟩⟩
            · rw [if_neg (hne5 b' hb'), if_neg (hne4 b' hb')]; exact j3 b' hb'
            · exact hlpE
            · rw [if_neg hb5', if_neg hb4']; exact k4
            · rw [hvL, hv _ rfl, hE]; simp [frz, frzs, List.take_of_length_le]
          · repeat' (first
                | refine st_seq_reg rfl (by first | (simp only [go_sem, j5, k3, hb4, hb4', hb5, hb5']; rfl) | rfl) (by first | (simp only [go_sem, j5, k3, hb4, hb4', hb5, hb5']; rfl) | rfl) ?_
                | refine st_reg rfl (by first | (simp only [go_sem, j5, k3, hb4, hb4', hb5, hb5']; rfl) | rfl) (by first | (simp only [go_sem, j5, k3, hb4, hb4', hb5, hb5']; rfl) | rfl) ?_
                | refine st_seq_draw rfl (by first | (simp only [go_sem, j5, k3, hb4, hb4', hb5, hb5']; rfl) | rfl) (by first | (simp only [go_sem, j5, k3, hb4, hb4', hb5, hb5']; rfl) | rfl) ?_
                | refine st_draw rfl (by first | (simp only [go_sem, j5, k3, hb4, hb4', hb5, hb5']; rfl) | rfl) (by first | (simp only [go_sem, j5, k3, hb4, hb4', hb5, hb5']; rfl) | rfl) ?_
                | refine st_op ?_
                | refine st_det rfl (by simp (disch := omega) only [go_sem, wr_i64, if_yes, if_no, ↓reduceIte, Nat.reduceAdd, Nat.reduceMul, Nat.reduceEqDiff, Nat.reduceBEq, Nat.reduceLeDiff, j5, k3, hb4, hb4', hb5, hb5']; rfl) ?_
                | refine st_dop rfl ?_
                | refine st_loc rfl (by simp (disch := omega) only [go_sem, wr_i64, if_yes, if_no, ↓reduceIte, Nat.reduceAdd, Nat.reduceMul, Nat.reduceEqDiff, Nat.reduceBEq, Nat.reduceLeDiff, j5, k3, hb4, hb4', hb5, hb5']; rfl) ?_
                | refine st_heap rfl (by simp (disch := omega) only [go_sem, wr_i64, if_yes, if_no, ↓reduceIte, Nat.reduceAdd, Nat.reduceMul, Nat.reduceEqDiff, Nat.reduceBEq, Nat.reduceLeDiff, j5, k3, hb4, hb4', hb5, hb5']; rfl) ?_
                | refine st_store (by simp (disch := omega) only [go_sem, wr_i64, if_yes, if_no, ↓reduceIte, Nat.reduceAdd, Nat.reduceMul, Nat.reduceEqDiff, Nat.reduceBEq, Nat.reduceLeDiff, j5, k3, hb4, hb4', hb5, hb5']; rfl) ?_
                | refine st_append (by simp (disch := omega) only [go_sem, wr_i64, if_yes, if_no, ↓reduceIte, Nat.reduceAdd, Nat.reduceMul, Nat.reduceEqDiff, Nat.reduceBEq, Nat.reduceLeDiff, j5, k3, hb4, hb4', hb5, hb5']; rfl) ?_
                | refine st_gT rfl rfl rfl ?_
                | refine st_gF rfl rfl rfl ?_
                | refine st_dgT rfl rfl rfl rfl ?_
                | refine st_dgF rfl rfl rfl ?_
                | (refine st_gS rfl rfl ?_ ?_ <;> intro hg <;> (try simp only [decide_eq_true_eq, decide_eq_false_iff_not, Bool.not_eq_true', Bool.not_eq_false'] at hg))
                | (refine st_dgS rfl rfl ?_ ?_ <;> intro hg <;> (try simp only [decide_eq_true_eq, decide_eq_false_iff_not, Bool.not_eq_true', Bool.not_eq_false'] at hg))
                | refine st_condT rfl ?_
                | refine st_condF rfl ?_
                | (refine st_condS rfl ?_ ?_ <;> intro hg <;> (try simp only [decide_eq_true_eq, decide_eq_false_iff_not, Bool.not_eq_true', Bool.not_eq_false'] at hg))
                | refine st_nil ?_
                | refine st_dnil ?_
                | refine st_tN ?_
                | refine st_seq ?_
                | refine st_block ?_
                | refine st_skip ?_
                | refine st_exit ?_
                | refine st_ret ?_
                | refine st_tE ?_
                | refine st_tR ?_
                | refine st_bN ?_
                | refine st_bR ?_
                | refine st_bH ?_
                | refine st_bM rfl ?_)
            refine st_all1 (i := 1) (by decide +kernel) rfl rfl ?_
            repeat' (first
                | refine st_seq_reg rfl (by first | (simp only [go_sem, j5, k3, hb4, hb4', hb5, hb5']; rfl) | rfl) (by first | (simp only [go_sem, j5, k3, hb4, hb4', hb5, hb5']; rfl) | rfl) ?_
                | refine st_reg rfl (by first | (simp only [go_sem, j5, k3, hb4, hb4', hb5, hb5']; rfl) | rfl) (by first | (simp only [go_sem, j5, k3, hb4, hb4', hb5, hb5']; rfl) | rfl) ?_
                | refine st_seq_draw rfl (by first | (simp only [go_sem, j5, k3, hb4, hb4', hb5, hb5']; rfl) | rfl) (by first | (simp only [go_sem, j5, k3, hb4, hb4', hb5, hb5']; rfl) | rfl) ?_
                | refine st_draw rfl (by first | (simp only [go_sem, j5, k3, hb4, hb4', hb5, hb5']; rfl) | rfl) (by first | (simp only [go_sem, j5, k3, hb4, hb4', hb5, hb5']; rfl) | rfl) ?_
                | refine st_op ?_
                | refine st_det rfl (by simp (disch := omega) only [go_sem, wr_i64, if_yes, if_no, ↓reduceIte, Nat.reduceAdd, Nat.reduceMul, Nat.reduceEqDiff, Nat.reduceBEq, Nat.reduceLeDiff, j5, k3, hb4, hb4', hb5, hb5']; rfl) ?_
                | refine st_dop rfl ?_
                | refine st_loc rfl (by simp (disch := omega) only [go_sem, wr_i64, if_yes, if_no, ↓reduceIte, Nat.reduceAdd, Nat.reduceMul, Nat.reduceEqDiff, Nat.reduceBEq, Nat.reduceLeDiff, j5, k3, hb4, hb4', hb5, hb5']; rfl) ?_
                | refine st_heap rfl (by simp (disch := omega) only [go_sem, wr_i64, if_yes, if_no, ↓reduceIte, Nat.reduceAdd, Nat.reduceMul, Nat.reduceEqDiff, Nat.reduceBEq, Nat.reduceLeDiff, j5, k3, hb4, hb4', hb5, hb5']; rfl) ?_
                | refine st_store (by simp (disch := omega) only [go_sem, wr_i64, if_yes, if_no, ↓reduceIte, Nat.reduceAdd, Nat.reduceMul, Nat.reduceEqDiff, Nat.reduceBEq, Nat.reduceLeDiff, j5, k3, hb4, hb4', hb5, hb5']; rfl) ?_
                | refine st_append (by simp (disch := omega) only [go_sem, wr_i64, if_yes, if_no, ↓reduceIte, Nat.reduceAdd, Nat.reduceMul, Nat.reduceEqDiff, Nat.reduceBEq, Nat.reduceLeDiff, j5, k3, hb4, hb4', hb5, hb5']; rfl) ?_
                | refine st_gT rfl rfl rfl ?_
                | refine st_gF rfl rfl rfl ?_
                | refine st_dgT rfl rfl rfl rfl ?_
                | refine st_dgF rfl rfl rfl ?_
                | (refine st_gS rfl rfl ?_ ?_ <;> intro hg <;> (try simp only [decide_eq_true_eq, decide_eq_false_iff_not, Bool.not_eq_true', Bool.not_eq_false'] at hg))
                | (refine st_dgS rfl rfl ?_ ?_ <;> intro hg <;> (try simp only [decide_eq_true_eq, decide_eq_false_iff_not, Bool.not_eq_true', Bool.not_eq_false'] at hg))
                | refine st_condT rfl ?_
                | refine st_condF rfl ?_
                | (refine st_condS rfl ?_ ?_ <;> intro hg <;> (try simp only [decide_eq_true_eq, decide_eq_false_iff_not, Bool.not_eq_true', Bool.not_eq_false'] at hg))
                | refine st_nil ?_
                | refine st_dnil ?_
                | refine st_tN ?_
                | refine st_seq ?_
                | refine st_block ?_
                | refine st_skip ?_
                | refine st_exit ?_
                | refine st_ret ?_
                | refine st_tE ?_
                | refine st_tR ?_
                | refine st_bN ?_
                | refine st_bR ?_
                | refine st_bH ?_
                | refine st_bM rfl ?_)
            refine st_all1 (i := 3) (by decide +kernel) rfl rfl ?_
            repeat' (first
                | refine st_seq_reg rfl (by first | (simp only [go_sem, j5, k3, hb4, hb4', hb5, hb5']; rfl) | rfl) (by first | (simp only [go_sem, j5, k3, hb4, hb4', hb5, hb5']; rfl) | rfl) ?_
                | refine st_reg rfl (by first | (simp only [go_sem, j5, k3, hb4, hb4', hb5, hb5']; rfl) | rfl) (by first | (simp only [go_sem, j5, k3, hb4, hb4', hb5, hb5']; rfl) | rfl) ?_
                | refine st_seq_draw rfl (by first | (simp only [go_sem, j5, k3, hb4, hb4', hb5, hb5']; rfl) | rfl) (by first | (simp only [go_sem, j5, k3, hb4, hb4', hb5, hb5']; rfl) | rfl) ?_
                | refine st_draw rfl (by first | (simp only [go_sem, j5, k3, hb4, hb4', hb5, hb5']; rfl) | rfl) (by first | (simp only [go_sem, j5, k3, hb4, hb4', hb5, hb5']; rfl) | rfl) ?_
                | refine st_op ?_
                | refine st_det rfl (by simp (disch := omega) only [go_sem, wr_i64, if_yes, if_no, ↓reduceIte, Nat.reduceAdd, Nat.reduceMul, Nat.reduceEqDiff, Nat.reduceBEq, Nat.reduceLeDiff, j5, k3, hb4, hb4', hb5, hb5']; rfl) ?_
                | refine st_dop rfl ?_
                | refine st_loc rfl (by simp (disch := omega) only [go_sem, wr_i64, if_yes, if_no, ↓reduceIte, Nat.reduceAdd, Nat.reduceMul, Nat.reduceEqDiff, Nat.reduceBEq, Nat.reduceLeDiff, j5, k3, hb4, hb4', hb5, hb5']; rfl) ?_
                | refine st_heap rfl (by simp (disch := omega) only [go_sem, wr_i64, if_yes, if_no, ↓reduceIte, Nat.reduceAdd, Nat.reduceMul, Nat.reduceEqDiff, Nat.reduceBEq, Nat.reduceLeDiff, j5, k3, hb4, hb4', hb5, hb5']; rfl) ?_
                | refine st_store (by simp (disch := omega) only [go_sem, wr_i64, if_yes, if_no, ↓reduceIte, Nat.reduceAdd, Nat.reduceMul, Nat.reduceEqDiff, Nat.reduceBEq, Nat.reduceLeDiff, j5, k3, hb4, hb4', hb5, hb5']; rfl) ?_
                | refine st_append (by simp (disch := omega) only [go_sem, wr_i64, if_yes, if_no, ↓reduceIte, Nat.reduceAdd, Nat.reduceMul, Nat.reduceEqDiff, Nat.reduceBEq, Nat.reduceLeDiff, j5, k3, hb4, hb4', hb5, hb5']; rfl) ?_
                | refine st_gT rfl rfl rfl ?_
                | refine st_gF rfl rfl rfl ?_
                | refine st_dgT rfl rfl rfl rfl ?_
                | refine st_dgF rfl rfl rfl ?_
                | (refine st_gS rfl rfl ?_ ?_ <;> intro hg <;> (try simp only [decide_eq_true_eq, decide_eq_false_iff_not, Bool.not_eq_true', Bool.not_eq_false'] at hg))
                | (refine st_dgS rfl rfl ?_ ?_ <;> intro hg <;> (try simp only [decide_eq_true_eq, decide_eq_false_iff_not, Bool.not_eq_true', Bool.not_eq_false'] at hg))
                | refine st_condT rfl ?_
                | refine st_condF rfl ?_
                | (refine st_condS rfl ?_ ?_ <;> intro hg <;> (try simp only [decide_eq_true_eq, decide_eq_false_iff_not, Bool.not_eq_true', Bool.not_eq_false'] at hg))
                | refine st_nil ?_
                | refine st_dnil ?_
                | refine st_tN ?_
                | refine st_seq ?_
                | refine st_block ?_
                | refine st_skip ?_
                | refine st_exit ?_
                | refine st_ret ?_
                | refine st_tE ?_
                | refine st_tR ?_
                | refine st_bN ?_
                | refine st_bR ?_
                | refine st_bH ?_
                | refine st_bM rfl ?_)
            refine st_all1 (i := 4) (by decide +kernel) rfl rfl ?_
            repeat' (first
                | refine st_seq_reg rfl (by first | (simp only [go_sem, j5, k3, hb4, hb4', hb5, hb5']; rfl) | rfl) (by first | (simp only [go_sem, j5, k3, hb4, hb4', hb5, hb5']; rfl) | rfl) ?_
                | refine st_reg rfl (by first | (simp only [go_sem, j5, k3, hb4, hb4', hb5, hb5']; rfl) | rfl) (by first | (simp only [go_sem, j5, k3, hb4, hb4', hb5, hb5']; rfl) | rfl) ?_
                | refine st_seq_draw rfl (by first | (simp only [go_sem, j5, k3, hb4, hb4', hb5, hb5']; rfl) | rfl) (by first | (simp only [go_sem, j5, k3, hb4, hb4', hb5, hb5']; rfl) | rfl) ?_
                | refine st_draw rfl (by first | (simp only [go_sem, j5, k3, hb4, hb4', hb5, hb5']; rfl) | rfl) (by first | (simp only [go_sem, j5, k3, hb4, hb4', hb5, hb5']; rfl) | rfl) ?_
                | refine st_op ?_
                | refine st_det rfl (by simp (disch := omega) only [go_sem, wr_i64, if_yes, if_no, ↓reduceIte, Nat.reduceAdd, Nat.reduceMul, Nat.reduceEqDiff, Nat.reduceBEq, Nat.reduceLeDiff, j5, k3, hb4, hb4', hb5, hb5']; rfl) ?_
                | refine st_dop rfl ?_
                | refine st_loc rfl (by simp (disch := omega) only [go_sem, wr_i64, if_yes, if_no, ↓reduceIte, Nat.reduceAdd, Nat.reduceMul, Nat.reduceEqDiff, Nat.reduceBEq, Nat.reduceLeDiff, j5, k3, hb4, hb4', hb5, hb5']; rfl) ?_
                | refine st_heap rfl (by simp (disch := omega) only [go_sem, wr_i64, if_yes, if_no, ↓reduceIte, Nat.reduceAdd, Nat.reduceMul, Nat.reduceEqDiff, Nat.reduceBEq, Nat.reduceLeDiff, j5, k3, hb4, hb4', hb5, hb5']; rfl) ?_
                | refine st_store (by simp (disch := omega) only [go_sem, wr_i64, if_yes, if_no, ↓reduceIte, Nat.reduceAdd, Nat.reduceMul, Nat.reduceEqDiff, Nat.reduceBEq, Nat.reduceLeDiff, j5, k3, hb4, hb4', hb5, hb5']; rfl) ?_
                | refine st_append (by simp (disch := omega) only [go_sem, wr_i64, if_yes, if_no, ↓reduceIte, Nat.reduceAdd, Nat.reduceMul, Nat.reduceEqDiff, Nat.reduceBEq, Nat.reduceLeDiff, j5, k3, hb4, hb4', hb5, hb5']; rfl) ?_
                | refine st_gT rfl rfl rfl ?_
                | refine st_gF rfl rfl rfl ?_
                | refine st_dgT rfl rfl rfl rfl ?_
                | refine st_dgF rfl rfl rfl ?_
                | (refine st_gS rfl rfl ?_ ?_ <;> intro hg <;> (try simp only [decide_eq_true_eq, decide_eq_false_iff_not, Bool.not_eq_true', Bool.not_eq_false'] at hg))
                | (refine st_dgS rfl rfl ?_ ?_ <;> intro hg <;> (try simp only [decide_eq_true_eq, decide_eq_false_iff_not, Bool.not_eq_true', Bool.not_eq_false'] at hg))
                | refine st_condT rfl ?_
                | refine st_condF rfl ?_
                | (refine st_condS rfl ?_ ?_ <;> intro hg <;> (try simp only [decide_eq_true_eq, decide_eq_false_iff_not, Bool.not_eq_true', Bool.not_eq_false'] at hg))
                | refine st_nil ?_
                | refine st_dnil ?_
                | refine st_tN ?_
                | refine st_seq ?_
                | refine st_block ?_
                | refine st_skip ?_
                | refine st_exit ?_
                | refine st_ret ?_
                | refine st_tE ?_
                | refine st_tR ?_
                | refine st_bN ?_
                | refine st_bR ?_
                | refine st_bH ?_
                | refine st_bM rfl ?_)
            refine st_allZ (by decide +kernel) ?_
            refine asem_awp (fi := ⟨64, [11, 13], [2, 3, 20, 52], none, [(18, [0, 0, 1, 7, 15], [(0, true), (1, true), (2, false), (3, false), (4, false)])]⟩) tab mixed (by decide) ?_
            repeat' (first
                | refine st_seq_reg rfl (by first | (simp only [go_sem, j5, k3, hb4, hb4', hb5, hb5']; rfl) | rfl) (by first | (simp only [go_sem, j5, k3, hb4, hb4', hb5, hb5']; rfl) | rfl) ?_
                | refine st_reg rfl (by first | (simp only [go_sem, j5, k3, hb4, hb4', hb5, hb5']; rfl) | rfl) (by first | (simp only [go_sem, j5, k3, hb4, hb4', hb5, hb5']; rfl) | rfl) ?_
                | refine st_seq_draw rfl (by first | (simp only [go_sem, j5, k3, hb4, hb4', hb5, hb5']; rfl) | rfl) (by first | (simp only [go_sem, j5, k3, hb4, hb4', hb5, hb5']; rfl) | rfl) ?_
                | refine st_draw rfl (by first | (simp only [go_sem, j5, k3, hb4, hb4', hb5, hb5']; rfl) | rfl) (by first | (simp only [go_sem, j5, k3, hb4, hb4', hb5, hb5']; rfl) | rfl) ?_
                | refine st_op ?_
                | refine st_det rfl (by simp (disch := omega) only [go_sem, wr_i64, if_yes, if_no, ↓reduceIte, Nat.reduceAdd, Nat.reduceMul, Nat.reduceEqDiff, Nat.reduceBEq, Nat.reduceLeDiff, j5, k3, hb4, hb4', hb5, hb5']; rfl) ?_
                | refine st_dop rfl ?_
                | refine st_loc rfl (by simp (disch := omega) only [go_sem, wr_i64, if_yes, if_no, ↓reduceIte, Nat.reduceAdd, Nat.reduceMul, Nat.reduceEqDiff, Nat.reduceBEq, Nat.reduceLeDiff, j5, k3, hb4, hb4', hb5, hb5']; rfl) ?_
                | refine st_heap rfl (by simp (disch := omega) only [go_sem, wr_i64, if_yes, if_no, ↓reduceIte, Nat.reduceAdd, Nat.reduceMul, Nat.reduceEqDiff, Nat.reduceBEq, Nat.reduceLeDiff, j5, k3, hb4, hb4', hb5, hb5']; rfl) ?_
                | refine st_store (by simp (disch := omega) only [go_sem, wr_i64, if_yes, if_no, ↓reduceIte, Nat.reduceAdd, Nat.reduceMul, Nat.reduceEqDiff, Nat.reduceBEq, Nat.reduceLeDiff, j5, k3, hb4, hb4', hb5, hb5']; rfl) ?_
                | refine st_append (by simp (disch := omega) only [go_sem, wr_i64, if_yes, if_no, ↓reduceIte, Nat.reduceAdd, Nat.reduceMul, Nat.reduceEqDiff, Nat.reduceBEq, Nat.reduceLeDiff, j5, k3, hb4, hb4', hb5, hb5']; rfl) ?_
                | refine st_gT rfl rfl rfl ?_
                | refine st_gF rfl rfl rfl ?_
                | refine st_dgT rfl rfl rfl rfl ?_
                | refine st_dgF rfl rfl rfl ?_
                | (refine st_gS rfl rfl ?_ ?_ <;> intro hg <;> (try simp only [decide_eq_true_eq, decide_eq_false_iff_not, Bool.not_eq_true', Bool.not_eq_false'] at hg))
                | (refine st_dgS rfl rfl ?_ ?_ <;> intro hg <;> (try simp only [decide_eq_true_eq, decide_eq_false_iff_not, Bool.not_eq_true', Bool.not_eq_false'] at hg))
                | refine st_condT rfl ?_
                | refine st_condF rfl ?_
                | (refine st_condS rfl ?_ ?_ <;> intro hg <;> (try simp only [decide_eq_true_eq, decide_eq_false_iff_not, Bool.not_eq_true', Bool.not_eq_false'] at hg))
                | refine st_nil ?_
                | refine st_dnil ?_
                | refine st_tN ?_
                | refine st_seq ?_
                | refine st_block ?_
                | refine st_skip ?_
                | refine st_exit ?_
                | refine st_ret ?_
                | refine st_tE ?_
                | refine st_tR ?_
                | refine st_bN ?_
                | refine st_bR ?_
                | refine st_bH ?_
                | refine st_bM rfl ?_)
            simp (disch := omega) only [AEnd, Try.results66, aresK, fin, go_sem, ↓reduceIte, Nat.reduceEqDiff, Nat.reduceAdd, Nat.reduceLeDiff, if_yes, if_no, implies_true, true_and, and_true, List.reverse_cons, List.reverse_nil]
            refine ⟨fun b' hb' => ?_, ?_, .inr ⟨bs, ⟨2, L.map nr⟩, by omega, ?_, ?_⟩⟩
            · rw [if_neg (hne5 b' hb'), if_neg (hne4 b' hb')]; exact j3 b' hb'
            · exact hlpE
            · rw [if_neg hb5', if_neg hb4']; exact k4
            · rw [hvL, hv _ rfl, hE]; simp [frz, frzs, List.take_of_length_le]
        · repeat' (first
              | refine st_seq_reg rfl (by first | (simp only [go_sem, j5, k3, hb4, hb4', hb5, hb5']; rfl) | rfl) (by first | (simp only [go_sem, j5, k3, hb4, hb4', hb5, hb5']; rfl) | rfl) ?_
              | refine st_reg rfl (by first | (simp only [go_sem, j5, k3, hb4, hb4', hb5, hb5']; rfl) | rfl) (by first | (simp only [go_sem, j5, k3, hb4, hb4', hb5, hb5']; rfl) | rfl) ?_
              | refine st_seq_draw rfl (by first | (simp only [go_sem, j5, k3, hb4, hb4', hb5, hb5']; rfl) | rfl) (by first | (simp only [go_sem, j5, k3, hb4, hb4', hb5, hb5']; rfl) | rfl) ?_
              | refine st_draw rfl (by first | (simp only [go_sem, j5, k3, hb4, hb4', hb5, hb5']; rfl) | rfl) (by first | (simp only [go_sem, j5, k3, hb4, hb4', hb5, hb5']; rfl) | rfl) ?_
              | refine st_op ?_
              | refine st_det rfl (by simp (disch := omega) only [go_sem, wr_i64, if_yes, if_no, ↓reduceIte, Nat.reduceAdd, Nat.reduceMul, Nat.reduceEqDiff, Nat.reduceBEq, Nat.reduceLeDiff, j5, k3, hb4, hb4', hb5, hb5']; rfl) ?_
              | refine st_dop rfl ?_
              | refine st_loc rfl (by simp (disch := omega) only [go_sem, wr_i64, if_yes, if_no, ↓reduceIte, Nat.reduceAdd, Nat.reduceMul, Nat.reduceEqDiff, Nat.reduceBEq, Nat.reduceLeDiff, j5, k3, hb4, hb4', hb5, hb5']; rfl) ?_
              | refine st_heap rfl (by simp (disch := omega) only [go_sem, wr_i64, if_yes, if_no, ↓reduceIte, Nat.reduceAdd, Nat.reduceMul, Nat.reduceEqDiff, Nat.reduceBEq, Nat.reduceLeDiff, j5, k3, hb4, hb4', hb5, hb5']; rfl) ?_
              | refine st_store (by simp (disch := omega) only [go_sem, wr_i64, if_yes, if_no, ↓reduceIte, Nat.reduceAdd, Nat.reduceMul, Nat.reduceEqDiff, Nat.reduceBEq, Nat.reduceLeDiff, j5, k3, hb4, hb4', hb5, hb5']; rfl) ?_
              | refine st_append (by simp (disch := omega) only [go_sem, wr_i64, if_yes, if_no, ↓reduceIte, Nat.reduceAdd, Nat.reduceMul, Nat.reduceEqDiff, Nat.reduceBEq, Nat.reduceLeDiff, j5, k3, hb4, hb4', hb5, hb5']; rfl) ?_
              | refine st_gT rfl rfl rfl ?_
              | refine st_gF rfl rfl rfl ?_
              | refine st_dgT rfl rfl rfl rfl ?_
              | refine st_dgF rfl rfl rfl ?_
              | (refine st_gS rfl rfl ?_ ?_ <;> intro hg <;> (try simp only [decide_eq_true_eq, decide_eq_false_iff_not, Bool.not_eq_true', Bool.not_eq_false'] at hg))
              | (refine st_dgS rfl rfl ?_ ?_ <;> intro hg <;> (try simp only [decide_eq_true_eq, decide_eq_false_iff_not, Bool.not_eq_true', Bool.not_eq_false'] at hg))
              | refine st_condT rfl ?_
              | refine st_condF rfl ?_
              | (refine st_condS rfl ?_ ?_ <;> intro hg <;> (try simp only [decide_eq_true_eq, decide_eq_false_iff_not, Bool.not_eq_true', Bool.not_eq_false'] at hg))
              | refine st_nil ?_
              | refine st_dnil ?_
              | refine st_tN ?_
              | refine st_seq ?_
              | refine st_block ?_
              | refine st_skip ?_
              | refine st_exit ?_
              | refine st_ret ?_
              | refine st_tE ?_
              | refine st_tR ?_
              | refine st_bN ?_
              | refine st_bR ?_
              | refine st_bH ?_
              | refine st_bM rfl ?_)
          refine st_all1 (i := 0) (by decide +kernel) rfl rfl ?_
          repeat' (first
              | refine st_seq_reg rfl (by first | (simp only [go_sem, j5, k3, hb4, hb4', hb5, hb5']; rfl) | rfl) (by first | (simp only [go_sem, j5, k3, hb4, hb4', hb5, hb5']; rfl) | rfl) ?_
              | refine st_reg rfl (by first | (simp only [go_sem, j5, k3, hb4, hb4', hb5, hb5']; rfl) | rfl) (by first | (simp only [go_sem, j5, k3, hb4, hb4', hb5, hb5']; rfl) | rfl) ?_
              | refine st_seq_draw rfl (by first | (simp only [go_sem, j5, k3, hb4, hb4', hb5, hb5']; rfl) | rfl) (by first | (simp only [go_sem, j5, k3, hb4, hb4', hb5, hb5']; rfl) | rfl) ?_
              | refine st_draw rfl (by first | (simp only [go_sem, j5, k3, hb4, hb4', hb5, hb5']; rfl) | rfl) (by first | (simp only [go_sem, j5, k3, hb4, hb4', hb5, hb5']; rfl) | rfl) ?_
              | refine st_op ?_
              | refine st_det rfl (by simp (disch := omega) only [go_sem, wr_i64, if_yes, if_no, ↓reduceIte, Nat.reduceAdd, Nat.reduceMul, Nat.reduceEqDiff, Nat.reduceBEq, Nat.reduceLeDiff, j5, k3, hb4, hb4', hb5, hb5']; rfl) ?_
              | refine st_dop rfl ?_
              | refine st_loc rfl (by simp (disch := omega) only [go_sem, wr_i64, if_yes, if_no, ↓reduceIte, Nat.reduceAdd, Nat.reduceMul, Nat.reduceEqDiff, Nat.reduceBEq, Nat.reduceLeDiff, j5, k3, hb4, hb4', hb5, hb5']; rfl) ?_
              | refine st_heap rfl (by simp (disch := omega) only [go_sem, wr_i64, if_yes, if_no, ↓reduceIte, Nat.reduceAdd, Nat.reduceMul, Nat.reduceEqDiff, Nat.reduceBEq, Nat.reduceLeDiff, j5, k3, hb4, hb4', hb5, hb5']; rfl) ?_
              | refine st_store (by simp (disch := omega) only [go_sem, wr_i64, if_yes, if_no, ↓reduceIte, Nat.reduceAdd, Nat.reduceMul, Nat.reduceEqDiff, Nat.reduceBEq, Nat.reduceLeDiff, j5, k3, hb4, hb4', hb5, hb5']; rfl) ?_
              | refine st_append (by simp (disch := omega) only [go_sem, wr_i64, if_yes, if_no, ↓reduceIte, Nat.reduceAdd, Nat.reduceMul, Nat.reduceEqDiff, Nat.reduceBEq, Nat.reduceLeDiff, j5, k3, hb4, hb4', hb5, hb5']; rfl) ?_
              | refine st_gT rfl rfl rfl ?_
              | refine st_gF rfl rfl rfl ?_
              | refine st_dgT rfl rfl rfl rfl ?_
              | refine st_dgF rfl rfl rfl ?_
              | (refine st_gS rfl rfl ?_ ?_ <;> intro hg <;> (try simp only [decide_eq_true_eq, decide_eq_false_iff_not, Bool.not_eq_true', Bool.not_eq_false'] at hg))
              | (refine st_dgS rfl rfl ?_ ?_ <;> intro hg <;> (try simp only [decide_eq_true_eq, decide_eq_false_iff_not, Bool.not_eq_true', Bool.not_eq_false'] at hg))
              | refine st_condT rfl ?_
              | refine st_condF rfl ?_
              | (refine st_condS rfl ?_ ?_ <;> intro hg <;> (try simp only [decide_eq_true_eq, decide_eq_false_iff_not, Bool.not_eq_true', Bool.not_eq_false'] at hg))
              | refine st_nil ?_
              | refine st_dnil ?_
              | refine st_tN ?_
              | refine st_seq ?_
              | refine st_block ?_
              | refine st_skip ?_
              | refine st_exit ?_
              | refine st_ret ?_
              | refine st_tE ?_
              | refine st_tR ?_
              | refine st_bN ?_
              | refine st_bR ?_
              | refine st_bH ?_
              | refine st_bM rfl ?_)
          refine st_all1 (i := 2) (by decide +kernel) rfl rfl ?_
          repeat' (first
              | refine st_seq_reg rfl (by first | (simp only [go_sem, j5, k3, hb4, hb4', hb5, hb5']; rfl) | rfl) (by first | (simp only [go_sem, j5, k3, hb4, hb4', hb5, hb5']; rfl) | rfl) ?_
              | refine st_reg rfl (by first | (simp only [go_sem, j5, k3, hb4, hb4', hb5, hb5']; rfl) | rfl) (by first | (simp only [go_sem, j5, k3, hb4, hb4', hb5, hb5']; rfl) | rfl) ?_
              | refine st_seq_draw rfl (by first | (simp only [go_sem, j5, k3, hb4, hb4', hb5, hb5']; rfl) | rfl) (by first | (simp only [go_sem, j5, k3, hb4, hb4', hb5, hb5']; rfl) | rfl) ?_
              | refine st_draw rfl (by first | (simp only [go_sem, j5, k3, hb4, hb4', hb5, hb5']; rfl) | rfl) (by first | (simp only [go_sem, j5, k3, hb4, hb4', hb5, hb5']; rfl) | rfl) ?_
              | refine st_op ?_
              | refine st_det rfl (by simp (disch := omega) only [go_sem, wr_i64, if_yes, if_no, ↓reduceIte, Nat.reduceAdd, Nat.reduceMul, Nat.reduceEqDiff, Nat.reduceBEq, Nat.reduceLeDiff, j5, k3, hb4, hb4', hb5, hb5']; rfl) ?_
              | refine st_dop rfl ?_
              | refine st_loc rfl (by simp (disch := omega) only [go_sem, wr_i64, if_yes, if_no, ↓reduceIte, Nat.reduceAdd, Nat.reduceMul, Nat.reduceEqDiff, Nat.reduceBEq, Nat.reduceLeDiff, j5, k3, hb4, hb4', hb5, hb5']; rfl) ?_
              | refine st_heap rfl (by simp (disch := omega) only [go_sem, wr_i64, if_yes, if_no, ↓reduceIte, Nat.reduceAdd, Nat.reduceMul, Nat.reduceEqDiff, Nat.reduceBEq, Nat.reduceLeDiff, j5, k3, hb4, hb4', hb5, hb5']; rfl) ?_
              | refine st_store (by simp (disch := omega) only [go_sem, wr_i64, if_yes, if_no, ↓reduceIte, Nat.reduceAdd, Nat.reduceMul, Nat.reduceEqDiff, Nat.reduceBEq, Nat.reduceLeDiff, j5, k3, hb4, hb4', hb5, hb5']; rfl) ?_
              | refine st_append (by simp (disch := omega) only [go_sem, wr_i64, if_yes, if_no, ↓reduceIte, Nat.reduceAdd, Nat.reduceMul, Nat.reduceEqDiff, Nat.reduceBEq, Nat.reduceLeDiff, j5, k3, hb4, hb4', hb5, hb5']; rfl) ?_
              | refine st_gT rfl rfl rfl ?_
              | refine st_gF rfl rfl rfl ?_
              | refine st_dgT rfl rfl rfl rfl ?_
              | refine st_dgF rfl rfl rfl ?_
              | (refine st_gS rfl rfl ?_ ?_ <;> intro hg <;> (try simp only [decide_eq_true_eq, decide_eq_false_iff_not, Bool.not_eq_true', Bool.not_eq_false'] at hg))
              | (refine st_dgS rfl rfl ?_ ?_ <;> intro hg <;> (try simp only [decide_eq_true_eq, decide_eq_false_iff_not, Bool.not_eq_true', Bool.not_eq_false'] at hg))
              | refine st_condT rfl ?_
              | refine st_condF rfl ?_
              | (refine st_condS rfl ?_ ?_ <;> intro hg <;> (try simp only [decide_eq_true_eq, decide_eq_false_iff_not, Bool.not_eq_true', Bool.not_eq_false'] at hg))
              | refine st_nil ?_
              | refine st_dnil ?_
              | refine st_tN ?_
              | refine st_seq ?_
              | refine st_block ?_
              | refine st_skip ?_
              | refine st_exit ?_
              | refine st_ret ?_
              | refine st_tE ?_
              | refine st_tR ?_
              | refine st_bN ?_
              | refine st_bR ?_
              | refine st_bH ?_
              | refine st_bM rfl ?_)
          refine st_all1 (i := 3) (by decide +kernel) rfl rfl ?_
          repeat' (first
              | refine st_seq_reg rfl (by first | (simp only [go_sem, j5, k3, hb4, hb4', hb5, hb5']; rfl) | rfl) (by first | (simp only [go_sem, j5, k3, hb4, hb4', hb5, hb5']; rfl) | rfl) ?_
              | refine st_reg rfl (by first | (simp only [go_sem, j5, k3, hb4, hb4', hb5, hb5']; rfl) | rfl) (by first | (simp only [go_sem, j5, k3, hb4, hb4', hb5, hb5']; rfl) | rfl) ?_
              | refine st_seq_draw rfl (by first | (simp only [go_sem, j5, k3, hb4, hb4', hb5, hb5']; rfl) | rfl) (by first | (simp only [go_sem, j5, k3, hb4, hb4', hb5, hb5']; rfl) | rfl) ?_
              | refine st_draw rfl (by first | (simp only [go_sem, j5, k3, hb4, hb4', hb5, hb5']; rfl) | rfl) (by first | (simp only [go_sem, j5, k3, hb4, hb4', hb5, hb5']; rfl) | rfl) ?_
              | refine st_op ?_
              | refine st_det rfl (by simp (disch := omega) only [go_sem, wr_i64, if_yes, if_no, ↓reduceIte, Nat.reduceAdd, Nat.reduceMul, Nat.reduceEqDiff, Nat.reduceBEq, Nat.reduceLeDiff, j5, k3, hb4, hb4', hb5, hb5']; rfl) ?_
              | refine st_dop rfl ?_
              | refine st_loc rfl (by simp (disch := omega) only [go_sem, wr_i64, if_yes, if_no, ↓reduceIte, Nat.reduceAdd, Nat.reduceMul, Nat.reduceEqDiff, Nat.reduceBEq, Nat.reduceLeDiff, j5, k3, hb4, hb4', hb5, hb5']; rfl) ?_
              | refine st_heap rfl (by simp (disch := omega) only [go_sem, wr_i64, if_yes, if_no, ↓reduceIte, Nat.reduceAdd, Nat.reduceMul, Nat.reduceEqDiff, Nat.reduceBEq, Nat.reduceLeDiff, j5, k3, hb4, hb4', hb5, hb5']; rfl) ?_
              | refine st_store (by simp (disch := omega) only [go_sem, wr_i64, if_yes, if_no, ↓reduceIte, Nat.reduceAdd, Nat.reduceMul, Nat.reduceEqDiff, Nat.reduceBEq, Nat.reduceLeDiff, j5, k3, hb4, hb4', hb5, hb5']; rfl) ?_
              | refine st_append (by simp (disch := omega) only [go_sem, wr_i64, if_yes, if_no, ↓reduceIte, Nat.reduceAdd, Nat.reduceMul, Nat.reduceEqDiff, Nat.reduceBEq, Nat.reduceLeDiff, j5, k3, hb4, hb4', hb5, hb5']; rfl) ?_
              | refine st_gT rfl rfl rfl ?_
              | refine st_gF rfl rfl rfl ?_
              | refine st_dgT rfl rfl rfl rfl ?_
              | refine st_dgF rfl rfl rfl ?_
              | (refine st_gS rfl rfl ?_ ?_ <;> intro hg <;> (try simp only [decide_eq_true_eq, decide_eq_false_iff_not, Bool.not_eq_true', Bool.not_eq_false'] at hg))
              | (refine st_dgS rfl rfl ?_ ?_ <;> intro hg <;> (try simp only [decide_eq_true_eq, decide_eq_false_iff_not, Bool.not_eq_true', Bool.not_eq_false'] at hg))
              | refine st_condT rfl ?_
              | refine st_condF rfl ?_
              | (refine st_condS rfl ?_ ?_ <;> intro hg <;> (try simp only [decide_eq_true_eq, decide_eq_false_iff_not, Bool.not_eq_true', Bool.not_eq_false'] at hg))
              | refine st_nil ?_
              | refine st_dnil ?_
              | refine st_tN ?_
              | refine st_seq ?_
              | refine st_block ?_
              | refine st_skip ?_
              | refine st_exit ?_
              | refine st_ret ?_
              | refine st_tE ?_
              | refine st_tR ?_
              | refine st_bN ?_
              | refine st_bR ?_
              | refine st_bH ?_
              | refine st_bM rfl ?_)
          refine st_all1 (i := 4) (by decide +kernel) rfl rfl ?_
          repeat' (first
              | refine st_seq_reg rfl (by first | (simp only [go_sem, j5, k3, hb4, hb4', hb5, hb5']; rfl) | rfl) (by first | (simp only [go_sem, j5, k3, hb4, hb4', hb5, hb5']; rfl) | rfl) ?_
              | refine st_reg rfl (by first | (simp only [go_sem, j5, k3, hb4, hb4', hb5, hb5']; rfl) | rfl) (by first | (simp only [go_sem, j5, k3, hb4, hb4', hb5, hb5']; rfl) | rfl) ?_
              | refine st_seq_draw rfl (by first | (simp only [go_sem, j5, k3, hb4, hb4', hb5, hb5']; rfl) | rfl) (by first | (simp only [go_sem, j5, k3, hb4, hb4', hb5, hb5']; rfl) | rfl) ?_
              | refine st_draw rfl (by first | (simp only [go_sem, j5, k3, hb4, hb4', hb5, hb5']; rfl) | rfl) (by first | (simp only [go_sem, j5, k3, hb4, hb4', hb5, hb5']; rfl) | rfl) ?_
              | refine st_op ?_
              | refine st_det rfl (by simp (disch := omega) only [go_sem, wr_i64, if_yes, if_no, ↓reduceIte, Nat.reduceAdd, Nat.reduceMul, Nat.reduceEqDiff, Nat.reduceBEq, Nat.reduceLeDiff, j5, k3, hb4, hb4', hb5, hb5']; rfl) ?_
              | refine st_dop rfl ?_
              | refine st_loc rfl (by simp (disch := omega) only [go_sem, wr_i64, if_yes, if_no, ↓reduceIte, Nat.reduceAdd, Nat.reduceMul, Nat.reduceEqDiff, Nat.reduceBEq, Nat.reduceLeDiff, j5, k3, hb4, hb4', hb5, hb5']; rfl) ?_
              | refine st_heap rfl (by simp (disch := omega) only [go_sem, wr_i64, if_yes, if_no, ↓reduceIte, Nat.reduceAdd, Nat.reduceMul, Nat.reduceEqDiff, Nat.reduceBEq, Nat.reduceLeDiff, j5, k3, hb4, hb4', hb5, hb5']; rfl) ?_
              | refine st_store (by simp (disch := omega) only [go_sem, wr_i64, if_yes, if_no, ↓reduceIte, Nat.reduceAdd, Nat.reduceMul, Nat.reduceEqDiff, Nat.reduceBEq, Nat.reduceLeDiff, j5, k3, hb4, hb4', hb5, hb5']; rfl) ?_
              | refine st_append (by simp (disch := omega) only [go_sem, wr_i64, if_yes, if_no, ↓reduceIte, Nat.reduceAdd, Nat.reduceMul, Nat.reduceEqDiff, Nat.reduceBEq, Nat.reduceLeDiff, j5, k3, hb4, hb4', hb5, hb5']; rfl) ?_
              | refine st_gT rfl rfl rfl ?_
              | refine st_gF rfl rfl rfl ?_
              | refine st_dgT rfl rfl rfl rfl ?_
              | refine st_dgF rfl rfl rfl ?_
              | (refine st_gS rfl rfl ?_ ?_ <;> intro hg <;> (try simp only [decide_eq_true_eq, decide_eq_false_iff_not, Bool.not_eq_true', Bool.not_eq_false'] at hg))
              | (refine st_dgS rfl rfl ?_ ?_ <;> intro hg <;> (try simp only [decide_eq_true_eq, decide_eq_false_iff_not, Bool.not_eq_true', Bool.not_eq_false'] at hg))
              | refine st_condT rfl ?_
              | refine st_condF rfl ?_
              | (refine st_condS rfl ?_ ?_ <;> intro hg <;> (try simp only [decide_eq_true_eq, decide_eq_false_iff_not, Bool.not_eq_true', Bool.not_eq_false'] at hg))
              | refine st_nil ?_
              | refine st_dnil ?_
              | refine st_tN ?_
              | refine st_seq ?_
              | refine st_block ?_
              | refine st_skip ?_
              | refine st_exit ?_
              | refine st_ret ?_
              | refine st_tE ?_
              | refine st_tR ?_
              | refine st_bN ?_
              | refine st_bR ?_
              | refine st_bH ?_
              | refine st_bM rfl ?_)
          refine st_allZ (by decide +kernel) ?_
          refine asem_awp (fi := ⟨64, [11, 13], [2, 3, 20, 52], none, [(18, [0, 0, 1, 7, 15], [(0, true), (1, true), (2, false), (3, false), (4, false)])]⟩) tab mixed (by decide) ?_
          repeat' (first
              | refine st_seq_reg rfl (by first | (simp only [go_sem, j5, k3, hb4, hb4', hb5, hb5']; rfl) | rfl) (by first | (simp only [go_sem, j5, k3, hb4, hb4', hb5, hb5']; rfl) | rfl) ?_
              | refine st_reg rfl (by first | (simp only [go_sem, j5, k3, hb4, hb4', hb5, hb5']; rfl) | rfl) (by first | (simp only [go_sem, j5, k3, hb4, hb4', hb5, hb5']; rfl) | rfl) ?_
              | refine st_seq_draw rfl (by first | (simp only [go_sem, j5, k3, hb4, hb4', hb5, hb5']; rfl) | rfl) (by first | (simp only [go_sem, j5, k3, hb4, hb4', hb5, hb5']; rfl) | rfl) ?_
              | refine st_draw rfl (by first | (simp only [go_sem, j5, k3, hb4, hb4', hb5, hb5']; rfl) | rfl) (by first | (simp only [go_sem, j5, k3, hb4, hb4', hb5, hb5']; rfl) | rfl) ?_
              | refine st_op ?_
              | refine st_det rfl (by simp (disch := omega) only [go_sem, wr_i64, if_yes, if_no, ↓reduceIte, Nat.reduceAdd, Nat.reduceMul, Nat.reduceEqDiff, Nat.reduceBEq, Nat.reduceLeDiff, j5, k3, hb4, hb4', hb5, hb5']; rfl) ?_
              | refine st_dop rfl ?_
              | refine st_loc rfl (by simp (disch := omega) only [go_sem, wr_i64, if_yes, if_no, ↓reduceIte, Nat.reduceAdd, Nat.reduceMul, Nat.reduceEqDiff, Nat.reduceBEq, Nat.reduceLeDiff, j5, k3, hb4, hb4', hb5, hb5']; rfl) ?_
              | refine st_heap rfl (by simp (disch := omega) only [go_sem, wr_i64, if_yes, if_no, ↓reduceIte, Nat.reduceAdd, Nat.reduceMul, Nat.reduceEqDiff, Nat.reduceBEq, Nat.reduceLeDiff, j5, k3, hb4, hb4', hb5, hb5']; rfl) ?_
              | refine st_store (by simp (disch := omega) only [go_sem, wr_i64, if_yes, if_no, ↓reduceIte, Nat.reduceAdd, Nat.reduceMul, Nat.reduceEqDiff, Nat.reduceBEq, Nat.reduceLeDiff, j5, k3, hb4, hb4', hb5, hb5']; rfl) ?_
              | refine st_append (by simp (disch := omega) only [go_sem, wr_i64, if_yes, if_no, ↓reduceIte, Nat.reduceAdd, Nat.reduceMul, Nat.reduceEqDiff, Nat.reduceBEq, Nat.reduceLeDiff, j5, k3, hb4, hb4', hb5, hb5']; rfl) ?_
              | refine st_gT rfl rfl rfl ?_
              | refine st_gF rfl rfl rfl ?_
              | refine st_dgT rfl rfl rfl rfl ?_
              | refine st_dgF rfl rfl rfl ?_
              | (refine st_gS rfl rfl ?_ ?_ <;> intro hg <;> (try simp only [decide_eq_true_eq, decide_eq_false_iff_not, Bool.not_eq_true', Bool.not_eq_false'] at hg))
              | (refine st_dgS rfl rfl ?_ ?_ <;> intro hg <;> (try simp only [decide_eq_true_eq, decide_eq_false_iff_not, Bool.not_eq_true', Bool.not_eq_false'] at hg))
              | refine st_condT rfl ?_
              | refine st_condF rfl ?_
              | (refine st_condS rfl ?_ ?_ <;> intro hg <;> (try simp only [decide_eq_true_eq, decide_eq_false_iff_not, Bool.not_eq_true', Bool.not_eq_false'] at hg))
              | refine st_nil ?_
              | refine st_dnil ?_
              | refine st_tN ?_
              | refine st_seq ?_
              | refine st_block ?_
              | refine st_skip ?_
              | refine st_exit ?_
              | refine st_ret ?_
              | refine st_tE ?_
              | refine st_tR ?_
              | refine st_bN ?_
              | refine st_bR ?_
              | refine st_bH ?_
              | refine st_bM rfl ?_)
          simp (disch := omega) only [AEnd, Try.results66, aresK, fin, go_sem, ↓reduceIte, Nat.reduceEqDiff, Nat.reduceAdd, Nat.reduceLeDiff, if_yes, if_no, implies_true, true_and, and_true, List.reverse_cons, List.reverse_nil]
          refine ⟨fun b' hb' => ?_, ?_, .inr ⟨bs, ⟨2, L.map nr⟩, by omega, ?_, ?_⟩⟩
          · rw [if_neg (hne5 b' hb'), if_neg (hne4 b' hb')]; exact j3 b' hb'
          · exact hlpE
          · rw [if_neg hb5', if_neg hb4']; exact k4
          · rw [hvL, hv _ rfl, hE]; simp [frz, frzs, List.take_of_length_le]
end Go.Proofs.Ytkjpceapflhmnaa
