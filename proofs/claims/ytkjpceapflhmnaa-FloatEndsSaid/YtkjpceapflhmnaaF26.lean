/- Contracts of functions that the claim reaches: what each call gives, told in our own logic. Conditions: those of each theorem. -/
import Derived.Test.YtkjpceapflhmnaaF9
import Derived.Test.YtkjpceapflhmnaaF10
set_option linter.all false
set_option linter.unusedSimpArgs false
set_option linter.unusedVariables false
namespace Go.Proofs.Ytkjpceapflhmnaa
open Go.Av
attribute [local irreducible] thenA blockA awp awpOps awpD awp1
set_option maxHeartbeats 8000000
set_option maxRecDepth 20000
/-- What Order's loop keeps. -/
structure OS where
  x : Int
  t : Nat
  bb : Nat × Nat
  ls : List Int
def OS.sl (a : OS) : AV := if a.ls = [] then .nils else .slc a.bb 1 0 a.ls.length
def OS.hp (h : AH) (b : Nat × Nat) (a : OS) : AH := if a.ls = [] then (h.tick a.t).put b (dr a.x) else ((h.tick a.t).put a.bb (some ⟨1, a.ls.map iv⟩)).put b (dr a.x)
@[go_sem] theorem OS.sl_nil (x : Int) (t : Nat) (bb : Nat × Nat) : OS.sl ⟨x, t, bb, []⟩ = .nils := rfl
theorem hold0 {h : AH} {m m' : Nat} {b : Nat × Nat} {d : Option Blk} (hx : h.at_ b = d) (hn : m ≤ m') : HOld ((h.tick m).put b d) (h.tick m') := by
  refine ⟨fun z k' hz => ?_, fun _ _ e => e, hn⟩
  simp only [AH.put, upd_apply, AH.tick] at hz ⊢
  by_cases e : z = b
  · simpa [e, hx] using hz
  · simpa [e] using hz
theorem iv_take {l : List Int} : (l.map iv).take l.length = l.map iv := List.take_of_length_le (by simp)
theorem iv_app {l : List Int} {x : Int} : l.map iv ++ [[.int .i64 x]] = (l ++ [x]).map iv := by simp [iv]
theorem iv_set {l : List Int} {i : Nat} {x : Int} : (l.map iv).set i [.int .i64 x] = (l.set i x).map iv := by rw [List.map_set]; rfl
theorem iv_getA {l : List Int} {x : Int} {i : Nat} (h : i < l.length + 1) : ((l ++ [x]).map iv).getD i [] = [.int .i64 ((l ++ [x]).getD i 0)] := ivs_getD (by simp; omega)
theorem iv_getS {l : List Int} {x z : Int} {i j : Nat} (h : i < l.length + 1) : (((l ++ [x]).set j z).map iv).getD i [] = [.int .i64 (((l ++ [x]).set j z).getD i 0)] := ivs_getD (by simp; omega)
@[go_sem] theorem OS.sl_one (x y : Int) (t : Nat) (bb : Nat × Nat) : OS.sl ⟨x, t, bb, [y]⟩ = .slc bb 1 0 1 := by simp [OS.sl]
@[go_sem] theorem OS.sl_swap (x y z u : Int) (i k t : Nat) (bb : Nat × Nat) (l : List Int) : OS.sl ⟨x, t, bb, ((l ++ [y]).set i z).set k u⟩ = .slc bb 1 0 (l.length + 1) := by
  unfold OS.sl
  rw [if_neg (by intro h; have := congrArg List.length h; simp at this)]
  simp
theorem c35 (b : Nat × Nat) (N : Int) (hN : 0 ≤ N ∧ N ≤ 1000) : Drum Try.prog 35 [.ptr b 0 0, .int .i64 N] b (fun v => ∃ l : List Int, v = .lst 1 (l.map iv) ∧ (l.length : Int) = N ∧ ∀ x ∈ l, 0 ≤ x ∧ x < N) := by
  refine Drum.give Try.call35 fun h x hx hu hold => ACalls.old Try.call35 fun hall => ?_
  have hb1 : ∀ z t, h.clk ≤ z → ¬ ((z, t) : Nat × Nat) = b := fun z t hz e => by rw [← e] at hold; exact absurd hold (by show ¬ z < h.clk; omega)
  have hb2 : ∀ z t, h.clk ≤ z → ¬ b = ((z, t) : Nat × Nat) := fun z t hz e => hb1 z t hz e.symm
  refine ACalls.of tab mixed Try.call35 Try.func35 rfl (fi := ⟨36, [], [19], none, [(7, [0, 0, 0, 0, 0, 0, 48, 112, 0, 0, 768, 1792, 4083, 8179, 16383, 32767], [(0, false), (1, false), (2, false), (3, false), (4, false), (5, false), (6, false), (7, false), (8, false), (9, false), (10, false), (11, false), (12, false), (13, true), (14, false), (15, true)])]⟩) rfl rfl (Nat.le_of_ble_eq_true rfl) (by decide) ?_
  unfold startA
  repeat' (first
      | refine st_seq_reg rfl (by first | (simp only [go_sem, hx]; rfl) | rfl) (by first | (simp only [go_sem, hx]; rfl) | rfl) ?_
      | refine st_reg rfl (by first | (simp only [go_sem, hx]; rfl) | rfl) (by first | (simp only [go_sem, hx]; rfl) | rfl) ?_
      | refine st_seq_draw rfl (by first | (simp only [go_sem, hx]; rfl) | rfl) (by first | (simp only [go_sem, hx]; rfl) | rfl) ?_
      | refine st_draw rfl (by first | (simp only [go_sem, hx]; rfl) | rfl) (by first | (simp only [go_sem, hx]; rfl) | rfl) ?_
      | refine st_op ?_
      | refine st_det rfl (by simp (disch := omega) only [go_sem, wr_i64, if_yes, if_no, ↓reduceIte, Nat.reduceAdd, Nat.reduceMul, Nat.reduceEqDiff, Nat.reduceBEq, Nat.reduceLeDiff, hx]; rfl) ?_
      | refine st_dop rfl ?_
      | refine st_loc rfl (by simp (disch := omega) only [go_sem, wr_i64, if_yes, if_no, ↓reduceIte, Nat.reduceAdd, Nat.reduceMul, Nat.reduceEqDiff, Nat.reduceBEq, Nat.reduceLeDiff, hx]; rfl) ?_
      | refine st_heap rfl (by simp (disch := omega) only [go_sem, wr_i64, if_yes, if_no, ↓reduceIte, Nat.reduceAdd, Nat.reduceMul, Nat.reduceEqDiff, Nat.reduceBEq, Nat.reduceLeDiff, hx]; rfl) ?_
      | refine st_store (by simp (disch := omega) only [go_sem, wr_i64, if_yes, if_no, ↓reduceIte, Nat.reduceAdd, Nat.reduceMul, Nat.reduceEqDiff, Nat.reduceBEq, Nat.reduceLeDiff, hx]; rfl) ?_
      | refine st_append (by simp (disch := omega) only [go_sem, wr_i64, if_yes, if_no, ↓reduceIte, Nat.reduceAdd, Nat.reduceMul, Nat.reduceEqDiff, Nat.reduceBEq, Nat.reduceLeDiff, hx]; rfl) ?_
      | refine st_gT rfl rfl rfl ?_
      | refine st_gF rfl rfl rfl ?_
      | refine st_dgT rfl rfl rfl rfl ?_
      | refine st_dgF rfl rfl rfl ?_
      | (refine st_gS rfl rfl ?_ ?_ <;> intro hg <;> (try simp only [decide_eq_true_eq, decide_eq_false_iff_not, Bool.not_eq_true', Bool.not_eq_false'] at hg))
      | (refine st_dgS rfl rfl ?_ ?_ <;> intro hg <;> (try simp only [decide_eq_true_eq, decide_eq_false_iff_not, Bool.not_eq_true', Bool.not_eq_false'] at hg))
      | refine st_condT rfl ?_
      | refine st_condF rfl ?_
      | (refine st_condS rfl ?_ ?_ <;> intro hg <;> (try simp only [decide_eq_true_eq, decide_eq_false_iff_not, Bool.not_eq_true', Bool.not_eq_false'] at hg))
      | refine st_nil ?_
      | refine st_dnil ?_
      | refine st_tN ?_
      | refine st_seq ?_
      | refine st_block ?_
      | refine st_skip ?_
      | refine st_exit ?_
      | refine st_ret ?_
      | refine st_tE ?_
      | refine st_tR ?_
      | refine st_bN ?_
      | refine st_bR ?_
      | refine st_bH ?_
      | refine st_bM rfl ?_)
  refine st_loopH (α := OS) tab mixed [] [] (by repeat (first | exact trivial | refine ⟨rfl, ?_⟩)) [] [] (by repeat (first | exact trivial | refine ⟨rfl, ?_⟩)) (fun a => [(6, .int .i64 a.ls.length), (5, a.sl)]) [(0, _), (1, _), (4, _)] (fun _ => []) [] (OS.hp h b) (fun a => a.ls.length ≤ N.toNat ∧ h.clk ≤ a.t ∧ isU64 a.x ∧ (∀ y ∈ a.ls, 0 ≤ y ∧ y < a.ls.length) ∧ (a.ls ≠ [] → h.clk ≤ a.bb.1 ∧ a.bb.1 < a.t)) (fun a => N.toNat - a.ls.length) (by decide) ⟨x, h.clk + 1 + 1 + 1, (0, 0), []⟩ ⟨by simp, by show h.clk ≤ h.clk + 1 + 1 + 1; omega, hu, by simp, by simp⟩ (by (try simp only [go_sem]); repeat' (first | exact trivial | refine And.intro ?_ ?_ | rfl | (simp (disch := omega) only [go_sem, if_yes, if_no, ↓reduceIte, Nat.reduceAdd, Nat.reduceMul, Nat.reduceEqDiff, Nat.reduceBEq, Nat.reduceLeDiff]; rfl) | (simp (disch := omega) only [go_sem, if_yes, if_no, ↓reduceIte, Nat.reduceAdd, Nat.reduceMul, Nat.reduceEqDiff, Nat.reduceBEq, Nat.reduceLeDiff]))) (by (try simp only [go_sem]); repeat' (first | exact trivial | refine And.intro ?_ ?_ | rfl | (simp (disch := omega) only [go_sem, if_yes, if_no, ↓reduceIte, Nat.reduceAdd, Nat.reduceMul, Nat.reduceEqDiff, Nat.reduceBEq, Nat.reduceLeDiff]; rfl) | (simp (disch := omega) only [go_sem, if_yes, if_no, ↓reduceIte, Nat.reduceAdd, Nat.reduceMul, Nat.reduceEqDiff, Nat.reduceBEq, Nat.reduceLeDiff]))) (hold0 hx (Nat.le_refl _)) ?_
  rintro a c ⟨i1, i2, i3, i4, i5⟩ hc
  by_cases e : a.ls = []
  · have e1 : a.sl = .nils := if_pos e
    have e2 : a.hp h b = (h.tick a.t).put b (dr a.x) := if_pos e
    rw [e2] at hc
    simp only [go_sem] at hc
    simp only [e1, e2, e, go_sem, List.length_nil]
    repeat' (first
        | refine st_seq_reg rfl (by first | (simp only [go_sem, big]; rfl) | rfl) (by first | (simp only [go_sem, big]; rfl) | rfl) ?_
        | refine st_reg rfl (by first | (simp only [go_sem, big]; rfl) | rfl) (by first | (simp only [go_sem, big]; rfl) | rfl) ?_
        | refine st_seq_draw rfl (by first | (simp only [go_sem, big]; rfl) | rfl) (by first | (simp only [go_sem, big]; rfl) | rfl) ?_
        | refine st_draw rfl (by first | (simp only [go_sem, big]; rfl) | rfl) (by first | (simp only [go_sem, big]; rfl) | rfl) ?_
        | refine st_op ?_
        | refine st_det rfl (by simp (disch := omega) only [go_sem, wr_i64, if_yes, if_no, ↓reduceIte, Nat.reduceAdd, Nat.reduceMul, Nat.reduceEqDiff, Nat.reduceBEq, Nat.reduceLeDiff, big]; rfl) ?_
        | refine st_dop rfl ?_
        | refine st_loc rfl (by simp (disch := omega) only [go_sem, wr_i64, if_yes, if_no, ↓reduceIte, Nat.reduceAdd, Nat.reduceMul, Nat.reduceEqDiff, Nat.reduceBEq, Nat.reduceLeDiff, big]; rfl) ?_
        | refine st_heap rfl (by simp (disch := omega) only [go_sem, wr_i64, if_yes, if_no, ↓reduceIte, Nat.reduceAdd, Nat.reduceMul, Nat.reduceEqDiff, Nat.reduceBEq, Nat.reduceLeDiff, big]; rfl) ?_
        | refine st_store (by simp (disch := omega) only [go_sem, wr_i64, if_yes, if_no, ↓reduceIte, Nat.reduceAdd, Nat.reduceMul, Nat.reduceEqDiff, Nat.reduceBEq, Nat.reduceLeDiff, big]; rfl) ?_
        | refine st_append (by simp (disch := omega) only [go_sem, wr_i64, if_yes, if_no, ↓reduceIte, Nat.reduceAdd, Nat.reduceMul, Nat.reduceEqDiff, Nat.reduceBEq, Nat.reduceLeDiff, big]; rfl) ?_
        | (refine st_drum (by first | (simp (disch := omega) only [go_sem, big]; rfl) | rfl) rfl (c17' b _ (by omega)) (by first | (simp (disch := omega) only [go_sem, big]; rfl) | rfl) (by assumption) (by first | (simp only [go_sem, big]; rfl) | rfl) (by intro x' n; simp (disch := omega) only [go_sem]; rfl) ?_; rintro v x' n hu' ⟨r, rfl, hr⟩ hn)
        | refine st_gT rfl rfl rfl ?_
        | refine st_gF rfl rfl rfl ?_
        | refine st_dgT rfl rfl rfl rfl ?_
        | refine st_dgF rfl rfl rfl ?_
        | (refine st_gS rfl rfl ?_ ?_ <;> intro hg <;> (try simp only [decide_eq_true_eq, decide_eq_false_iff_not, Bool.not_eq_true', Bool.not_eq_false'] at hg))
        | (refine st_dgS rfl rfl ?_ ?_ <;> intro hg <;> (try simp only [decide_eq_true_eq, decide_eq_false_iff_not, Bool.not_eq_true', Bool.not_eq_false'] at hg))
        | refine st_condT rfl ?_
        | refine st_condF rfl ?_
        | (refine st_condS rfl ?_ ?_ <;> intro hg <;> (try simp only [decide_eq_true_eq, decide_eq_false_iff_not, Bool.not_eq_true', Bool.not_eq_false'] at hg))
        | refine st_nil ?_
        | refine st_dnil ?_
        | refine st_tN ?_
        | refine st_seq ?_
        | refine st_block ?_
        | refine st_skip ?_
        | refine st_exit ?_
        | refine st_ret ?_
        | refine st_tE ?_
        | refine st_tR ?_
        | refine st_bN ?_
        | refine st_bR ?_
        | refine st_bH ?_
        | refine st_bM rfl ?_)
    · obtain rfl : r = 0 := by omega
      repeat' (first
          | refine st_seq_reg rfl (by first | (simp only [go_sem, big, List.set_cons_zero]; rfl) | rfl) (by first | (simp only [go_sem, big, List.set_cons_zero]; rfl) | rfl) ?_
          | refine st_reg rfl (by first | (simp only [go_sem, big, List.set_cons_zero]; rfl) | rfl) (by first | (simp only [go_sem, big, List.set_cons_zero]; rfl) | rfl) ?_
          | refine st_seq_draw rfl (by first | (simp only [go_sem, big, List.set_cons_zero]; rfl) | rfl) (by first | (simp only [go_sem, big, List.set_cons_zero]; rfl) | rfl) ?_
          | refine st_draw rfl (by first | (simp only [go_sem, big, List.set_cons_zero]; rfl) | rfl) (by first | (simp only [go_sem, big, List.set_cons_zero]; rfl) | rfl) ?_
          | refine st_op ?_
          | refine st_det rfl (by simp (disch := omega) only [go_sem, wr_i64, if_yes, if_no, ↓reduceIte, Nat.reduceAdd, Nat.reduceMul, Nat.reduceEqDiff, Nat.reduceBEq, Nat.reduceLeDiff, big, List.set_cons_zero]; rfl) ?_
          | refine st_dop rfl ?_
          | refine st_loc rfl (by simp (disch := omega) only [go_sem, wr_i64, if_yes, if_no, ↓reduceIte, Nat.reduceAdd, Nat.reduceMul, Nat.reduceEqDiff, Nat.reduceBEq, Nat.reduceLeDiff, big, List.set_cons_zero]; rfl) ?_
          | refine st_heap rfl (by simp (disch := omega) only [go_sem, wr_i64, if_yes, if_no, ↓reduceIte, Nat.reduceAdd, Nat.reduceMul, Nat.reduceEqDiff, Nat.reduceBEq, Nat.reduceLeDiff, big, List.set_cons_zero]; rfl) ?_
          | refine st_store (by simp (disch := omega) only [go_sem, wr_i64, if_yes, if_no, ↓reduceIte, Nat.reduceAdd, Nat.reduceMul, Nat.reduceEqDiff, Nat.reduceBEq, Nat.reduceLeDiff, big, List.set_cons_zero]; rfl) ?_
          | refine st_append (by simp (disch := omega) only [go_sem, wr_i64, if_yes, if_no, ↓reduceIte, Nat.reduceAdd, Nat.reduceMul, Nat.reduceEqDiff, Nat.reduceBEq, Nat.reduceLeDiff, big, List.set_cons_zero]; rfl) ?_
          | refine st_gT rfl rfl rfl ?_
          | refine st_gF rfl rfl rfl ?_
          | refine st_dgT rfl rfl rfl rfl ?_
          | refine st_dgF rfl rfl rfl ?_
          | (refine st_gS rfl rfl ?_ ?_ <;> intro hg <;> (try simp only [decide_eq_true_eq, decide_eq_false_iff_not, Bool.not_eq_true', Bool.not_eq_false'] at hg))
          | (refine st_dgS rfl rfl ?_ ?_ <;> intro hg <;> (try simp only [decide_eq_true_eq, decide_eq_false_iff_not, Bool.not_eq_true', Bool.not_eq_false'] at hg))
          | refine st_condT rfl ?_
          | refine st_condF rfl ?_
          | (refine st_condS rfl ?_ ?_ <;> intro hg <;> (try simp only [decide_eq_true_eq, decide_eq_false_iff_not, Bool.not_eq_true', Bool.not_eq_false'] at hg))
          | refine st_nil ?_
          | refine st_dnil ?_
          | refine st_tN ?_
          | refine st_seq ?_
          | refine st_block ?_
          | refine st_skip ?_
          | refine st_exit ?_
          | refine st_ret ?_
          | refine st_tE ?_
          | refine st_tR ?_
          | refine st_bN ?_
          | refine st_bR ?_
          | refine st_bH ?_
          | refine st_bM rfl ?_)
      refine ⟨⟨x', n + 1 + 1 + 1, (n, 20), [0]⟩, ⟨by show 1 ≤ N.toNat; omega, by show h.clk ≤ n + 1 + 1 + 1; omega, hu', by simp, fun _ => ⟨by show h.clk ≤ n; omega, by show n < n + 1 + 1 + 1; omega⟩⟩, by show N.toNat - 1 < N.toNat - 0; omega, (by (try (try simp only [go_sem])); repeat' (first | exact trivial | refine And.intro ?_ ?_ | rfl | (simp (disch := omega) only [go_sem, if_yes, if_no, ↓reduceIte, Nat.reduceAdd, Nat.reduceMul, Nat.reduceEqDiff, Nat.reduceBEq, Nat.reduceLeDiff]; rfl) | (simp (disch := omega) only [go_sem, if_yes, if_no, ↓reduceIte, Nat.reduceAdd, Nat.reduceMul, Nat.reduceEqDiff, Nat.reduceBEq, Nat.reduceLeDiff]))), (by (try (try simp only [go_sem])); repeat' (first | exact trivial | refine And.intro ?_ ?_ | rfl | (simp (disch := omega) only [go_sem, if_yes, if_no, ↓reduceIte, Nat.reduceAdd, Nat.reduceMul, Nat.reduceEqDiff, Nat.reduceBEq, Nat.reduceLeDiff]; rfl) | (simp (disch := omega) only [go_sem, if_yes, if_no, ↓reduceIte, Nat.reduceAdd, Nat.reduceMul, Nat.reduceEqDiff, Nat.reduceBEq, Nat.reduceLeDiff]))), rfl, by rw [OS.hp, if_neg (by simp)]; exact hold1 (Nat.le_refl _) (hb1 _ _ (by omega))⟩
    · simp (disch := omega) only [AEnd, Try.results35, aresK, fin, go_sem, ↓reduceIte, Nat.reduceEqDiff, Nat.reduceAdd, Nat.reduceLeDiff, if_yes, if_no, implies_true, true_and, and_true, List.reverse_cons, List.reverse_nil]
      refine ⟨fun b' _ h2 => if_neg h2, ⟨_, rfl, i3⟩, .inl ⟨.lst 1 [], VLe.nils 1, [], rfl, by simp; omega, by simp⟩⟩
  · have e1 : a.sl = .slc a.bb 1 0 a.ls.length := if_neg e
    have e2 : a.hp h b = ((h.tick a.t).put a.bb (some ⟨1, a.ls.map iv⟩)).put b (dr a.x) := if_neg e
    have e6 := i5 e
    have hbb : ¬ a.bb = b := fun e' => by rw [e'] at e6; omega
    have hbn : h.at_ a.bb = none := by
      cases e' : h.at_ a.bb with
      | none => rfl
      | some k => exact absurd (hall _ _ e') (by omega)
    rw [e2] at hc
    simp only [go_sem] at hc
    simp only [e1, e2, go_sem]
    repeat' (first
        | refine st_seq_reg rfl (by first | (simp only [go_sem, hbb, big, List.length_map, iv_take, iv_app, iv_set, iv_getA, iv_getS, List.length_append, List.length_set, List.length_singleton]; rfl) | rfl) (by first | (simp only [go_sem, hbb, big, List.length_map, iv_take, iv_app, iv_set, iv_getA, iv_getS, List.length_append, List.length_set, List.length_singleton]; rfl) | rfl) ?_
        | refine st_reg rfl (by first | (simp only [go_sem, hbb, big, List.length_map, iv_take, iv_app, iv_set, iv_getA, iv_getS, List.length_append, List.length_set, List.length_singleton]; rfl) | rfl) (by first | (simp only [go_sem, hbb, big, List.length_map, iv_take, iv_app, iv_set, iv_getA, iv_getS, List.length_append, List.length_set, List.length_singleton]; rfl) | rfl) ?_
        | refine st_seq_draw rfl (by first | (simp only [go_sem, hbb, big, List.length_map, iv_take, iv_app, iv_set, iv_getA, iv_getS, List.length_append, List.length_set, List.length_singleton]; rfl) | rfl) (by first | (simp only [go_sem, hbb, big, List.length_map, iv_take, iv_app, iv_set, iv_getA, iv_getS, List.length_append, List.length_set, List.length_singleton]; rfl) | rfl) ?_
        | refine st_draw rfl (by first | (simp only [go_sem, hbb, big, List.length_map, iv_take, iv_app, iv_set, iv_getA, iv_getS, List.length_append, List.length_set, List.length_singleton]; rfl) | rfl) (by first | (simp only [go_sem, hbb, big, List.length_map, iv_take, iv_app, iv_set, iv_getA, iv_getS, List.length_append, List.length_set, List.length_singleton]; rfl) | rfl) ?_
        | refine st_op ?_
        | refine st_det rfl (by simp (disch := omega) only [go_sem, wr_i64, if_yes, if_no, ↓reduceIte, Nat.reduceAdd, Nat.reduceMul, Nat.reduceEqDiff, Nat.reduceBEq, Nat.reduceLeDiff, hbb, big, List.length_map, iv_take, iv_app, iv_set, iv_getA, iv_getS, List.length_append, List.length_set, List.length_singleton]; rfl) ?_
        | refine st_dop rfl ?_
        | refine st_loc rfl (by simp (disch := omega) only [go_sem, wr_i64, if_yes, if_no, ↓reduceIte, Nat.reduceAdd, Nat.reduceMul, Nat.reduceEqDiff, Nat.reduceBEq, Nat.reduceLeDiff, hbb, big, List.length_map, iv_take, iv_app, iv_set, iv_getA, iv_getS, List.length_append, List.length_set, List.length_singleton]; rfl) ?_
        | refine st_heap rfl (by simp (disch := omega) only [go_sem, wr_i64, if_yes, if_no, ↓reduceIte, Nat.reduceAdd, Nat.reduceMul, Nat.reduceEqDiff, Nat.reduceBEq, Nat.reduceLeDiff, hbb, big, List.length_map, iv_take, iv_app, iv_set, iv_getA, iv_getS, List.length_append, List.length_set, List.length_singleton]; rfl) ?_
        | refine st_store (by simp (disch := omega) only [go_sem, wr_i64, if_yes, if_no, ↓reduceIte, Nat.reduceAdd, Nat.reduceMul, Nat.reduceEqDiff, Nat.reduceBEq, Nat.reduceLeDiff, hbb, big, List.length_map, iv_take, iv_app, iv_set, iv_getA, iv_getS, List.length_append, List.length_set, List.length_singleton]; rfl) ?_
        | refine st_append (by simp (disch := omega) only [go_sem, wr_i64, if_yes, if_no, ↓reduceIte, Nat.reduceAdd, Nat.reduceMul, Nat.reduceEqDiff, Nat.reduceBEq, Nat.reduceLeDiff, hbb, big, List.length_map, iv_take, iv_app, iv_set, iv_getA, iv_getS, List.length_append, List.length_set, List.length_singleton]; rfl) ?_
        | (refine st_drum (by first | (simp (disch := omega) only [go_sem, hbb, big, List.length_map, iv_take, iv_app, iv_set, iv_getA, iv_getS, List.length_append, List.length_set, List.length_singleton]; rfl) | rfl) rfl (c17' b _ (by omega)) (by first | (simp (disch := omega) only [go_sem, hbb, big, List.length_map, iv_take, iv_app, iv_set, iv_getA, iv_getS, List.length_append, List.length_set, List.length_singleton]; rfl) | rfl) (by assumption) (by first | (simp only [go_sem, hbb, big, List.length_map, iv_take, iv_app, iv_set, iv_getA, iv_getS, List.length_append, List.length_set, List.length_singleton]; rfl) | rfl) (by intro x' n; simp (disch := omega) only [go_sem]; rfl) ?_; rintro v x' n hu' ⟨r, rfl, hr⟩ hn)
        | refine st_gT rfl rfl rfl ?_
        | refine st_gF rfl rfl rfl ?_
        | refine st_dgT rfl rfl rfl rfl ?_
        | refine st_dgF rfl rfl rfl ?_
        | (refine st_gS rfl rfl ?_ ?_ <;> intro hg <;> (try simp only [decide_eq_true_eq, decide_eq_false_iff_not, Bool.not_eq_true', Bool.not_eq_false'] at hg))
        | (refine st_dgS rfl rfl ?_ ?_ <;> intro hg <;> (try simp only [decide_eq_true_eq, decide_eq_false_iff_not, Bool.not_eq_true', Bool.not_eq_false'] at hg))
        | refine st_condT rfl ?_
        | refine st_condF rfl ?_
        | (refine st_condS rfl ?_ ?_ <;> intro hg <;> (try simp only [decide_eq_true_eq, decide_eq_false_iff_not, Bool.not_eq_true', Bool.not_eq_false'] at hg))
        | refine st_nil ?_
        | refine st_dnil ?_
        | refine st_tN ?_
        | refine st_seq ?_
        | refine st_block ?_
        | refine st_skip ?_
        | refine st_exit ?_
        | refine st_ret ?_
        | refine st_tE ?_
        | refine st_tR ?_
        | refine st_bN ?_
        | refine st_bR ?_
        | refine st_bH ?_
        | refine st_bM rfl ?_)
    · skip
      refine ⟨⟨x', n + 1 + 1 + 1, (n, 20), ((a.ls ++ [(a.ls.length : Int)]).set (0 + a.ls.length) ((a.ls ++ [(a.ls.length : Int)]).getD (0 + r.toNat) 0)).set (0 + r.toNat) ((a.ls ++ [(a.ls.length : Int)]).getD (0 + a.ls.length) 0)⟩, ⟨by simp; omega, by show h.clk ≤ n + 1 + 1 + 1; omega, hu', ?_, fun _ => ⟨by show h.clk ≤ n; omega, by show n < n + 1 + 1 + 1; omega⟩⟩, by simp; omega, (by (try (try simp only [go_sem, List.length_set, List.length_append, List.length_singleton])); repeat' (first | exact trivial | refine And.intro ?_ ?_ | rfl | (simp (disch := omega) only [go_sem, if_yes, if_no, ↓reduceIte, Nat.reduceAdd, Nat.reduceMul, Nat.reduceEqDiff, Nat.reduceBEq, Nat.reduceLeDiff]; rfl) | (simp (disch := omega) only [go_sem, if_yes, if_no, ↓reduceIte, Nat.reduceAdd, Nat.reduceMul, Nat.reduceEqDiff, Nat.reduceBEq, Nat.reduceLeDiff]))), (by (try (try simp only [go_sem, List.length_set, List.length_append, List.length_singleton])); repeat' (first | exact trivial | refine And.intro ?_ ?_ | rfl | (simp (disch := omega) only [go_sem, if_yes, if_no, ↓reduceIte, Nat.reduceAdd, Nat.reduceMul, Nat.reduceEqDiff, Nat.reduceBEq, Nat.reduceLeDiff]; rfl) | (simp (disch := omega) only [go_sem, if_yes, if_no, ↓reduceIte, Nat.reduceAdd, Nat.reduceMul, Nat.reduceEqDiff, Nat.reduceBEq, Nat.reduceLeDiff]))), rfl, by rw [OS.hp, if_neg (by intro h; have := congrArg List.length h; simp at this)]; exact hold2 (Nat.le_refl _) rfl (hb1 _ _ (by omega)) hbn hbb⟩
      intro y hy
      have hall1 : ∀ z ∈ a.ls ++ [(a.ls.length : Int)], 0 ≤ z ∧ z < (a.ls.length : Int) + 1 := by
        intro z hz
        rcases List.mem_append.1 hz with hz | hz
        · have := i4 z hz; omega
        · rw [List.mem_singleton.1 hz]; omega
      have hget : ∀ j, j < a.ls.length + 1 → 0 ≤ (a.ls ++ [(a.ls.length : Int)]).getD j 0 ∧ (a.ls ++ [(a.ls.length : Int)]).getD j 0 < (a.ls.length : Int) + 1 := by
        intro j hj
        have hj2 : j < (a.ls ++ [(a.ls.length : Int)]).length := by simp; omega
        rw [List.getD_eq_getElem?_getD, List.getElem?_eq_getElem hj2]
        exact hall1 _ (List.getElem_mem hj2)
      have hlen : ∀ (u v : Int) (j k : Nat), ((((a.ls ++ [(a.ls.length : Int)]).set j u).set k v).length : Int) = (a.ls.length : Int) + 1 := by intro u v j k; simp
      show 0 ≤ y ∧ y < ((((a.ls ++ [(a.ls.length : Int)]).set _ _).set _ _).length : Int)
      rw [hlen]
      rcases List.mem_or_eq_of_mem_set hy with hy | hy
      · rcases List.mem_or_eq_of_mem_set hy with hy | hy
        · exact hall1 y hy
        · rw [hy]; exact hget _ (by omega)
      · rw [hy]; exact hget _ (by omega)
    · simp (disch := omega) only [AEnd, Try.results35, aresK, fin, go_sem, ↓reduceIte, Nat.reduceEqDiff, Nat.reduceAdd, Nat.reduceLeDiff, if_yes, if_no, implies_true, true_and, and_true, List.reverse_cons, List.reverse_nil]
      refine ⟨fun b' h1 h2 => ?_, ⟨_, rfl, i3⟩, .inr ⟨a.bb, ⟨1, a.ls.map iv⟩, e6.1, ?_, a.ls, ?_, by omega, fun y hy => ?_⟩⟩
      · rw [if_neg h2, if_neg (fun e' => by rw [e'] at h1; omega)]
      · simp [hbb]
      · simp [frz, List.take_of_length_le, frz_iv]
      · have := i4 y hy; omega
end Go.Proofs.Ytkjpceapflhmnaa
