/- Contracts of functions that the claim reaches: what each call gives, told in our own logic. Conditions: those of each theorem. -/
import Derived.Test.YtkjpceapflhmnaaF40b
import Derived.Test.YtkjpceapflhmnaaF23
set_option linter.all false
set_option linter.unusedSimpArgs false
set_option linter.unusedVariables false
namespace Go.Proofs.Ytkjpceapflhmnaa
open Go.Av
attribute [local irreducible] thenA blockA awp awpOps awpD awp1
set_option maxHeartbeats 8000000
set_option maxRecDepth 20000
/-! ### Floats of few truths -/
def Few (l : List Ld) : Prop := ∀ x ∈ l, x.hi ≤ x.lo + 2 ∧ x.thi ≤ x.tlo + 1
/-- What the loop that narrows loads keeps. -/
structure Nw (f : Fl) (i : Nat) (ys : List Ld) : Prop where
  len : ys.length = f.loads.length
  good : ∀ x ∈ ys, LdGood f x
  few : ∀ j, j < i → (ld ys j).hi ≤ (ld ys j).lo + 2 ∧ (ld ys j).thi ≤ (ld ys j).tlo + 1
theorem Nw.step {f : Fl} {i : Nat} {ys : List Ld} {k t p q : Int} (h : Nw f i ys) (hi : i < f.loads.length) (hk : 0 ≤ k ∧ k < 20) (ht : 0 ≤ t ∧ t < 40) (hp : 0 ≤ p ∧ p < 3) (hq : 0 ≤ q ∧ q < 2) :
    Nw f (i + 1) (ys.set i ⟨(ld ys i).at_, k, k + p, t, t + q, (ld ys i).kind, (ld ys i).watts⟩) := by
  have hl := h.len
  refine ⟨by rw [List.length_set]; exact hl, fun x hx => ?_, fun j hj => ?_⟩
  · rcases List.mem_or_eq_of_mem_set hx with h1 | rfl
    · exact h.good x h1
    · have g := h.good _ (ld_mem (l := ys) (i := i) (by omega))
      exact ⟨g.at_, ⟨by dsimp only; omega, by dsimp only; omega, by dsimp only; omega⟩, ⟨by dsimp only; omega, by dsimp only; omega, by dsimp only; omega⟩, g.kind, g.watts⟩
  · by_cases e : j = i
    · subst e; rw [ld_set_eq (by omega)]; exact ⟨by dsimp only; omega, by dsimp only; omega⟩
    · rw [ld_set_ne e]; exact h.few j (by omega)
theorem Nw.fin {f : Fl} {n kk hh : Int} {ys : List Ld} (hf : FlGood f n) (hk : 0 ≤ kk ∧ kk < 30) (hh' : 0 ≤ hh ∧ hh < 40) (h : Nw f f.loads.length ys) : FlGood { f with kilos := kk, high := hh, loads := ys } n ∧ Few ys := by
  refine ⟨⟨hf.len, hf.wid, hf.axles, hf.turn, ⟨by dsimp only; omega, by dsimp only; omega⟩, hf.mid, ⟨by dsimp only; omega, by dsimp only; omega⟩, ?_, fun y hy => ?_⟩, fun y hy => ?_⟩
  · show (ys.length : Int) ≤ n
    rw [h.len]; exact hf.many
  · have g := h.good y hy
    exact ⟨g.at_, g.kilos, g.top, g.kind, g.watts⟩
  · obtain ⟨i, hi, rfl⟩ := ld_idx hy
    exact h.few i (by have h1 := h.len; have h2 : i < ys.length := hi; omega)
structure SS where
  i : Nat
  x : Int
  t : Nat
  ys : List Ld
def SS.hp (h : AH) (b bb : Nat × Nat) (a : SS) : AH := ((h.tick a.t).put bb (some ⟨7, a.ys.map Ld.row⟩)).put b (dr a.x)
theorem hold_s {h : AH} {m m' : Nat} {b bb : Nat × Nat} {k0 k d : Option Blk} (hn : m ≤ m') (hne : ¬ bb = b) : HOld (((h.tick m).put bb k).put b d) ((((h.tick m').put bb k0).put b d).put bb k) := by
  refine ⟨fun z k2 hz => ?_, fun _ _ e => e, hn⟩
  simp only [AH.put, upd_apply, AH.tick] at hz ⊢
  by_cases e : z = bb
  · subst e; simpa [hne] using hz
  · by_cases e2 : z = b
    · subst e2; simpa [e] using hz
    · simpa [e, e2] using hz
theorem c59 (b : Nat × Nat) : Drum Try.prog 59 [.ptr b 0 0] b (fun v => ∃ f, v = Fl.av f ∧ FlGood f 3 ∧ Few f.loads) := by
  refine Drum.give Try.call59 fun h x hx hu hold => ACalls.old Try.call59 fun hall => ?_
  refine ACalls.of tab mixed Try.call59 Try.func59 rfl (fi := ⟨49, [2, 3], [], none, [(7, [0, 1, 0, 0, 8, 0, 0, 0, 0, 256, 896, 1984, 0, 0, 0, 17152, 58112, 127744, 53191, 315335, 839623, 2097151, 4194303, 8388607], [(0, false), (1, true), (2, false), (3, false), (4, true), (5, false), (6, false), (7, false), (8, false), (12, false), (13, false), (14, false), (9, false), (10, false), (11, false), (15, false), (16, false), (17, false), (18, false), (19, false), (20, true), (21, false), (22, false), (23, true)])]⟩) rfl rfl (Nat.le_of_ble_eq_true rfl) (by decide) ?_
  unfold startA
  repeat' (first
      | refine st_seq_reg rfl (by first | (simp only [go_sem, hx]; rfl) | rfl) (by first | (simp only [go_sem, hx]; rfl) | rfl) ?_
      | refine st_reg rfl (by first | (simp only [go_sem, hx]; rfl) | rfl) (by first | (simp only [go_sem, hx]; rfl) | rfl) ?_
      | refine st_seq_draw rfl (by first | (simp only [go_sem, hx]; rfl) | rfl) (by first | (simp only [go_sem, hx]; rfl) | rfl) ?_
      | refine st_draw rfl (by first | (simp only [go_sem, hx]; rfl) | rfl) (by first | (simp only [go_sem, hx]; rfl) | rfl) ?_
      | refine st_op ?_
      | refine st_det rfl (by simp (disch := omega) only [go_sem, wr_i64, if_yes, if_no, ↓reduceIte, Nat.reduceAdd, Nat.reduceMul, Nat.reduceEqDiff, Nat.reduceBEq, Nat.reduceLeDiff, hx]; rfl) ?_
      | refine st_dop rfl ?_
      | refine st_loc rfl (by simp (disch := omega) only [go_sem, wr_i64, if_yes, if_no, ↓reduceIte, Nat.reduceAdd, Nat.reduceMul, Nat.reduceEqDiff, Nat.reduceBEq, Nat.reduceLeDiff, hx]; rfl) ?_
      | refine st_heap rfl (by simp (disch := omega) only [go_sem, wr_i64, if_yes, if_no, ↓reduceIte, Nat.reduceAdd, Nat.reduceMul, Nat.reduceEqDiff, Nat.reduceBEq, Nat.reduceLeDiff, hx]; rfl) ?_
      | refine st_store (by simp (disch := omega) only [go_sem, wr_i64, if_yes, if_no, ↓reduceIte, Nat.reduceAdd, Nat.reduceMul, Nat.reduceEqDiff, Nat.reduceBEq, Nat.reduceLeDiff, hx]; rfl) ?_
      | refine st_append (by simp (disch := omega) only [go_sem, wr_i64, if_yes, if_no, ↓reduceIte, Nat.reduceAdd, Nat.reduceMul, Nat.reduceEqDiff, Nat.reduceBEq, Nat.reduceLeDiff, hx]; rfl) ?_
      | (refine st_callf rfl rfl (c15h b 3 (by omega) _ x (by simp only [go_sem, ↓reduceIte, hx]) hu) ?_; rintro v h' ⟨f, x', n1, hf, hu', hn, ⟨e0, rfl, rfl⟩ | ⟨bb, rfl, hb3, hb4, rfl⟩⟩)
      | (refine st_drum (by first | (simp (disch := omega) only [go_sem, hx]; rfl) | rfl) rfl (c17' b _ (by omega)) (by first | (simp (disch := omega) only [go_sem, hx]; rfl) | rfl) (by assumption) (by first | (simp only [go_sem, hx]; rfl) | rfl) (by intro x' n; simp (disch := omega) only [go_sem]; rfl) ?_; rintro v x' n hu' ⟨r, rfl, hr⟩ hn)
      | refine st_gT rfl rfl rfl ?_
      | refine st_gF rfl rfl rfl ?_
      | refine st_dgT rfl rfl rfl rfl ?_
      | refine st_dgF rfl rfl rfl ?_
      | (refine st_gS rfl rfl ?_ ?_ <;> intro hg <;> (try simp only [decide_eq_true_eq, decide_eq_false_iff_not, Bool.not_eq_true', Bool.not_eq_false'] at hg))
      | (refine st_dgS rfl rfl ?_ ?_ <;> intro hg <;> (try simp only [decide_eq_true_eq, decide_eq_false_iff_not, Bool.not_eq_true', Bool.not_eq_false'] at hg))
      | refine st_condT rfl ?_
      | refine st_condF rfl ?_
      | (refine st_condS rfl ?_ ?_ <;> intro hg <;> (try simp only [decide_eq_true_eq, decide_eq_false_iff_not, Bool.not_eq_true', Bool.not_eq_false'] at hg))
      | refine st_nil ?_
      | refine st_dnil ?_
      | refine st_tN ?_
      | refine st_seq ?_
      | refine st_block ?_
      | refine st_skip ?_
      | refine st_exit ?_
      | refine st_ret ?_
      | refine st_tE ?_
      | refine st_tR ?_
      | refine st_bN ?_
      | refine st_bR ?_
      | refine st_bH ?_
      | refine st_bM rfl ?_)
  · refine st_loopC (α := Nat) tab mixed [] [] (by repeat (first | exact trivial | refine ⟨rfl, ?_⟩)) [2, 3] [_, _] (by repeat (first | exact trivial | refine ⟨rfl, ?_⟩)) (fun i => [(4, .int .i64 (i : Nat))]) [(0, _), (2, _), (3, _)] (fun _ => []) [_, _] (fun i => i = 0) (fun _ => 0) (by decide) 0 rfl (by (try simp only [go_sem]); repeat' (first | exact trivial | refine And.intro ?_ ?_ | rfl | (simp (disch := omega) only [go_sem, if_yes, if_no, ↓reduceIte, Nat.reduceAdd, Nat.reduceMul, Nat.reduceEqDiff, Nat.reduceBEq, Nat.reduceLeDiff]; rfl) | (simp (disch := omega) only [go_sem, if_yes, if_no, ↓reduceIte, Nat.reduceAdd, Nat.reduceMul, Nat.reduceEqDiff, Nat.reduceBEq, Nat.reduceLeDiff]))) (by (try simp only [go_sem]); repeat' (first | exact trivial | refine And.intro ?_ ?_ | rfl | (simp (disch := omega) only [go_sem, if_yes, if_no, ↓reduceIte, Nat.reduceAdd, Nat.reduceMul, Nat.reduceEqDiff, Nat.reduceBEq, Nat.reduceLeDiff]; rfl) | (simp (disch := omega) only [go_sem, if_yes, if_no, ↓reduceIte, Nat.reduceAdd, Nat.reduceMul, Nat.reduceEqDiff, Nat.reduceBEq, Nat.reduceLeDiff]))) (by first | (simp only [go_sem]; rfl) | rfl) (by intro n; simp only [go_sem]; rfl) ?_
    rintro i c rfl hc
    simp only [go_sem]
    repeat' (first
        | refine st_seq_reg rfl (by first | (simp only [go_sem]; rfl) | rfl) (by first | (simp only [go_sem]; rfl) | rfl) ?_
        | refine st_reg rfl (by first | (simp only [go_sem]; rfl) | rfl) (by first | (simp only [go_sem]; rfl) | rfl) ?_
        | refine st_seq_draw rfl (by first | (simp only [go_sem]; rfl) | rfl) (by first | (simp only [go_sem]; rfl) | rfl) ?_
        | refine st_draw rfl (by first | (simp only [go_sem]; rfl) | rfl) (by first | (simp only [go_sem]; rfl) | rfl) ?_
        | refine st_op ?_
        | refine st_det rfl (by simp (disch := omega) only [go_sem, wr_i64, if_yes, if_no, ↓reduceIte, Nat.reduceAdd, Nat.reduceMul, Nat.reduceEqDiff, Nat.reduceBEq, Nat.reduceLeDiff]; rfl) ?_
        | refine st_dop rfl ?_
        | refine st_loc rfl (by simp (disch := omega) only [go_sem, wr_i64, if_yes, if_no, ↓reduceIte, Nat.reduceAdd, Nat.reduceMul, Nat.reduceEqDiff, Nat.reduceBEq, Nat.reduceLeDiff]; rfl) ?_
        | refine st_heap rfl (by simp (disch := omega) only [go_sem, wr_i64, if_yes, if_no, ↓reduceIte, Nat.reduceAdd, Nat.reduceMul, Nat.reduceEqDiff, Nat.reduceBEq, Nat.reduceLeDiff]; rfl) ?_
        | refine st_store (by simp (disch := omega) only [go_sem, wr_i64, if_yes, if_no, ↓reduceIte, Nat.reduceAdd, Nat.reduceMul, Nat.reduceEqDiff, Nat.reduceBEq, Nat.reduceLeDiff]; rfl) ?_
        | refine st_append (by simp (disch := omega) only [go_sem, wr_i64, if_yes, if_no, ↓reduceIte, Nat.reduceAdd, Nat.reduceMul, Nat.reduceEqDiff, Nat.reduceBEq, Nat.reduceLeDiff]; rfl) ?_
        | (refine st_drum (by first | (simp (disch := omega) only [go_sem]; rfl) | rfl) rfl (c17' b _ (by omega)) (by first | (simp (disch := omega) only [go_sem]; rfl) | rfl) (by assumption) (by first | (simp only [go_sem]; rfl) | rfl) (by intro x' n; simp (disch := omega) only [go_sem]; rfl) ?_; rintro v x' n hu' ⟨r, rfl, hr⟩ hn)
        | refine st_gT rfl rfl rfl ?_
        | refine st_gF rfl rfl rfl ?_
        | refine st_dgT rfl rfl rfl rfl ?_
        | refine st_dgF rfl rfl rfl ?_
        | (refine st_gS rfl rfl ?_ ?_ <;> intro hg <;> (try simp only [decide_eq_true_eq, decide_eq_false_iff_not, Bool.not_eq_true', Bool.not_eq_false'] at hg))
        | (refine st_dgS rfl rfl ?_ ?_ <;> intro hg <;> (try simp only [decide_eq_true_eq, decide_eq_false_iff_not, Bool.not_eq_true', Bool.not_eq_false'] at hg))
        | refine st_condT rfl ?_
        | refine st_condF rfl ?_
        | (refine st_condS rfl ?_ ?_ <;> intro hg <;> (try simp only [decide_eq_true_eq, decide_eq_false_iff_not, Bool.not_eq_true', Bool.not_eq_false'] at hg))
        | refine st_nil ?_
        | refine st_dnil ?_
        | refine st_tN ?_
        | refine st_seq ?_
        | refine st_block ?_
        | refine st_skip ?_
        | refine st_exit ?_
        | refine st_ret ?_
        | refine st_tE ?_
        | refine st_tR ?_
        | refine st_bN ?_
        | refine st_bR ?_
        | refine st_bH ?_
        | refine st_bM rfl ?_)
    rename_i x0 n0 u0 r0 h0 m0
    simp (disch := omega) only [AEnd, Try.results59, aresK, fin, go_sem, ↓reduceIte, Nat.reduceEqDiff, Nat.reduceAdd, Nat.reduceLeDiff, if_yes, if_no, implies_true, true_and, and_true, List.reverse_cons, List.reverse_nil]
    refine ⟨fun b' _ h2 => if_neg h2, ⟨_, rfl, hu'⟩, .inl ⟨Fl.av { f with kilos := r0, high := r, loads := [] }, VLe.agg ?_ rfl, _, rfl, ?_⟩⟩
    · simp only [VLes]
      repeat (refine ⟨_, _, rfl, VLe.refl _, ?_⟩)
      exact ⟨_, _, rfl, VLe.nils 7, rfl⟩
    · exact Nw.fin hf h0 hr ⟨by rw [e0], fun x hx => (by cases hx), fun j hj => absurd hj (by rw [e0]; exact Nat.not_lt_zero _)⟩
  · have hb3' : h.clk ≤ bb.1 := Nat.le_trans (Nat.le_add_right _ 2) hb3
    have hbb : ¬ bb = b := fun e => by rw [e] at hb3'; omega
    have hbb' : ¬ b = bb := fun e => hbb e.symm
    have kn0 : Nw f 0 f.loads := ⟨rfl, hf.loads, fun j hj => absurd hj (Nat.not_lt_zero _)⟩
    have hfl := hf.many
    have hn1 : h.clk + 1 + 1 ≤ n1 := by assumption
    refine st_loopH (α := SS) tab mixed [] [] (by repeat (first | exact trivial | refine ⟨rfl, ?_⟩)) [2, 3] [_, _] (by repeat (first | exact trivial | refine ⟨rfl, ?_⟩)) (fun a => [(4, .int .i64 (a.i : Nat))]) [(0, _), (2, _), (3, _)] (fun _ => []) [_, _] (SS.hp h b bb) (fun a => a.i ≤ f.loads.length ∧ Nw f a.i a.ys ∧ isU64 a.x ∧ h.clk ≤ a.t) (fun a => f.loads.length - a.i) (by decide) ⟨0, x', n, f.loads⟩ ⟨Nat.zero_le _, kn0, hu', by show h.clk ≤ n; omega⟩ (by (try simp only [go_sem]); repeat' (first | exact trivial | refine And.intro ?_ ?_ | rfl | (simp (disch := omega) only [go_sem, if_yes, if_no, ↓reduceIte, Nat.reduceAdd, Nat.reduceMul, Nat.reduceEqDiff, Nat.reduceBEq, Nat.reduceLeDiff]; rfl) | (simp (disch := omega) only [go_sem, if_yes, if_no, ↓reduceIte, Nat.reduceAdd, Nat.reduceMul, Nat.reduceEqDiff, Nat.reduceBEq, Nat.reduceLeDiff]))) (by (try simp only [go_sem]); repeat' (first | exact trivial | refine And.intro ?_ ?_ | rfl | (simp (disch := omega) only [go_sem, if_yes, if_no, ↓reduceIte, Nat.reduceAdd, Nat.reduceMul, Nat.reduceEqDiff, Nat.reduceBEq, Nat.reduceLeDiff]; rfl) | (simp (disch := omega) only [go_sem, if_yes, if_no, ↓reduceIte, Nat.reduceAdd, Nat.reduceMul, Nat.reduceEqDiff, Nat.reduceBEq, Nat.reduceLeDiff]))) (⟨fun _ _ e => e, fun _ _ e => e, by show n ≤ n + 1; omega⟩) ?_
    rintro ⟨i, x2, t2, ys⟩ c ⟨i1, i2, i3, i4⟩ hc
    dsimp only at i1 i2 i3 i4
    have i5 := i2.len
    have e2 : SS.hp h b bb ⟨i, x2, t2, ys⟩ = ((h.tick t2).put bb (some ⟨7, ys.map Ld.row⟩)).put b (dr x2) := rfl
    rw [e2] at hc
    simp only [go_sem] at hc
    simp only [e2, go_sem]
    repeat' (first
        | refine st_seq_reg rfl (by first | (simp only [go_sem, hbb, hbb', List.length_map, List.length_set, i5, Nat.zero_add, ld_setR, ld_setS, set_setL]; rfl) | rfl) (by first | (simp only [go_sem, hbb, hbb', List.length_map, List.length_set, i5, Nat.zero_add, ld_setR, ld_setS, set_setL]; rfl) | rfl) ?_
        | refine st_reg rfl (by first | (simp only [go_sem, hbb, hbb', List.length_map, List.length_set, i5, Nat.zero_add, ld_setR, ld_setS, set_setL]; rfl) | rfl) (by first | (simp only [go_sem, hbb, hbb', List.length_map, List.length_set, i5, Nat.zero_add, ld_setR, ld_setS, set_setL]; rfl) | rfl) ?_
        | refine st_seq_draw rfl (by first | (simp only [go_sem, hbb, hbb', List.length_map, List.length_set, i5, Nat.zero_add, ld_setR, ld_setS, set_setL]; rfl) | rfl) (by first | (simp only [go_sem, hbb, hbb', List.length_map, List.length_set, i5, Nat.zero_add, ld_setR, ld_setS, set_setL]; rfl) | rfl) ?_
        | refine st_draw rfl (by first | (simp only [go_sem, hbb, hbb', List.length_map, List.length_set, i5, Nat.zero_add, ld_setR, ld_setS, set_setL]; rfl) | rfl) (by first | (simp only [go_sem, hbb, hbb', List.length_map, List.length_set, i5, Nat.zero_add, ld_setR, ld_setS, set_setL]; rfl) | rfl) ?_
        | refine st_op ?_
        | refine st_det rfl (by simp (disch := omega) only [go_sem, wr_i64, if_yes, if_no, ↓reduceIte, Nat.reduceAdd, Nat.reduceMul, Nat.reduceEqDiff, Nat.reduceBEq, Nat.reduceLeDiff, hbb, hbb', List.length_map, List.length_set, i5, Nat.zero_add, ld_setR, ld_setS, set_setL]; rfl) ?_
        | refine st_dop rfl ?_
        | refine st_loc rfl (by simp (disch := omega) only [go_sem, wr_i64, if_yes, if_no, ↓reduceIte, Nat.reduceAdd, Nat.reduceMul, Nat.reduceEqDiff, Nat.reduceBEq, Nat.reduceLeDiff, hbb, hbb', List.length_map, List.length_set, i5, Nat.zero_add, ld_setR, ld_setS, set_setL]; rfl) ?_
        | refine st_heap rfl (by simp (disch := omega) only [go_sem, wr_i64, if_yes, if_no, ↓reduceIte, Nat.reduceAdd, Nat.reduceMul, Nat.reduceEqDiff, Nat.reduceBEq, Nat.reduceLeDiff, hbb, hbb', List.length_map, List.length_set, i5, Nat.zero_add, ld_setR, ld_setS, set_setL]; rfl) ?_
        | refine st_store (by simp (disch := omega) only [go_sem, wr_i64, if_yes, if_no, ↓reduceIte, Nat.reduceAdd, Nat.reduceMul, Nat.reduceEqDiff, Nat.reduceBEq, Nat.reduceLeDiff, hbb, hbb', List.length_map, List.length_set, i5, Nat.zero_add, ld_setR, ld_setS, set_setL]; rfl) ?_
        | refine st_append (by simp (disch := omega) only [go_sem, wr_i64, if_yes, if_no, ↓reduceIte, Nat.reduceAdd, Nat.reduceMul, Nat.reduceEqDiff, Nat.reduceBEq, Nat.reduceLeDiff, hbb, hbb', List.length_map, List.length_set, i5, Nat.zero_add, ld_setR, ld_setS, set_setL]; rfl) ?_
        | (refine st_drum (by first | (simp (disch := omega) only [go_sem, hbb, hbb', List.length_map, List.length_set, i5, Nat.zero_add, ld_setR, ld_setS, set_setL]; rfl) | rfl) rfl (c17' b _ (by omega)) (by first | (simp (disch := omega) only [go_sem, hbb, hbb', List.length_map, List.length_set, i5, Nat.zero_add, ld_setR, ld_setS, set_setL]; rfl) | rfl) (by assumption) (by first | (simp only [go_sem, hbb, hbb', List.length_map, List.length_set, i5, Nat.zero_add, ld_setR, ld_setS, set_setL]; rfl) | rfl) (by intro x' n; simp (disch := omega) only [go_sem]; rfl) ?_; rintro v x' n hu' ⟨r, rfl, hr⟩ hn)
        | refine st_gT rfl rfl rfl ?_
        | refine st_gF rfl rfl rfl ?_
        | refine st_dgT rfl rfl rfl rfl ?_
        | refine st_dgF rfl rfl rfl ?_
        | (refine st_gS rfl rfl ?_ ?_ <;> intro hg <;> (try simp only [decide_eq_true_eq, decide_eq_false_iff_not, Bool.not_eq_true', Bool.not_eq_false'] at hg))
        | (refine st_dgS rfl rfl ?_ ?_ <;> intro hg <;> (try simp only [decide_eq_true_eq, decide_eq_false_iff_not, Bool.not_eq_true', Bool.not_eq_false'] at hg))
        | refine st_condT rfl ?_
        | refine st_condF rfl ?_
        | (refine st_condS rfl ?_ ?_ <;> intro hg <;> (try simp only [decide_eq_true_eq, decide_eq_false_iff_not, Bool.not_eq_true', Bool.not_eq_false'] at hg))
        | refine st_nil ?_
        | refine st_dnil ?_
        | refine st_tN ?_
        | refine st_seq ?_
        | refine st_block ?_
        | refine st_skip ?_
        | refine st_exit ?_
        | refine st_ret ?_
        | refine st_tE ?_
        | refine st_tR ?_
        | refine st_bN ?_
        | refine st_bR ?_
        | refine st_bH ?_
        | refine st_bM rfl ?_)
    · rename_i xa na ua ra ha ma xb nb ub rb hb' mb xc nc uc rc hc' mc
      refine ⟨⟨i + 1, x', n + 1, ys.set i ⟨(ld ys i).at_, ra, ra + rc, rb, rb + r, (ld ys i).kind, (ld ys i).watts⟩⟩, ⟨by show i + 1 ≤ _; omega, i2.step (by omega) ha hb' hc' hr, hu', by show h.clk ≤ n + 1; omega⟩, by show f.loads.length - (i + 1) < f.loads.length - i; omega, (by repeat' (first | exact trivial | refine And.intro ?_ ?_ | rfl | (simp (disch := omega) only [go_sem, if_yes, if_no, ↓reduceIte, Nat.reduceAdd, Nat.reduceMul, Nat.reduceEqDiff, Nat.reduceBEq, Nat.reduceLeDiff]; rfl) | (simp (disch := omega) only [go_sem, if_yes, if_no, ↓reduceIte, Nat.reduceAdd, Nat.reduceMul, Nat.reduceEqDiff, Nat.reduceBEq, Nat.reduceLeDiff]))), (by repeat' (first | exact trivial | refine And.intro ?_ ?_ | rfl | (simp (disch := omega) only [go_sem, if_yes, if_no, ↓reduceIte, Nat.reduceAdd, Nat.reduceMul, Nat.reduceEqDiff, Nat.reduceBEq, Nat.reduceLeDiff]; rfl) | (simp (disch := omega) only [go_sem, if_yes, if_no, ↓reduceIte, Nat.reduceAdd, Nat.reduceMul, Nat.reduceEqDiff, Nat.reduceBEq, Nat.reduceLeDiff]))), rfl, hold_s (Nat.le_refl _) hbb⟩
    · rename_i x0 n0 u0 r0 h0 m0
      simp (disch := omega) only [AEnd, Try.results59, aresK, fin, go_sem, ↓reduceIte, Nat.reduceEqDiff, Nat.reduceAdd, Nat.reduceLeDiff, if_yes, if_no, implies_true, true_and, and_true, List.reverse_cons, List.reverse_nil]
      obtain rfl : i = f.loads.length := by omega
      refine ⟨fun b' h1 h2 => ?_, ⟨_, rfl, hu'⟩, .inr ⟨bb, ⟨7, ys.map Ld.row⟩, hb3', ?_, { f with kilos := r0, high := r, loads := ys }, ?_, Nw.fin hf h0 hr i2⟩⟩
      · rw [if_neg h2, if_neg (fun e' => by rw [e'] at h1; omega)]
      · simp [hbb]
      · simp [frz, frzs, Fl.av, i5, List.take_of_length_le]
end Go.Proofs.Ytkjpceapflhmnaa
