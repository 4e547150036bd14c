/- Contracts of functions that the claim reaches: what each call gives, told in our own logic. Conditions: those of each theorem. -/
import Derived.Test.YthjbfdfhblloiaaQ69
import Derived.Test.YthjbfdfhblloiaaQ63
import Derived.Test.YthjbfdfhblloiaaW3
import Derived.Test.YthjbfdfhblloiaaQ31
import Derived.Test.YthjbfdfhblloiaaBaseC
import Derived.Test.YthjbfdfhblloiaaBaseD
import Derived.Test.YthjbfdfhblloiaaQ62
import Derived.Test.YthjbfdfhblloiaaW11
set_option linter.all false
set_option linter.unusedSimpArgs false
set_option linter.unusedVariables false
namespace Go.Proofs.Ythjbfdfhblloiaa
open Go.Av
attribute [local irreducible] thenA blockA awp awpOps awpD awp1
set_option maxHeartbeats 8000000
set_option maxRecDepth 20000
theorem whV_two (t : Tw) (c : List Int) (g st : Int) : ∃ (W : List Int) (b : Bool) (e : Int), whV t c g st = .tup [.lst 1 (W.map iv), .bool b, .int .i64 e] ∧ W.length ≤ 1000000 := by
  unfold whV
  split
  · exact ⟨[], _, _, rfl, by decide⟩
  · rename_i h0
    split
    · exact ⟨[], _, _, rfl, by decide⟩
    · split
      · exact ⟨[], _, _, rfl, by decide⟩
      · obtain ⟨hT, _⟩ := cloOk (Classical.byContradiction h0 : cloE t c = 0)
        have hrn := hT.rn
        refine ⟨_, _, _, rfl, ?_⟩
        have := whN_len (t := t) (s := cls c) (g := gp t.gs g.toNat) (st := st) t.rooms.length
        omega
theorem ldsR_two (t : Tw) (c : List Int) (st : Int) : ∃ (L : List (Int × Int)) (e : Int), ldsR t c st = .tup [.lst 2 (L.map spR), .int .i64 e] ∧ L.length ≤ 1000000 := by
  unfold ldsR
  split
  · exact ⟨[], _, rfl, by decide⟩
  · rename_i h0
    split
    · exact ⟨[], _, rfl, by decide⟩
    · obtain ⟨hT, _⟩ := cloOk (Classical.byContradiction h0 : cloE t c = 0)
      have hrn := hT.rn
      refine ⟨(List.range t.rooms.length).map fun (q : Nat) => (ldLo t (cls c) (q : Nat) st, ldHi t (cls c) (q : Nat) st), 0, ?_, by simp; omega⟩
      unfold ldR
      rw [List.map_map]; rfl
theorem crsV_two (t : Tw) (c : List Int) : ∃ (L : List Cr) (e : Int), crsV t c = .tup [.lst 3 (L.map Cr.row), .int .i64 e] ∧ L.length ≤ 1000000 := by
  unfold crsV
  split
  · exact ⟨[], _, rfl, by decide⟩
  · rename_i h0
    obtain ⟨hT, _⟩ := cloOk (Classical.byContradiction h0 : cloE t c = 0)
    have := crL_len hT (cls c)
    exact ⟨_, _, rfl, by omega⟩
theorem c53s (a : List (Int × Int)) (ha : a.length ≤ 1000000) : Pure Try.prog 53 [.lst 2 (a.map spR), .lst 2 (a.map spR)] (fun v => v = .bool true) := by
  have k := c53 a a ha ha
  rw [decide_eq_true rfl] at k
  exact k
def crx (l : List Cr) (i : Nat) : Cr := l.getD i ⟨0, 0, 0⟩
@[go_sem] theorem crx_getD {l : List Cr} {i : Nat} (h : i < l.length) : (l.map Cr.row).getD i [] = (crx l i).row := by
  simp [List.getD_eq_getElem?_getD, h, crx]
theorem c54s (a : List Cr) (ha : a.length ≤ 1000000) : Pure Try.prog 54 [.lst 3 (a.map Cr.row), .lst 3 (a.map Cr.row)] (fun v => v = .bool true) := by
  intro h
  refine ACalls.forget (ACalls.of tab mixed Try.call54 Try.func54 rfl (fi := ⟨31, [], [], none, [(5, [0, 0, 3, 7, 0, 0, 48, 112, 255, 511], [(0, false), (1, false), (2, false), (3, true), (4, false), (5, false), (6, false), (7, true), (8, false), (9, false)])]⟩) rfl rfl (Nat.le_of_ble_eq_true rfl) (by decide) ?_)
  unfold startA
  repeat' (first | refine st_seq_reg rfl (by first | (simp only [go_sem, List.length_map, decide_true]; rfl) | rfl) (by first | (simp only [go_sem, List.length_map, decide_true]; rfl) | rfl) ?_ | refine st_op ?_ | refine st_det rfl (by simp (disch := omega) only [go_sem, wr_i64, if_yes, if_no, ↓reduceIte, Nat.reduceAdd, Nat.reduceMul, Nat.reduceEqDiff, Nat.reduceBEq, Nat.reduceLeDiff, List.length_map, decide_true]; rfl) ?_ | refine st_nil ?_ | refine st_seq ?_ | refine st_block ?_)
  all_goals try (exfalso; omega)
  refine st_loopC (α := Nat) tab mixed [] [] (by repeat (first | exact trivial | refine ⟨rfl, ?_⟩)) [] [] (by repeat (first | exact trivial | refine ⟨rfl, ?_⟩)) (fun i => [(6, .int .i64 (i : Nat)), (5, .bool true)]) [(0, _), (1, _)] (fun _ => []) [] (fun i => i ≤ a.length) (fun i => a.length - i) (by decide) 0 (Nat.zero_le _) (by (try simp only [go_sem]); repeat' (first | exact trivial | refine And.intro ?_ ?_ | rfl | (simp (disch := omega) only [go_sem, if_yes, if_no, ↓reduceIte, Nat.reduceAdd, Nat.reduceMul, Nat.reduceEqDiff, Nat.reduceBEq, Nat.reduceLeDiff]; rfl) | (simp (disch := omega) only [go_sem, if_yes, if_no, ↓reduceIte, Nat.reduceAdd, Nat.reduceMul, Nat.reduceEqDiff, Nat.reduceBEq, Nat.reduceLeDiff]))) (by (try simp only [go_sem]); repeat' (first | exact trivial | refine And.intro ?_ ?_ | rfl | (simp (disch := omega) only [go_sem, if_yes, if_no, ↓reduceIte, Nat.reduceAdd, Nat.reduceMul, Nat.reduceEqDiff, Nat.reduceBEq, Nat.reduceLeDiff]; rfl) | (simp (disch := omega) only [go_sem, if_yes, if_no, ↓reduceIte, Nat.reduceAdd, Nat.reduceMul, Nat.reduceEqDiff, Nat.reduceBEq, Nat.reduceLeDiff]))) (by first | (simp only [go_sem]; rfl) | rfl) (by intro n; simp only [go_sem]; rfl) ?_
  rintro i c hi1 hc
  simp only [go_sem]
  by_cases hi : i < a.length
  case pos =>
    repeat' (first | refine st_seq_reg rfl (by first | (simp only [go_sem, List.length_map, decide_true]; rfl) | rfl) (by first | (simp only [go_sem, List.length_map, decide_true]; rfl) | rfl) ?_ | refine st_reg rfl (by first | (simp only [go_sem, List.length_map, decide_true]; rfl) | rfl) (by first | (simp only [go_sem, List.length_map, decide_true]; rfl) | rfl) ?_ | refine st_draw rfl (by first | (simp only [go_sem, List.length_map, decide_true]; rfl) | rfl) (by first | (simp only [go_sem, List.length_map, decide_true]; rfl) | rfl) ?_ | refine st_op ?_ | refine st_det rfl (by simp (disch := omega) only [go_sem, wr_i64, if_yes, if_no, ↓reduceIte, Nat.reduceAdd, Nat.reduceMul, Nat.reduceEqDiff, Nat.reduceBEq, Nat.reduceLeDiff, List.length_map, decide_true]; rfl) ?_ | refine st_dop rfl ?_ | refine st_gT rfl rfl rfl ?_ | (refine st_condS rfl ?_ ?_ <;> intro hg <;> (try simp only [decide_eq_true_eq, decide_eq_false_iff_not, Bool.not_eq_true', Bool.not_eq_false'] at hg)) | refine st_nil ?_ | refine st_dnil ?_ | refine st_tN ?_ | refine st_seq ?_ | refine st_block ?_ | refine st_skip ?_ | refine st_exit ?_ | refine st_ret ?_ | refine st_tE ?_ | refine st_bN ?_ | refine st_bH ?_)
    all_goals try (exfalso; omega)
    refine ⟨i + 1, by show i + 1 ≤ _; omega, by show a.length - (i + 1) < a.length - i; omega, (by repeat' (first | exact trivial | refine And.intro ?_ ?_ | rfl | (simp (disch := omega) only [go_sem, if_yes, if_no, ↓reduceIte, Nat.reduceAdd, Nat.reduceMul, Nat.reduceEqDiff, Nat.reduceBEq, Nat.reduceLeDiff]; rfl) | (simp (disch := omega) only [go_sem, if_yes, if_no, ↓reduceIte, Nat.reduceAdd, Nat.reduceMul, Nat.reduceEqDiff, Nat.reduceBEq, Nat.reduceLeDiff]))), (by repeat' (first | exact trivial | refine And.intro ?_ ?_ | rfl | (simp (disch := omega) only [go_sem, if_yes, if_no, ↓reduceIte, Nat.reduceAdd, Nat.reduceMul, Nat.reduceEqDiff, Nat.reduceBEq, Nat.reduceLeDiff]; rfl) | (simp (disch := omega) only [go_sem, if_yes, if_no, ↓reduceIte, Nat.reduceAdd, Nat.reduceMul, Nat.reduceEqDiff, Nat.reduceBEq, Nat.reduceLeDiff]))), rfl, (by first | exact HOld.of _ (by omega) | exact HOld.put _ _ _ (by omega))⟩
  obtain rfl : i = a.length := by omega
  repeat' (first | refine st_seq_reg rfl (by first | (simp only [go_sem, List.length_map]; rfl) | rfl) (by first | (simp only [go_sem, List.length_map]; rfl) | rfl) ?_ | refine st_reg rfl (by first | (simp only [go_sem, List.length_map]; rfl) | rfl) (by first | (simp only [go_sem, List.length_map]; rfl) | rfl) ?_ | refine st_draw rfl (by first | (simp only [go_sem, List.length_map]; rfl) | rfl) (by first | (simp only [go_sem, List.length_map]; rfl) | rfl) ?_ | refine st_op ?_ | refine st_det rfl (by simp (disch := omega) only [go_sem, wr_i64, if_yes, if_no, ↓reduceIte, Nat.reduceAdd, Nat.reduceMul, Nat.reduceEqDiff, Nat.reduceBEq, Nat.reduceLeDiff, List.length_map]; rfl) ?_ | refine st_dop rfl ?_ | refine st_gT rfl rfl rfl ?_ | (refine st_condS rfl ?_ ?_ <;> intro hg <;> (try simp only [decide_eq_true_eq, decide_eq_false_iff_not, Bool.not_eq_true', Bool.not_eq_false'] at hg)) | refine st_nil ?_ | refine st_dnil ?_ | refine st_tN ?_ | refine st_seq ?_ | refine st_block ?_ | refine st_skip ?_ | refine st_exit ?_ | refine st_ret ?_ | refine st_tE ?_ | refine st_bN ?_ | refine st_bH ?_)
  all_goals try (exfalso; omega)
  simp (disch := omega) only [AEnd, Try.results54, aresK, fin, go_sem, ↓reduceIte, Nat.reduceEqDiff, Nat.reduceAdd, Nat.reduceLeDiff, if_yes, if_no, implies_true, true_and, and_true, List.reverse_cons, List.reverse_nil]
structure ClS where
  i : Nat
  x : Int
  v : AV
  c : List Int
  g : AH
theorem c27 (b : Nat × Nat) (t : Tw) (hsn : t.sts.length ≤ 12) : Drum Try.prog 27 [.ptr b 0 0, t.av] b (fun v => ∃ c : List Int, v = .lst 1 (c.map iv) ∧ ClOk t c t.sts.length) := by
  refine Drum.give Try.call27 fun h x hx hu hold => ?_
  have nbb : ∀ {b1 : Nat × Nat}, h.clk ≤ b1.1 → ¬ b1 = b := fun hb e => by rw [e] at hb; omega
  refine ACalls.of tab mixed Try.call27 Try.func27 rfl (fi := ⟨21, [], [3, 18], none, []⟩) rfl rfl (Nat.le_of_ble_eq_true rfl) (by decide) ?_
  unfold startA
  simp only [go_sem]
  repeat' (first | refine st_seq_reg rfl (by first | (simp only [go_sem]; rfl) | rfl) (by first | (simp only [go_sem]; rfl) | rfl) ?_ | refine st_op ?_ | refine st_det rfl (by simp (disch := omega) only [go_sem, wr_i64, if_yes, if_no, ↓reduceIte, Nat.reduceAdd, Nat.reduceMul, Nat.reduceEqDiff, Nat.reduceBEq, Nat.reduceLeDiff]; rfl) ?_ | refine st_nil ?_ | refine st_seq ?_ | refine st_block ?_)
  refine st_loopH (α := ClS) tab mixed [] [] (by repeat (first | exact trivial | refine ⟨rfl, ?_⟩)) [] [] (by repeat (first | exact trivial | refine ⟨rfl, ?_⟩)) (fun a => [(6, .int .i64 (a.i : Nat)), (5, a.v)]) [(0, _), (3, _)] (fun _ => []) [] (fun a => a.g) (fun a => Gd h b a.x a.g ∧ a.i ≤ t.sts.length ∧ SlA h.clk a.g a.v 1 (a.c.map iv) ∧ ClOk t a.c a.i) (fun a => t.sts.length - a.i) (by decide) ⟨0, x, .nils, [], h⟩ ⟨⟨hu, hx, fun _ _ _ => rfl, rfl, Nat.le_refl _⟩, Nat.zero_le _, .inl ⟨rfl, rfl⟩, ⟨Nat.le_refl _, fun i hi => absurd hi (Nat.not_lt_zero _), fun i _ hi => absurd hi (Nat.not_lt_zero _)⟩⟩ (by (try simp only [go_sem]); repeat' (first | exact trivial | refine And.intro ?_ ?_ | rfl | (simp (disch := omega) only [go_sem, if_yes, if_no, ↓reduceIte, Nat.reduceAdd, Nat.reduceMul, Nat.reduceEqDiff, Nat.reduceBEq, Nat.reduceLeDiff]; rfl) | (simp (disch := omega) only [go_sem, if_yes, if_no, ↓reduceIte, Nat.reduceAdd, Nat.reduceMul, Nat.reduceEqDiff, Nat.reduceBEq, Nat.reduceLeDiff]))) (by (try simp only [go_sem]); repeat' (first | exact trivial | refine And.intro ?_ ?_ | rfl | (simp (disch := omega) only [go_sem, if_yes, if_no, ↓reduceIte, Nat.reduceAdd, Nat.reduceMul, Nat.reduceEqDiff, Nat.reduceBEq, Nat.reduceLeDiff]; rfl) | (simp (disch := omega) only [go_sem, if_yes, if_no, ↓reduceIte, Nat.reduceAdd, Nat.reduceMul, Nat.reduceEqDiff, Nat.reduceBEq, Nat.reduceLeDiff]))) (HOld.tick (by simp only [go_sem]; omega)) ?_
  rintro ⟨i, x1, v, c, g⟩ d ⟨hG, i1, hS, hC⟩ hd
  dsimp only at hG i1 hS hC hd
  have hu1 := hG.u
  have hd1 := hG.d
  have hgc := hG.cl
  simp only [go_sem]
  by_cases hi : i < t.sts.length
  case neg =>
    obtain rfl : i = t.sts.length := by omega
    repeat' (first | refine st_seq_reg rfl (by first | (simp only [go_sem, List.length_map]; rfl) | rfl) (by first | (simp only [go_sem, List.length_map]; rfl) | rfl) ?_ | refine st_op ?_ | refine st_det rfl (by simp (disch := omega) only [go_sem, wr_i64, if_yes, if_no, ↓reduceIte, Nat.reduceAdd, Nat.reduceMul, Nat.reduceEqDiff, Nat.reduceBEq, Nat.reduceLeDiff, List.length_map]; rfl) ?_ | (refine st_condS rfl ?_ ?_ <;> intro hg <;> (try simp only [decide_eq_true_eq, decide_eq_false_iff_not, Bool.not_eq_true', Bool.not_eq_false'] at hg)) | refine st_nil ?_ | refine st_tN ?_ | refine st_seq ?_ | refine st_block ?_ | refine st_skip ?_ | refine st_exit ?_ | refine st_ret ?_ | refine st_tE ?_ | refine st_bH ?_)
    all_goals try (exfalso; omega)
    simp (disch := omega) only [AEnd, Try.results27, aresK, fin, go_sem, ↓reduceIte, Nat.reduceEqDiff, Nat.reduceAdd, Nat.reduceLeDiff, if_yes, if_no, implies_true, true_and, and_true, List.reverse_cons, List.reverse_nil]
    refine ⟨hS.noL, hG.old, ⟨x1, hd1, hu1⟩, hG.lp, SlA.ans (h := h) (g := g) (R := fun v => ∃ c : List Int, v = .lst 1 (c.map iv) ∧ ClOk t c t.sts.length) hS ⟨c, rfl, hC⟩⟩
  have hnc := hS.noL
  have hcl := hC.len
  repeat' (first | refine st_seq_reg rfl (by first | (simp only [go_sem, hd1, hnc, List.length_map]; rfl) | rfl) (by first | (simp only [go_sem, hd1, hnc, List.length_map]; rfl) | rfl) ?_ | refine st_reg rfl (by first | (simp only [go_sem, hd1, hnc, List.length_map]; rfl) | rfl) (by first | (simp only [go_sem, hd1, hnc, List.length_map]; rfl) | rfl) ?_ | refine st_op ?_ | refine st_det rfl (by simp (disch := omega) only [go_sem, wr_i64, if_yes, if_no, ↓reduceIte, Nat.reduceAdd, Nat.reduceMul, Nat.reduceEqDiff, Nat.reduceBEq, Nat.reduceLeDiff, hd1, hnc, List.length_map]; rfl) ?_ | (refine st_drum (by first | (simp (disch := omega) only [go_sem, hd1, hnc, List.length_map]; rfl) | rfl) rfl (c43 b 3 (by decide)) (by first | (simp (disch := omega) only [go_sem, hd1, hnc, List.length_map]; rfl) | rfl) (by assumption) (by first | (simp only [go_sem, hd1, hnc, List.length_map]; rfl) | rfl) (by intro x' n; first | (simp (disch := omega) only [go_sem]; rfl) | rfl) ?_; rintro v x' n hu' ⟨rb, rfl⟩ hn) | (refine st_appS (by intro h id x y; simp only [go_sem]; rfl) rfl (by simp only [go_sem, hd1, hnc, List.length_map]; rfl) (by simp only [go_sem, hd1, hnc, List.length_map]; rfl) (by decide) hS (fun b1 m e => by simp only [go_sem, nbb (hS.lt e).1, ↓reduceIte]) (by omega) (by simp only [List.length_map, List.length_cons, List.length_nil, big, hd1, hnc, List.length_map]; omega) (by omega) (by omega) ?_; intro v' g' hA) | (refine st_condS rfl ?_ ?_ <;> intro hg <;> (try simp only [decide_eq_true_eq, decide_eq_false_iff_not, Bool.not_eq_true', Bool.not_eq_false'] at hg)) | refine st_nil ?_ | refine st_tN ?_ | refine st_seq ?_ | refine st_block ?_ | refine st_skip ?_ | refine st_exit ?_ | refine st_ret ?_ | refine st_tE ?_ | refine st_bN ?_ | refine st_bH ?_)
  all_goals try (exfalso; omega)
  · refine ⟨⟨i + 1, x', v', c ++ [((i : Nat) : Int)], _⟩, (by refine ⟨(hG.put (by assumption) (n := n + 1) (by omega)).app hold (Nat.le_refl _) hA (by simp only [go_sem]; omega), by show i + 1 ≤ _; omega, by rw [List.map_append]; exact hA.sl.to (fun _ _ _ _ _ => rfl) (by simp only [go_sem]; omega), hC.add⟩), by show t.sts.length - (i + 1) < t.sts.length - i; omega, (by repeat' (first | exact trivial | refine And.intro ?_ ?_ | rfl | (simp (disch := omega) only [go_sem, if_yes, if_no, ↓reduceIte, Nat.reduceAdd, Nat.reduceMul, Nat.reduceEqDiff, Nat.reduceBEq, Nat.reduceLeDiff]; rfl) | (simp (disch := omega) only [go_sem, if_yes, if_no, ↓reduceIte, Nat.reduceAdd, Nat.reduceMul, Nat.reduceEqDiff, Nat.reduceBEq, Nat.reduceLeDiff]))), (by repeat' (first | exact trivial | refine And.intro ?_ ?_ | rfl | (simp (disch := omega) only [go_sem, if_yes, if_no, ↓reduceIte, Nat.reduceAdd, Nat.reduceMul, Nat.reduceEqDiff, Nat.reduceBEq, Nat.reduceLeDiff]; rfl) | (simp (disch := omega) only [go_sem, if_yes, if_no, ↓reduceIte, Nat.reduceAdd, Nat.reduceMul, Nat.reduceEqDiff, Nat.reduceBEq, Nat.reduceLeDiff]))), rfl, HOld.refl _⟩
  · refine ⟨⟨i + 1, x', v, c, _⟩, (by refine ⟨(hG.put (by assumption) (n := n) (by omega)).tick (by simp only [go_sem]; omega), by show i + 1 ≤ _; omega, slA_put hS hold (by omega), hC.mono (Nat.le_succ _)⟩), by show t.sts.length - (i + 1) < t.sts.length - i; omega, (by repeat' (first | exact trivial | refine And.intro ?_ ?_ | rfl | (simp (disch := omega) only [go_sem, if_yes, if_no, ↓reduceIte, Nat.reduceAdd, Nat.reduceMul, Nat.reduceEqDiff, Nat.reduceBEq, Nat.reduceLeDiff]; rfl) | (simp (disch := omega) only [go_sem, if_yes, if_no, ↓reduceIte, Nat.reduceAdd, Nat.reduceMul, Nat.reduceEqDiff, Nat.reduceBEq, Nat.reduceLeDiff]))), (by repeat' (first | exact trivial | refine And.intro ?_ ?_ | rfl | (simp (disch := omega) only [go_sem, if_yes, if_no, ↓reduceIte, Nat.reduceAdd, Nat.reduceMul, Nat.reduceEqDiff, Nat.reduceBEq, Nat.reduceLeDiff]; rfl) | (simp (disch := omega) only [go_sem, if_yes, if_no, ↓reduceIte, Nat.reduceAdd, Nat.reduceMul, Nat.reduceEqDiff, Nat.reduceBEq, Nat.reduceLeDiff]))), rfl, HOld.refl _⟩
theorem TwOk.lens {t : Tw} (hT : TwOk t) : t.lens := ⟨by have := hT.rn; omega, by have := hT.sn; omega, by have := hT.gn; omega, fun i hi => by have := (hT.g i hi).many; omega⟩
def noTw : Tw := ⟨[], [], [], 0⟩
theorem hold2 (g : AH) : HOld h00 g := ⟨fun _ _ e => (by cases e), fun _ _ e => (by cases e), Nat.zero_le _⟩
end Go.Proofs.Ythjbfdfhblloiaa
