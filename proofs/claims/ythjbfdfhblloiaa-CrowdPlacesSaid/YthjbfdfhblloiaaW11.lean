/- Contracts of functions that the claim reaches: what each call gives, told in our own logic. Conditions: those of each theorem. -/
import Derived.Test.YthjbfdfhblloiaaW15
import Derived.Test.YthjbfdfhblloiaaBaseD
import Derived.Test.YthjbfdfhblloiaaQ17
import Derived.Test.YthjbfdfhblloiaaW2
import Derived.Test.YthjbfdfhblloiaaQ31
import Derived.Test.YthjbfdfhblloiaaQ42
import Derived.Test.YthjbfdfhblloiaaQ22b
import Derived.Test.YthjbfdfhblloiaaW14
set_option linter.all false
set_option linter.unusedSimpArgs false
set_option linter.unusedVariables false
namespace Go.Proofs.Ythjbfdfhblloiaa
open Go.Av
attribute [local irreducible] thenA blockA awp awpOps awpD awp1
set_option maxHeartbeats 8000000
set_option maxRecDepth 20000
theorem c89 (t : Tw) (s : List Int) (step : Int) (hT : TwOk t) (hsl : s.length = t.sts.length) (hs' : 0 ≤ step ∧ step ≤ 96) : Pure Try.prog 89 [t.av, .lst 1 (s.map iv), .int .i64 step] (fun v => v = .lst 2 (rlds t (elt s) step)) := by
  have hrn := hT.rn
  have hgn := hT.gn
  have ht0 : t.av = .agg t.cells := rfl
  refine Pure.give Try.call89 fun h hall => ?_
  refine ACalls.of tab mixed Try.call89 Try.func89 rfl (fi := ⟨82, [9], [3], none, [(11, [0, 0, 0, 0, 12, 28, 60, 0, 128, 384, 1020, 2047, 4095, 8191], [(0, false), (1, false), (2, false), (3, false), (4, false), (5, false), (6, false), (7, false), (8, false), (9, true), (10, false), (11, false), (12, false), (13, false)]), (13, [0, 0, 0, 0, 12, 28, 60, 0, 128, 384, 1020, 2047, 4095, 8191], [(0, false), (1, false), (2, false), (3, false), (4, false), (5, false), (6, false), (7, false), (8, false), (9, true), (10, false), (11, false), (12, false), (13, false)])]⟩) rfl rfl (Nat.le_of_ble_eq_true rfl) (by decide) ?_
  unfold startA
  rw [ht0]
  unfold Tw.cells
  repeat' (first | refine st_seq_reg rfl (by first | (simp only [go_sem, List.length_map, sl_rep, sl_len, Nat.zero_add]; rfl) | rfl) (by first | (simp only [go_sem, List.length_map, sl_rep, sl_len, Nat.zero_add]; rfl) | rfl) ?_ | refine st_op ?_ | refine st_det rfl (by simp (disch := omega) only [go_sem, wr_i64, if_yes, if_no, ↓reduceIte, Nat.reduceAdd, Nat.reduceMul, Nat.reduceEqDiff, Nat.reduceBEq, Nat.reduceLeDiff, List.length_map, sl_rep, sl_len, Nat.zero_add]; rfl) ?_ | refine st_heap rfl (by simp (disch := omega) only [go_sem, wr_i64, if_yes, if_no, ↓reduceIte, Nat.reduceAdd, Nat.reduceMul, Nat.reduceEqDiff, Nat.reduceBEq, Nat.reduceLeDiff, List.length_map, sl_rep, sl_len, Nat.zero_add]; rfl) ?_ | refine st_nil ?_ | refine st_seq ?_ | refine st_block ?_)
  all_goals try (exfalso; omega)
  have nbo : ∀ b' : Bid, b'.1 < h.clk → ¬ b' = (h.clk + 1, 16) := fun b' hb' => ne_fst hb' (by show h.clk ≤ h.clk + 1; omega)
  refine st_loopH (α := Nat × AH) tab mixed [] [] (by repeat (first | exact trivial | refine ⟨rfl, ?_⟩)) [] [] (by repeat (first | exact trivial | refine ⟨rfl, ?_⟩)) (fun a => [(8, .int .i64 (a.1 : Nat))]) [(1, _), (2, _), (3, _), (7, _)] (fun _ => []) [] (fun a => a.2) (fun a => a.1 ≤ t.gs.length ∧ a.2.at_ (h.clk + 1, 16) = some ⟨2, sl t.rooms.length (fun q => sumF (rloF t (elt s) (q : Nat) step) a.1) (fun q => sumF (hiF t (elt s) (q : Nat) step) a.1)⟩ ∧ h.clk + 1 < a.2.clk ∧ (∀ b' : Bid, b'.1 < h.clk → a.2.at_ b' = h.at_ b') ∧ a.2.lp = h.lp) (fun a => t.gs.length - a.1) (by decide) (0, _) (by refine ⟨Nat.zero_le _, by simp only [go_sem, ↓reduceIte]; rfl, by simp only [go_sem]; omega, fun b' hb' => by simp only [go_sem, if_neg (nbo b' hb')], rfl⟩) (by (try simp only [go_sem]); repeat' (first | exact trivial | refine And.intro ?_ ?_ | rfl | (simp (disch := omega) only [go_sem, if_yes, if_no, ↓reduceIte, Nat.reduceAdd, Nat.reduceMul, Nat.reduceEqDiff, Nat.reduceBEq, Nat.reduceLeDiff]; rfl) | (simp (disch := omega) only [go_sem, if_yes, if_no, ↓reduceIte, Nat.reduceAdd, Nat.reduceMul, Nat.reduceEqDiff, Nat.reduceBEq, Nat.reduceLeDiff]))) (by (try simp only [go_sem]); repeat' (first | exact trivial | refine And.intro ?_ ?_ | rfl | (simp (disch := omega) only [go_sem, if_yes, if_no, ↓reduceIte, Nat.reduceAdd, Nat.reduceMul, Nat.reduceEqDiff, Nat.reduceBEq, Nat.reduceLeDiff]; rfl) | (simp (disch := omega) only [go_sem, if_yes, if_no, ↓reduceIte, Nat.reduceAdd, Nat.reduceMul, Nat.reduceEqDiff, Nat.reduceBEq, Nat.reduceLeDiff]))) (HOld.refl _) ?_
  rintro ⟨i, G⟩ d ⟨i1, i2, i3, i4, i5⟩ hd
  dsimp only at i1 i2 i3 i4 i5 hd
  simp only [go_sem]
  by_cases hi : i < t.gs.length
  case neg =>
    obtain rfl : i = t.gs.length := by omega
    repeat' (first | refine st_seq_reg rfl (by first | (simp only [go_sem, List.length_map]; rfl) | rfl) (by first | (simp only [go_sem, List.length_map]; rfl) | rfl) ?_ | refine st_op ?_ | refine st_det rfl (by simp (disch := omega) only [go_sem, wr_i64, if_yes, if_no, ↓reduceIte, Nat.reduceAdd, Nat.reduceMul, Nat.reduceEqDiff, Nat.reduceBEq, Nat.reduceLeDiff, List.length_map]; rfl) ?_ | refine st_loc rfl (by simp (disch := omega) only [go_sem, wr_i64, if_yes, if_no, ↓reduceIte, Nat.reduceAdd, Nat.reduceMul, Nat.reduceEqDiff, Nat.reduceBEq, Nat.reduceLeDiff, List.length_map]; rfl) ?_ | refine st_store (by simp (disch := omega) only [go_sem, wr_i64, if_yes, if_no, ↓reduceIte, Nat.reduceAdd, Nat.reduceMul, Nat.reduceEqDiff, Nat.reduceBEq, Nat.reduceLeDiff, List.length_map]; rfl) ?_ | (refine st_condS rfl ?_ ?_ <;> intro hg <;> (try simp only [decide_eq_true_eq, decide_eq_false_iff_not, Bool.not_eq_true', Bool.not_eq_false'] at hg)) | refine st_nil ?_ | refine st_tN ?_ | refine st_seq ?_ | refine st_block ?_ | refine st_skip ?_ | refine st_exit ?_ | refine st_ret ?_ | refine st_tE ?_ | refine st_bH ?_)
    all_goals try (exfalso; omega)
    simp (disch := omega) only [AEnd, Try.results89, aresK, fin, go_sem, ↓reduceIte, Nat.reduceEqDiff, Nat.reduceAdd, Nat.reduceLeDiff, if_yes, if_no, implies_true, true_and, and_true, List.reverse_cons, List.reverse_nil]
    refine ⟨i4, i5, .inr ⟨(h.clk + 1, 16), _, by show h.clk ≤ h.clk + 1; omega, i2, ?_⟩⟩
    simp only [frz]
    rw [if_pos ⟨trivial, by rw [sl_len]; omega⟩, List.drop_zero, List.take_of_length_le (by rw [sl_len]; exact Nat.le_refl _)]
    rfl
  have hGp := hT.g i hi
  have hsz := hGp.size
  have k88 := c88 t s (gp t.gs i) step hT hGp hsl hs'
  have hmB : ∀ q : Nat, q < t.rooms.length → mayB t (elt s) (gp t.gs i) step (plN (gp t.gs i)) q = someB t (elt s) (gp t.gs i) (q : Nat) step := fun q hq => by unfold mayB; rw [if_neg (by omega)]; rfl
  have hlF : ∀ q : Nat, rloF t (elt s) (q : Nat) step i = if someB t (elt s) (gp t.gs i) (q : Nat) step = true ∧ oneB t (elt s) (gp t.gs i) step = true then (gp t.gs i).lo else 0 := fun q => rfl
  have hhF : ∀ q : Nat, hiF t (elt s) (q : Nat) step i = if someB t (elt s) (gp t.gs i) (q : Nat) step = true then (gp t.gs i).hi else 0 := fun q => rfl
  generalize hON : oneB t (elt s) (gp t.gs i) step = one at *
  repeat' (first | refine st_seq_reg rfl (by first | (simp only [go_sem, List.length_map]; rfl) | rfl) (by first | (simp only [go_sem, List.length_map]; rfl) | rfl) ?_ | refine st_op ?_ | refine st_det rfl (by simp (disch := omega) only [go_sem, wr_i64, if_yes, if_no, ↓reduceIte, Nat.reduceAdd, Nat.reduceMul, Nat.reduceEqDiff, Nat.reduceBEq, Nat.reduceLeDiff, List.length_map]; rfl) ?_ | refine st_loc rfl (by simp (disch := omega) only [go_sem, wr_i64, if_yes, if_no, ↓reduceIte, Nat.reduceAdd, Nat.reduceMul, Nat.reduceEqDiff, Nat.reduceBEq, Nat.reduceLeDiff, List.length_map]; rfl) ?_ | refine st_store (by simp (disch := omega) only [go_sem, wr_i64, if_yes, if_no, ↓reduceIte, Nat.reduceAdd, Nat.reduceMul, Nat.reduceEqDiff, Nat.reduceBEq, Nat.reduceLeDiff, List.length_map]; rfl) ?_ | (refine st_pureE (by first | (simp (disch := omega) only [go_sem, List.length_map]; rfl) | rfl) rfl (k88) (by first | (simp only [go_sem, List.length_map]; rfl) | rfl) (by intro n; first | (simp (disch := omega) only [go_sem]; rfl) | rfl) ?_; intro n hn) | (refine st_condS rfl ?_ ?_ <;> intro hg <;> (try simp only [decide_eq_true_eq, decide_eq_false_iff_not, Bool.not_eq_true', Bool.not_eq_false'] at hg)) | refine st_nil ?_ | refine st_tN ?_ | refine st_seq ?_ | refine st_block ?_ | refine st_skip ?_ | refine st_exit ?_ | refine st_ret ?_ | refine st_tE ?_ | refine st_bH ?_)
  all_goals try (exfalso; omega)
  refine st_loopH (α := Nat × AH) tab mixed [] [] (by repeat (first | exact trivial | refine ⟨rfl, ?_⟩)) [9] [_] (by repeat (first | exact trivial | refine ⟨rfl, ?_⟩)) (fun a => [(12, .int .i64 (a.1 : Nat))]) [(1, _), (2, _), (3, _), (7, _), (8, _), (9, _), (10, _), (11, _)] (fun _ => []) [_] (fun a => a.2) (fun a => a.1 ≤ t.rooms.length ∧ a.2.at_ (h.clk + 1, 16) = some ⟨2, sl t.rooms.length (pS (fun q => rloF t (elt s) (q : Nat) step) i a.1) (pS (fun q => hiF t (elt s) (q : Nat) step) i a.1)⟩ ∧ h.clk + 1 < a.2.clk ∧ (∀ b' : Bid, b'.1 < h.clk → a.2.at_ b' = h.at_ b') ∧ a.2.lp = h.lp) (fun a => t.rooms.length - a.1) (by decide) (0, _) (by refine ⟨Nat.zero_le _, by simp only [go_sem]; rw [i2]; exact congrArg (fun l => some (⟨2, l⟩ : Blk)) (sl_congr fun q _ => ⟨by rw [pS_zero], by rw [pS_zero]⟩), by simp only [go_sem]; omega, fun b' hb' => i4 b' hb', i5⟩) (by (try simp only [go_sem]); repeat' (first | exact trivial | refine And.intro ?_ ?_ | rfl | (simp (disch := omega) only [go_sem, if_yes, if_no, ↓reduceIte, Nat.reduceAdd, Nat.reduceMul, Nat.reduceEqDiff, Nat.reduceBEq, Nat.reduceLeDiff]; rfl) | (simp (disch := omega) only [go_sem, if_yes, if_no, ↓reduceIte, Nat.reduceAdd, Nat.reduceMul, Nat.reduceEqDiff, Nat.reduceBEq, Nat.reduceLeDiff]))) (by (try simp only [go_sem]); repeat' (first | exact trivial | refine And.intro ?_ ?_ | rfl | (simp (disch := omega) only [go_sem, if_yes, if_no, ↓reduceIte, Nat.reduceAdd, Nat.reduceMul, Nat.reduceEqDiff, Nat.reduceBEq, Nat.reduceLeDiff]; rfl) | (simp (disch := omega) only [go_sem, if_yes, if_no, ↓reduceIte, Nat.reduceAdd, Nat.reduceMul, Nat.reduceEqDiff, Nat.reduceBEq, Nat.reduceLeDiff]))) (HOld.refl _) ?_
  clear i2 i3 i4 i5 hd
  rintro ⟨q, G⟩ d ⟨j1, i2, i3, i4, i5⟩ hd
  dsimp only at j1 i2 i3 i4 i5 hd
  simp only [go_sem]
  by_cases hq : q < t.rooms.length
  case neg =>
    obtain rfl : q = t.rooms.length := by omega
    repeat' (first | refine st_seq_reg rfl (by first | (simp only [go_sem, List.length_map]; rfl) | rfl) (by first | (simp only [go_sem, List.length_map]; rfl) | rfl) ?_ | refine st_reg rfl (by first | (simp only [go_sem, List.length_map]; rfl) | rfl) (by first | (simp only [go_sem, List.length_map]; rfl) | rfl) ?_ | refine st_op ?_ | refine st_det rfl (by simp (disch := omega) only [go_sem, wr_i64, if_yes, if_no, ↓reduceIte, Nat.reduceAdd, Nat.reduceMul, Nat.reduceEqDiff, Nat.reduceBEq, Nat.reduceLeDiff, List.length_map]; rfl) ?_ | (refine st_condS rfl ?_ ?_ <;> intro hg <;> (try simp only [decide_eq_true_eq, decide_eq_false_iff_not, Bool.not_eq_true', Bool.not_eq_false'] at hg)) | refine st_nil ?_ | refine st_tN ?_ | refine st_seq ?_ | refine st_block ?_ | refine st_skip ?_ | refine st_exit ?_ | refine st_tE ?_ | refine st_bN ?_ | refine st_bH ?_)
    all_goals try (exfalso; omega)
    refine ⟨(i + 1, _), (by refine ⟨by show i + 1 ≤ _; omega, by simp only [go_sem]; rw [i2]; exact congrArg (fun l => some (⟨2, l⟩ : Blk)) (sl_congr fun q hq => ⟨pS_end _ hq, pS_end _ hq⟩), by simp only [go_sem]; omega, fun b' hb' => i4 b' hb', i5⟩), by show t.gs.length - (i + 1) < t.gs.length - i; omega, (by repeat' (first | exact trivial | refine And.intro ?_ ?_ | rfl | (simp (disch := omega) only [go_sem, if_yes, if_no, ↓reduceIte, Nat.reduceAdd, Nat.reduceMul, Nat.reduceEqDiff, Nat.reduceBEq, Nat.reduceLeDiff]; rfl) | (simp (disch := omega) only [go_sem, if_yes, if_no, ↓reduceIte, Nat.reduceAdd, Nat.reduceMul, Nat.reduceEqDiff, Nat.reduceBEq, Nat.reduceLeDiff]))), (by repeat' (first | exact trivial | refine And.intro ?_ ?_ | rfl | (simp (disch := omega) only [go_sem, if_yes, if_no, ↓reduceIte, Nat.reduceAdd, Nat.reduceMul, Nat.reduceEqDiff, Nat.reduceBEq, Nat.reduceLeDiff]; rfl) | (simp (disch := omega) only [go_sem, if_yes, if_no, ↓reduceIte, Nat.reduceAdd, Nat.reduceMul, Nat.reduceEqDiff, Nat.reduceBEq, Nat.reduceLeDiff]))), rfl, HOld.refl _⟩
  have hgl := bl_get (R := t.rooms.length + 1) (f := mayB t (elt s) (gp t.gs i) step (plN (gp t.gs i))) (q := q) (by omega)
  rw [hmB q hq] at hgl
  have hLq := hlF q
  have hHq := hhF q
  have hgs := sl_get (F := pS (fun q => rloF t (elt s) (q : Nat) step) i q) (G := pS (fun q => hiF t (elt s) (q : Nat) step) i q) hq
  have b1 := sumF_bd0 (F := rloF t (elt s) (q : Nat) step) (n := t.gs.length) (B := 1000000) (rloF_bd hT (elt s) (q : Nat) step) i (by omega)
  have b2 := sumF_bd0 (F := hiF t (elt s) (q : Nat) step) (n := t.gs.length) (B := 1000000) (hiF_bd hT (elt s) (q : Nat) step) i (by omega)
  have e1 : pS (fun q => rloF t (elt s) (q : Nat) step) i q q = sumF (rloF t (elt s) (q : Nat) step) i := if_neg (Nat.lt_irrefl _)
  have e2 : pS (fun q => hiF t (elt s) (q : Nat) step) i q q = sumF (hiF t (elt s) (q : Nat) step) i := if_neg (Nat.lt_irrefl _)
  have hnx : ∀ a c : Int, a = rloF t (elt s) (q : Nat) step i → c = hiF t (elt s) (q : Nat) step i → (sl t.rooms.length (pS (fun q => rloF t (elt s) (q : Nat) step) i q) (pS (fun q => hiF t (elt s) (q : Nat) step) i q)).set q [.int .i64 (sumF (rloF t (elt s) (q : Nat) step) i + a), .int .i64 (sumF (hiF t (elt s) (q : Nat) step) i + c)] = sl t.rooms.length (pS (fun q => rloF t (elt s) (q : Nat) step) i (q + 1)) (pS (fun q => hiF t (elt s) (q : Nat) step) i (q + 1)) := fun a c ha hc => by
    rw [sl_set hq]
    refine sl_congr fun p hp => ⟨?_, ?_⟩
    · rw [pS_next, e1, ha]
    · rw [pS_next, e2, hc]
  have hrs : ∀ r : List AV, ((sl t.rooms.length (pS (fun q => rloF t (elt s) (q : Nat) step) i q) (pS (fun q => hiF t (elt s) (q : Nat) step) i q)).set q r).getD q [] = r := fun r => by
    rw [List.getD_eq_getElem?_getD, List.getElem?_set_self (by rw [sl_len]; exact hq)]; rfl
  have hsm : rloF t (elt s) (q : Nat) step i = 0 → hiF t (elt s) (q : Nat) step i = 0 → sl t.rooms.length (pS (fun q => rloF t (elt s) (q : Nat) step) i (q + 1)) (pS (fun q => hiF t (elt s) (q : Nat) step) i (q + 1)) = sl t.rooms.length (pS (fun q => rloF t (elt s) (q : Nat) step) i q) (pS (fun q => hiF t (elt s) (q : Nat) step) i q) := fun h1 h2 => sl_congr fun p _ => by
    rw [pS_next, pS_next, h1, h2]
    by_cases e : p = q
    · rw [if_pos e, if_pos e, e]; exact ⟨Int.add_zero _, Int.add_zero _⟩
    · rw [if_neg e, if_neg e]; exact ⟨rfl, rfl⟩
  rw [e1, e2] at hgs
  have hSl := sl_len t.rooms.length (pS (fun q => rloF t (elt s) (q : Nat) step) i q) (pS (fun q => hiF t (elt s) (q : Nat) step) i q)
  generalize sl t.rooms.length (pS (fun q => rloF t (elt s) (q : Nat) step) i q) (pS (fun q => hiF t (elt s) (q : Nat) step) i q) = SL at *
  generalize sumF (rloF t (elt s) (q : Nat) step) i = sa at *
  generalize sumF (hiF t (elt s) (q : Nat) step) i = sb at *
  cases hsb : someB t (elt s) (gp t.gs i) (q : Nat) step with
  | false =>
    rw [hsb] at hgl hLq hHq
    rw [if_neg (fun e => absurd e.1 (by decide))] at hLq
    rw [if_neg (by decide)] at hHq
    have hs1 := hsm hLq hHq
    clear hnx hsm
    repeat' (first | refine st_seq_reg rfl (by first | (simp only [go_sem, List.length_map, i2, bl_len, hgl, hSl, Nat.zero_add]; rfl) | rfl) (by first | (simp only [go_sem, List.length_map, i2, bl_len, hgl, hSl, Nat.zero_add]; rfl) | rfl) ?_ | refine st_reg rfl (by first | (simp only [go_sem, List.length_map, i2, bl_len, hgl, hSl, Nat.zero_add]; rfl) | rfl) (by first | (simp only [go_sem, List.length_map, i2, bl_len, hgl, hSl, Nat.zero_add]; rfl) | rfl) ?_ | refine st_op ?_ | refine st_det rfl (by simp (disch := omega) only [go_sem, wr_i64, if_yes, if_no, ↓reduceIte, Nat.reduceAdd, Nat.reduceMul, Nat.reduceEqDiff, Nat.reduceBEq, Nat.reduceLeDiff, List.length_map, i2, bl_len, hgl, hSl, Nat.zero_add]; rfl) ?_ | refine st_gF rfl rfl rfl ?_ | refine st_condF rfl ?_ | (refine st_condS rfl ?_ ?_ <;> intro hg <;> (try simp only [decide_eq_true_eq, decide_eq_false_iff_not, Bool.not_eq_true', Bool.not_eq_false'] at hg)) | refine st_nil ?_ | refine st_tN ?_ | refine st_seq ?_ | refine st_block ?_ | refine st_skip ?_ | refine st_exit ?_ | refine st_tE ?_ | refine st_bN ?_ | refine st_bH ?_)
    all_goals try (exfalso; omega)
    refine ⟨(q + 1, _), (by refine ⟨by show q + 1 ≤ _; omega, by simp only [go_sem]; rw [i2, hs1], by simp only [go_sem]; omega, fun b' hb' => i4 b' hb', i5⟩), by show t.rooms.length - (q + 1) < t.rooms.length - q; omega, (by repeat' (first | exact trivial | refine And.intro ?_ ?_ | rfl | (simp (disch := omega) only [go_sem, if_yes, if_no, ↓reduceIte, Nat.reduceAdd, Nat.reduceMul, Nat.reduceEqDiff, Nat.reduceBEq, Nat.reduceLeDiff]; rfl) | (simp (disch := omega) only [go_sem, if_yes, if_no, ↓reduceIte, Nat.reduceAdd, Nat.reduceMul, Nat.reduceEqDiff, Nat.reduceBEq, Nat.reduceLeDiff]))), (by repeat' (first | exact trivial | refine And.intro ?_ ?_ | rfl | (simp (disch := omega) only [go_sem, if_yes, if_no, ↓reduceIte, Nat.reduceAdd, Nat.reduceMul, Nat.reduceEqDiff, Nat.reduceBEq, Nat.reduceLeDiff]; rfl) | (simp (disch := omega) only [go_sem, if_yes, if_no, ↓reduceIte, Nat.reduceAdd, Nat.reduceMul, Nat.reduceEqDiff, Nat.reduceBEq, Nat.reduceLeDiff]))), rfl, HOld.refl _⟩
  | true =>
    rw [hsb] at hgl hLq hHq
    rw [if_pos rfl] at hHq
    cases one with
    | false =>
      rw [if_neg (fun e => absurd e.2 (by decide))] at hLq
      have hset := hnx 0 (gp t.gs i).hi hLq.symm hHq.symm
      rw [Int.add_zero] at hset
      clear hnx hsm
      repeat' (first | refine st_seq_reg rfl (by first | (simp only [go_sem, List.length_map, i2, bl_len, hgl, hgs, hrs, hset, hSl, Nat.zero_add, List.length_set]; rfl) | rfl) (by first | (simp only [go_sem, List.length_map, i2, bl_len, hgl, hgs, hrs, hset, hSl, Nat.zero_add, List.length_set]; rfl) | rfl) ?_ | refine st_reg rfl (by first | (simp only [go_sem, List.length_map, i2, bl_len, hgl, hgs, hrs, hset, hSl, Nat.zero_add, List.length_set]; rfl) | rfl) (by first | (simp only [go_sem, List.length_map, i2, bl_len, hgl, hgs, hrs, hset, hSl, Nat.zero_add, List.length_set]; rfl) | rfl) ?_ | refine st_draw rfl (by first | (simp only [go_sem, List.length_map, i2, bl_len, hgl, hgs, hrs, hset, hSl, Nat.zero_add, List.length_set]; rfl) | rfl) (by first | (simp only [go_sem, List.length_map, i2, bl_len, hgl, hgs, hrs, hset, hSl, Nat.zero_add, List.length_set]; rfl) | rfl) ?_ | refine st_op ?_ | refine st_det rfl (by simp (disch := omega) only [go_sem, wr_i64, if_yes, if_no, ↓reduceIte, Nat.reduceAdd, Nat.reduceMul, Nat.reduceEqDiff, Nat.reduceBEq, Nat.reduceLeDiff, List.length_map, i2, bl_len, hgl, hgs, hrs, hset, hSl, Nat.zero_add, List.length_set]; rfl) ?_ | refine st_dop rfl ?_ | refine st_store (by simp (disch := omega) only [go_sem, wr_i64, if_yes, if_no, ↓reduceIte, Nat.reduceAdd, Nat.reduceMul, Nat.reduceEqDiff, Nat.reduceBEq, Nat.reduceLeDiff, List.length_map, i2, bl_len, hgl, hgs, hrs, hset, hSl, Nat.zero_add, List.length_set]; rfl) ?_ | refine st_gT rfl rfl rfl ?_ | refine st_condT rfl ?_ | refine st_condF rfl ?_ | (refine st_condS rfl ?_ ?_ <;> intro hg <;> (try simp only [decide_eq_true_eq, decide_eq_false_iff_not, Bool.not_eq_true', Bool.not_eq_false'] at hg)) | refine st_nil ?_ | refine st_dnil ?_ | refine st_tN ?_ | refine st_seq ?_ | refine st_block ?_ | refine st_skip ?_ | refine st_exit ?_ | refine st_tE ?_ | refine st_bN ?_ | refine st_bH ?_)
      all_goals try (exfalso; omega)
      refine ⟨(q + 1, _), (by refine ⟨by show q + 1 ≤ _; omega, by simp only [go_sem, ↓reduceIte], by simp only [go_sem]; omega, fun b' hb' => by simp only [go_sem, if_neg (nbo b' hb')]; exact i4 b' hb', i5⟩), by show t.rooms.length - (q + 1) < t.rooms.length - q; omega, (by repeat' (first | exact trivial | refine And.intro ?_ ?_ | rfl | (simp (disch := omega) only [go_sem, if_yes, if_no, ↓reduceIte, Nat.reduceAdd, Nat.reduceMul, Nat.reduceEqDiff, Nat.reduceBEq, Nat.reduceLeDiff]; rfl) | (simp (disch := omega) only [go_sem, if_yes, if_no, ↓reduceIte, Nat.reduceAdd, Nat.reduceMul, Nat.reduceEqDiff, Nat.reduceBEq, Nat.reduceLeDiff]))), (by repeat' (first | exact trivial | refine And.intro ?_ ?_ | rfl | (simp (disch := omega) only [go_sem, if_yes, if_no, ↓reduceIte, Nat.reduceAdd, Nat.reduceMul, Nat.reduceEqDiff, Nat.reduceBEq, Nat.reduceLeDiff]; rfl) | (simp (disch := omega) only [go_sem, if_yes, if_no, ↓reduceIte, Nat.reduceAdd, Nat.reduceMul, Nat.reduceEqDiff, Nat.reduceBEq, Nat.reduceLeDiff]))), rfl, HOld.refl _⟩
    | true =>
      rw [if_pos ⟨rfl, rfl⟩] at hLq
      have hset := hnx (gp t.gs i).lo (gp t.gs i).hi hLq.symm hHq.symm
      clear hnx hsm
      repeat' (first | refine st_seq_reg rfl (by first | (simp only [go_sem, List.length_map, i2, bl_len, hgl, hgs, hrs, hset, hSl, Nat.zero_add, List.length_set, List.set_set]; rfl) | rfl) (by first | (simp only [go_sem, List.length_map, i2, bl_len, hgl, hgs, hrs, hset, hSl, Nat.zero_add, List.length_set, List.set_set]; rfl) | rfl) ?_ | refine st_reg rfl (by first | (simp only [go_sem, List.length_map, i2, bl_len, hgl, hgs, hrs, hset, hSl, Nat.zero_add, List.length_set, List.set_set]; rfl) | rfl) (by first | (simp only [go_sem, List.length_map, i2, bl_len, hgl, hgs, hrs, hset, hSl, Nat.zero_add, List.length_set, List.set_set]; rfl) | rfl) ?_ | refine st_draw rfl (by first | (simp only [go_sem, List.length_map, i2, bl_len, hgl, hgs, hrs, hset, hSl, Nat.zero_add, List.length_set, List.set_set]; rfl) | rfl) (by first | (simp only [go_sem, List.length_map, i2, bl_len, hgl, hgs, hrs, hset, hSl, Nat.zero_add, List.length_set, List.set_set]; rfl) | rfl) ?_ | refine st_op ?_ | refine st_det rfl (by simp (disch := omega) only [go_sem, wr_i64, if_yes, if_no, ↓reduceIte, Nat.reduceAdd, Nat.reduceMul, Nat.reduceEqDiff, Nat.reduceBEq, Nat.reduceLeDiff, List.length_map, i2, bl_len, hgl, hgs, hrs, hset, hSl, Nat.zero_add, List.length_set, List.set_set]; rfl) ?_ | refine st_dop rfl ?_ | refine st_store (by simp (disch := omega) only [go_sem, wr_i64, if_yes, if_no, ↓reduceIte, Nat.reduceAdd, Nat.reduceMul, Nat.reduceEqDiff, Nat.reduceBEq, Nat.reduceLeDiff, List.length_map, i2, bl_len, hgl, hgs, hrs, hset, hSl, Nat.zero_add, List.length_set, List.set_set]; rfl) ?_ | refine st_gT rfl rfl rfl ?_ | refine st_condT rfl ?_ | (refine st_condS rfl ?_ ?_ <;> intro hg <;> (try simp only [decide_eq_true_eq, decide_eq_false_iff_not, Bool.not_eq_true', Bool.not_eq_false'] at hg)) | refine st_nil ?_ | refine st_dnil ?_ | refine st_tN ?_ | refine st_seq ?_ | refine st_block ?_ | refine st_skip ?_ | refine st_exit ?_ | refine st_tE ?_ | refine st_bN ?_ | refine st_bH ?_)
      all_goals try (exfalso; omega)
      refine ⟨(q + 1, _), (by refine ⟨by show q + 1 ≤ _; omega, by simp only [go_sem, ↓reduceIte], by simp only [go_sem]; omega, fun b' hb' => by simp only [go_sem, if_neg (nbo b' hb')]; exact i4 b' hb', i5⟩), by show t.rooms.length - (q + 1) < t.rooms.length - q; omega, (by repeat' (first | exact trivial | refine And.intro ?_ ?_ | rfl | (simp (disch := omega) only [go_sem, if_yes, if_no, ↓reduceIte, Nat.reduceAdd, Nat.reduceMul, Nat.reduceEqDiff, Nat.reduceBEq, Nat.reduceLeDiff]; rfl) | (simp (disch := omega) only [go_sem, if_yes, if_no, ↓reduceIte, Nat.reduceAdd, Nat.reduceMul, Nat.reduceEqDiff, Nat.reduceBEq, Nat.reduceLeDiff]))), (by repeat' (first | exact trivial | refine And.intro ?_ ?_ | rfl | (simp (disch := omega) only [go_sem, if_yes, if_no, ↓reduceIte, Nat.reduceAdd, Nat.reduceMul, Nat.reduceEqDiff, Nat.reduceBEq, Nat.reduceLeDiff]; rfl) | (simp (disch := omega) only [go_sem, if_yes, if_no, ↓reduceIte, Nat.reduceAdd, Nat.reduceMul, Nat.reduceEqDiff, Nat.reduceBEq, Nat.reduceLeDiff]))), rfl, HOld.refl _⟩
def rowA (r : List Int) : List AV := [.lst 1 (r.map iv)]
def lel (l : List (List Int)) (i : Nat) : List Int := l.getD i []
@[go_sem] theorem rowA_getD {l : List (List Int)} {i : Nat} (h : i < l.length) : (l.map rowA).getD i [] = [.lst 1 ((lel l i).map iv)] := by
  simp [lel, rowA, List.getD_eq_getElem?_getD, h]
def rowsN (bs : Nat → Nat × Nat) (t : List (List Int)) : List (List AV) := (List.range t.length).map fun j => nrow (bs j) ((lel t j).map iv)
theorem lel_app {t : List (List Int)} {r : List Int} {j : Nat} (h : j < t.length) : lel (t ++ [r]) j = lel t j := by
  unfold lel; simp only [List.getD_eq_getElem?_getD]; rw [List.getElem?_append_left h]
theorem lel_last {t : List (List Int)} {r : List Int} : lel (t ++ [r]) t.length = r := by
  unfold lel; simp only [List.getD_eq_getElem?_getD]; simp
structure RowsN (n0 : Nat) (g : AH) (v : AV) (bs : Nat → Nat × Nat) (t : List (List Int)) : Prop where
  at_ : ∀ j, j < t.length → g.at_ (bs j) = some ⟨1, (lel t j).map iv⟩
  ge : ∀ j, j < t.length → n0 ≤ (bs j).1
  lt : ∀ j, j < t.length → (bs j).1 < g.clk
  ne : ∀ j, j < t.length → ∀ m, v ≠ .slc (bs j) 1 0 m
  inj : ∀ j k, j < t.length → k < t.length → bs j = bs k → j = k
theorem RowsN.add {n0 k0 d N nn : Nat} {g H G : AH} {v v' : AV} {bs : Nat → Nat × Nat} {t : List (List Int)} {row : List Int} {bb : Nat × Nat} {l : List (List AV)} (hA : AppA n0 k0 d H v 1 nn l v' G) (hR : RowsN n0 g v bs t) (hS : SlA n0 g v 1 (rowsN bs t)) (hH : ∀ b : Bid, b.1 < g.clk → H.at_ b = g.at_ b) (hbb : H.at_ bb = some ⟨1, row.map iv⟩) (hb1 : g.clk ≤ bb.1) (hbN : bb.1 < N) (hbd : bb ≠ (k0, d)) (hk0 : g.clk ≤ k0) (hn0 : n0 ≤ g.clk) : RowsN n0 (G.tick N) v' (fun j => if j = t.length then bb else bs j) (t ++ [row]) := by
  have hlen : (t ++ [row]).length = t.length + 1 := by simp
  have hnew : ∀ b' : Nat × Nat, (∀ m, v' = .slc b' 1 0 m → b' = (k0, d)) := fun b' m e => by
    rcases hA.new with e' | e'
    · rw [e'] at e; cases e
    · rw [e'] at e; injection e with e1; exact e1.symm
  refine ⟨fun j hj => ?_, fun j hj => ?_, fun j hj => ?_, fun j hj m e => ?_, fun j k hj hk e => ?_⟩
  · show G.at_ (if j = t.length then bb else bs j) = _
    by_cases q : j = t.length
    · rw [if_pos q, q, lel_last, hA.keep bb (fun m e => by have := (hS.lt e).2.1; omega) hbd]; exact hbb
    · have hj' : j < t.length := by omega
      have q2 := hR.lt j hj'
      rw [if_neg q, lel_app hj', hA.keep (bs j) (hR.ne j hj') (fun e => by rw [e] at q2; dsimp only at q2; omega), hH _ q2]
      exact hR.at_ j hj'
  · show _ ≤ (if j = t.length then bb else bs j).1
    by_cases q : j = t.length
    · rw [if_pos q]; omega
    · rw [if_neg q]; exact hR.ge j (by omega)
  · show (if j = t.length then bb else bs j).1 < N
    by_cases q : j = t.length
    · rw [if_pos q]; exact hbN
    · rw [if_neg q]; have := hR.lt j (by omega); omega
  · have q1 := hnew _ m e
    by_cases q : j = t.length
    · rw [if_pos q] at q1; exact hbd q1
    · rw [if_neg q] at q1; have := hR.lt j (by omega); rw [q1] at this; dsimp only at this; omega
  · have e : (if j = t.length then bb else bs j) = (if k = t.length then bb else bs k) := e
    by_cases q : j = t.length
    · by_cases q2 : k = t.length
      · omega
      · rw [if_pos q, if_neg q2] at e; have := hR.lt k (by omega); rw [← e] at this; omega
    · by_cases q2 : k = t.length
      · rw [if_neg q, if_pos q2] at e; have := hR.lt j (by omega); rw [e] at this; omega
      · rw [if_neg q, if_neg q2] at e; exact hR.inj j k (by omega) (by omega) e
theorem RowsN.tick {n0 : Nat} {g : AH} {v : AV} {bs : Nat → Nat × Nat} {t : List (List Int)} (hR : RowsN n0 g v bs t) {n : Nat} (hn : g.clk ≤ n) : RowsN n0 (g.tick n) v bs t :=
  ⟨hR.at_, hR.ge, fun j hj => Nat.lt_of_lt_of_le (hR.lt j hj) hn, hR.ne, hR.inj⟩
def chG (n m : Nat) (i : Nat) : List (List Int) := (chs n m (i + 1)).map (((i : Nat) : Int) :: ·)
theorem VLe.lst {e : Nat} {es es' : List (List AV)} (hl : es'.length = es.length) (hr : ∀ c xs, VRss c es xs → VRss c es' xs) (hc : ∀ r ∈ es', r.length = e ∧ r.all AV.cell = true) : VLe (.lst e es) (.lst e es') := by
  intro c x h
  simp only [VR] at h ⊢
  obtain ⟨a, cap, vs, h1, h2, h3, h4, h5, h6⟩ := h
  refine ⟨a, cap, vs, by rw [hl]; exact h1, by rw [hl]; exact h2, fun ea => ?_, hc, h5, hr c vs h6⟩
  have := h3 ea
  subst this
  exact List.length_eq_zero_iff.1 hl
theorem chs_ok {t : Tw} {n : Nat} : ∀ (m a : Nat) (x : List Int), x ∈ chs n m a → x.length = m ∧ (∀ i, i < x.length → (a : Int) ≤ elt x i ∧ elt x i < n) ∧ ∀ i, 0 < i → i < x.length → elt x (i - 1) < elt x i
  | 0, a, x, hx => by
    have : x = [] := by simpa [chs] using hx
    subst this
    exact ⟨rfl, fun i hi => absurd hi (Nat.not_lt_zero _), fun i _ hi => absurd hi (Nat.not_lt_zero _)⟩
  | m + 1, a, x, hx => by
    have key : ∀ k, a + k ≤ n ∨ k = 0 → x ∈ catK (chG n m) a k → ∃ j y, a ≤ j ∧ j < n ∧ x = ((j : Nat) : Int) :: y ∧ y ∈ chs n m (j + 1) := by
      intro k
      induction k with
      | zero => intro _ h; cases h
      | succ k ih =>
        intro hk h
        rcases List.mem_append.1 (show x ∈ catK (chG n m) a k ++ chG n m (a + k) from h) with h | h
        · exact ih (by omega) h
        · unfold chG at h
          obtain ⟨y, hy, rfl⟩ := List.mem_map.1 h
          exact ⟨a + k, y, by omega, by omega, rfl, hy⟩
    obtain ⟨j, y, h1, h2, rfl, h3⟩ := key (n - a) (by omega) hx
    obtain ⟨q1, q2, q3⟩ := chs_ok (t := t) m (j + 1) y h3
    have e0 : elt (((j : Nat) : Int) :: y) 0 = j := rfl
    have es : ∀ i, elt (((j : Nat) : Int) :: y) (i + 1) = elt y i := fun i => rfl
    refine ⟨by simp [q1], fun i hi => ?_, fun i h0 hi => ?_⟩
    · cases i with
      | zero => rw [e0]; omega
      | succ i => rw [es]; have := q2 i (by simpa using hi); omega
    · obtain ⟨i, rfl⟩ : ∃ i', i = i' + 1 := ⟨i - 1, by omega⟩
      rw [Nat.add_sub_cancel, es]
      cases i with
      | zero => rw [e0]; have := q2 0 (by simpa using hi); omega
      | succ i => rw [es]; have := q3 (i + 1) (by omega) (by simpa using hi); simpa using this
end Go.Proofs.Ythjbfdfhblloiaa

namespace Go.Proofs.Ythjbfdfhblloiaa
open Go.Av
set_option maxRecDepth 20000
structure GpLe (a b : Gp) : Prop where
  stay : a.stay = b.stay
  first : a.first = b.first
  path : a.path = b.path
  lo : b.lo ≤ a.lo
  lh : a.lo ≤ a.hi
  hi : a.hi ≤ b.hi
  alo : b.alo ≤ a.alo
  mid : a.alo ≤ a.ahi
  ahi : a.ahi ≤ b.ahi
structure TwLe (u t : Tw) : Prop where
  sts : u.sts = t.sts
  steps : u.steps = t.steps
  rl : u.rooms.length = t.rooms.length
  room : ∀ i, i < t.rooms.length → elt t.rooms i ≤ elt u.rooms i
  gl : u.gs.length = t.gs.length
  g : ∀ i, i < t.gs.length → GpLe (gp u.gs i) (gp t.gs i)
theorem wlk_congr {u t : Tw} (h : u.sts = t.sts) (s : Nat → Int) : ∀ (p : List Int) (k : Nat) (q : Int), wlk u s p k q = wlk t s p k q
  | [], _, _ => rfl
  | _ :: _, 0, _ => rfl
  | p :: ps, k + 1, q => by
    show (if s p.toNat = 0 then -2 else if s p.toNat = 2 then q else wlk u s ps k (oth (sx u.sts p.toNat) q)) = (if s p.toNat = 0 then -2 else if s p.toNat = 2 then q else wlk t s ps k (oth (sx t.sts p.toNat) q))
    rw [wlk_congr h s ps k, h]
theorem plc_congr {u t : Tw} (h : u.sts = t.sts) (s : Nat → Int) {a b : Gp} (k : GpLe a b) (c st : Int) : plc u s a c st = plc t s b c st := by
  unfold plc; rw [wlk_congr h, k.stay, k.first, k.path]
theorem TwLe.ldHi {u t : Tw} (h : TwLe u t) (h0 : ∀ i, i < t.gs.length → 0 ≤ (gp t.gs i).hi) (s : Nat → Int) (q st : Int) : Go.Proofs.Ythjbfdfhblloiaa.ldHi u s q st ≤ Go.Proofs.Ythjbfdfhblloiaa.ldHi t s q st := by
  unfold Go.Proofs.Ythjbfdfhblloiaa.ldHi
  rw [h.gl]
  refine sumF_le fun i hi => ?_
  have k := h.g i hi
  unfold hiF
  by_cases e : someB u s (gp u.gs i) q st = true
  · obtain ⟨c, h1, h2, h3⟩ := someB_iff.1 e
    have e2 : someB t s (gp t.gs i) q st = true := someB_iff.2 ⟨c, by have := k.alo; omega, by have := k.ahi; omega, by rw [← plc_congr h.sts s k]; exact h3⟩
    rw [if_pos e, if_pos e2]; exact k.hi
  · rw [if_neg e]
    split
    · exact h0 i hi
    · exact Int.le_refl _
theorem TwLe.ldLo {u t : Tw} (h : TwLe u t) (h0 : ∀ i, i < t.gs.length → 0 ≤ (gp t.gs i).lo) (s : Nat → Int) (q st : Int) : Go.Proofs.Ythjbfdfhblloiaa.ldLo t s q st ≤ Go.Proofs.Ythjbfdfhblloiaa.ldLo u s q st := by
  unfold Go.Proofs.Ythjbfdfhblloiaa.ldLo
  rw [h.gl]
  refine sumF_le fun i hi => ?_
  have k := h.g i hi
  have h00 := h0 i hi
  have hl := k.lo
  unfold loF
  by_cases e : allB t s (gp t.gs i) q st = true
  · have e2 : allB u s (gp u.gs i) q st = true := allB_iff.2 fun c h1 h2 => by
      rw [plc_congr h.sts s k]
      exact allB_iff.1 e c (by have := k.alo; omega) (by have := k.ahi; omega)
    rw [if_pos e, if_pos e2]; exact k.lo
  · rw [if_neg e]
    split <;> omega
theorem catN_nil {α : Type} {g : Nat → List α} : ∀ {n : Nat}, catN g n = [] ↔ ∀ i, i < n → g i = []
  | 0 => ⟨fun _ i hi => absurd hi (Nat.not_lt_zero _), fun _ => rfl⟩
  | n + 1 => by
    show catN g n ++ g n = [] ↔ _
    rw [List.append_eq_nil_iff, catN_nil]
    constructor
    · rintro ⟨h1, h2⟩ i hi
      by_cases e : i = n
      · rw [e]; exact h2
      · exact h1 i (by omega)
    · intro h
      exact ⟨fun i hi => h i (by omega), h n (by omega)⟩
theorem mem_catN {α : Type} {g : Nat → List α} {x : α} : ∀ {n : Nat}, x ∈ catN g n ↔ ∃ i, i < n ∧ x ∈ g i
  | 0 => ⟨fun h => (by cases h), fun ⟨i, hi, _⟩ => absurd hi (Nat.not_lt_zero _)⟩
  | n + 1 => by
    show x ∈ catN g n ++ g n ↔ _
    rw [List.mem_append, mem_catN]
    constructor
    · rintro (⟨i, h1, h2⟩ | h)
      · exact ⟨i, by omega, h2⟩
      · exact ⟨n, by omega, h⟩
    · rintro ⟨i, h1, h2⟩
      by_cases e : i = n
      · rw [e] at h2; exact .inr h2
      · exact .inl ⟨i, by omega, h2⟩
theorem okB_iff {t : Tw} {l : List Int} : okB t l = true ↔ ∀ st q : Nat, st < (t.steps + 1).toNat → q < t.rooms.length → Go.Proofs.Ythjbfdfhblloiaa.ldHi t (cls l) (q : Nat) (st : Nat) ≤ elt t.rooms q := by
  unfold okB
  rw [List.isEmpty_iff]
  unfold crL
  rw [catN_nil]
  constructor
  · intro h st q h1 h2
    have := catN_nil.1 (h st h1) q h2
    unfold crF at this
    by_cases e : elt t.rooms q < Go.Proofs.Ythjbfdfhblloiaa.ldHi t (cls l) (q : Nat) (st : Nat)
    · rw [if_pos e] at this; cases this
    · omega
  · intro h st h1
    refine catN_nil.2 fun q h2 => ?_
    unfold crF
    rw [if_neg (by have := h st q h1 h2; omega)]
theorem TwLe.okB {u t : Tw} (h : TwLe u t) (h0 : ∀ i, i < t.gs.length → 0 ≤ (gp t.gs i).hi) {l : List Int} (k : Go.Proofs.Ythjbfdfhblloiaa.okB t l = true) : Go.Proofs.Ythjbfdfhblloiaa.okB u l = true := by
  rw [okB_iff] at k ⊢
  intro st q h1 h2
  rw [h.steps] at h1; rw [h.rl] at h2
  have e1 := k st q h1 h2
  have e2 := h.ldHi h0 (cls l) (q : Nat) (st : Nat)
  have e3 := h.room q h2
  omega
theorem TwLe.clo {u t : Tw} (h : TwLe u t) (h0 : ∀ i, i < t.gs.length → 0 ≤ (gp t.gs i).hi) {A : List Int} (k : Go.Proofs.Ythjbfdfhblloiaa.clo t t.sts.length = some A) : ∃ B, Go.Proofs.Ythjbfdfhblloiaa.clo u u.sts.length = some B ∧ B.length ≤ A.length := by
  rw [h.sts]
  unfold Go.Proofs.Ythjbfdfhblloiaa.clo chsAll at *
  rw [h.sts, Nat.min_self]
  rw [Nat.min_self] at k
  obtain ⟨m, hm, hA⟩ := mem_catN.1 (List.mem_of_find?_eq_some k)
  have hAl := (chs_ok (t := t) m 0 A hA).1
  have hp : (crL u (cls A)).isEmpty = true := h.okB h0 (l := A) (List.find?_some k)
  have hin : A ∈ catN (fun m => chs t.sts.length m 0) (m + 1) := mem_catN.2 ⟨m, by omega, hA⟩
  cases e : (catN (fun m => chs t.sts.length m 0) (m + 1)).find? fun l => (crL u (cls l)).isEmpty with
  | none => exact absurd hp (by rw [List.find?_eq_none] at e; exact e A hin)
  | some B =>
    refine ⟨B, catN_fpre e (by omega), ?_⟩
    obtain ⟨j, hj, hB⟩ := mem_catN.1 (List.mem_of_find?_eq_some e)
    have := (chs_ok (t := t) j 0 B hB).1
    omega
theorem TwLe.ok {u t : Tw} (h : TwLe u t) (hT : TwOk t) (hr : ∀ i, i < t.rooms.length → elt u.rooms i ≤ 1000000) : TwOk u := by
  have e1 := h.rl
  refine ⟨by rw [e1]; exact hT.r0, by rw [e1]; exact hT.rn, fun i hi => ?_, by rw [h.sts]; exact hT.sn, fun i hi => ?_, by rw [h.steps]; exact hT.steps, by rw [h.gl]; exact hT.gn, fun i hi => ?_⟩
  · rw [e1] at hi
    have a := hT.room i hi; have b := h.room i hi; have c := hr i hi
    omega
  · rw [h.sts] at hi
    have := hT.st i hi
    rw [h.sts, e1]; exact this
  · rw [h.gl] at hi
    have k := h.g i hi
    have a := hT.g i hi
    have a1 := a.size; have a2 := a.at_; have k1 := k.lo; have k2 := k.hi; have k3 := k.alo; have k4 := k.ahi; have k5 := k.lh; have k6 := k.mid
    refine ⟨by omega, by omega, by rw [k.stay]; exact a.stay, by rw [k.first, e1]; exact a.first, by rw [k.path]; exact a.many, fun j hj => ?_, fun j hj => ?_⟩
    · rw [k.path] at hj ⊢; rw [h.sts]; exact a.st j hj
    · rw [k.path] at hj ⊢; rw [k.first, wayN_congr h.sts]; exact a.way j hj
theorem TwLe.refl {t : Tw} (hT : TwOk t) : TwLe t t :=
  ⟨rfl, rfl, rfl, fun _ _ => Int.le_refl _, rfl, fun i hi => by
    have a := hT.g i hi
    have a1 := a.size; have a2 := a.at_
    exact ⟨rfl, rfl, rfl, Int.le_refl _, a1.2.1, Int.le_refl _, Int.le_refl _, a2.2.1, Int.le_refl _⟩⟩
theorem sumF_ext {F G : Nat → Int} : ∀ {n : Nat}, (∀ i, i < n → F i = G i) → sumF F n = sumF G n
  | 0, _ => rfl
  | n + 1, h => by
    show sumF F n + F n = sumF G n + G n
    rw [sumF_ext (n := n) fun i hi => h i (by omega), h n (by omega)]
theorem catN_ext {α : Type} {f g : Nat → List α} : ∀ {n : Nat}, (∀ i, i < n → f i = g i) → catN f n = catN g n
  | 0, _ => rfl
  | n + 1, h => by
    show catN f n ++ f n = catN g n ++ g n
    rw [catN_ext (n := n) fun i hi => h i (by omega), h n (by omega)]
theorem ldHi_ext {t : Tw} (hT : TwOk t) {f g : Nat → Int} (h : ∀ j, j < t.sts.length → f j = g j) (q st : Int) : ldHi t f q st = ldHi t g q st := by
  unfold ldHi
  refine sumF_ext fun i hi => ?_
  unfold hiF someB
  simp only [plc_ext h (hT.g i hi)]
theorem crL_ext {t : Tw} (hT : TwOk t) {f g : Nat → Int} (h : ∀ j, j < t.sts.length → f j = g j) : crL t f = crL t g := by
  unfold crL
  refine catN_ext fun st _ => ?_
  unfold crS
  refine catN_ext fun q _ => ?_
  unfold crF
  rw [ldHi_ext hT h]
end Go.Proofs.Ythjbfdfhblloiaa
