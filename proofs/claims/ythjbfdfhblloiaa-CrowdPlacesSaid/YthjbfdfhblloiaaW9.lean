/- Contracts of functions that the claim reaches: what each call gives, told in our own logic. Conditions: those of each theorem. -/
import Derived.Test.YthjbfdfhblloiaaBaseD
import Derived.Test.YthjbfdfhblloiaaW11
import Derived.Test.YthjbfdfhblloiaaQ17
import Derived.Test.YthjbfdfhblloiaaQ25
import Derived.Test.YthjbfdfhblloiaaW14
set_option linter.all false
set_option linter.unusedSimpArgs false
set_option linter.unusedVariables false
namespace Go.Proofs.Ythjbfdfhblloiaa
open Go.Av
attribute [local irreducible] thenA blockA awp awpOps awpD awp1
set_option maxHeartbeats 8000000
set_option maxRecDepth 20000
structure CsS where
  i : Nat
  v : AV
  g : AH
theorem rlds_get {t : Tw} {f : Nat → Int} {st : Int} {q : Nat} (h : q < t.rooms.length) : (rlds t f st).getD q [] = [.int .i64 (sumF (rloF t f (q : Nat) st) t.gs.length), .int .i64 (ldHi t f (q : Nat) st)] := sl_get h
theorem rlds_len {t : Tw} {f : Nat → Int} {st : Int} : (rlds t f st).length = t.rooms.length := sl_len _ _ _
theorem catN_up {α : Type} {g : Nat → List α} {B : Nat} : ∀ {n : Nat}, (∀ i, i < n → (g i).length ≤ B) → (catN g n).length ≤ n * B := fun h => catN_len h
theorem c91 (t : Tw) (s : List Int) (hT : TwOk t) (hsl : s.length = t.sts.length) : Pure Try.prog 91 [t.av, .lst 1 (s.map iv)] (fun v => v = .lst 3 ((crL t (elt s)).map Cr.row)) := by
  have hrn := hT.rn
  have hst := hT.steps
  have ht0 : t.av = .agg t.cells := rfl
  refine Pure.give Try.call91 fun h hall => ?_
  refine ACalls.of tab mixed Try.call91 Try.func91 rfl (fi := ⟨49, [], [2, 46], none, [(9, [0, 0, 3, 7, 15, 0, 32, 0, 224, 480, 1023], [(0, false), (1, false), (2, false), (3, false), (4, true), (5, false), (6, true), (7, false), (8, false), (9, true), (10, false)])]⟩) rfl rfl (Nat.le_of_ble_eq_true rfl) (by decide) ?_
  unfold startA
  rw [ht0]
  unfold Tw.cells
  repeat' (first | refine st_seq_reg rfl (by first | (simp only [go_sem]; rfl) | rfl) (by first | (simp only [go_sem]; rfl) | rfl) ?_ | refine st_op ?_ | refine st_det rfl (by simp (disch := omega) only [go_sem, wr_i64, if_yes, if_no, ↓reduceIte, Nat.reduceAdd, Nat.reduceMul, Nat.reduceEqDiff, Nat.reduceBEq, Nat.reduceLeDiff]; rfl) ?_ | refine st_nil ?_ | refine st_seq ?_ | refine st_block ?_)
  have hF1 : ∀ st q, (crF t (elt s) st q).length ≤ 1 := fun st q => by unfold crF; split <;> simp
  have hS12 : ∀ st, (crS t (elt s) st).length ≤ 12 := fun st => by
    have := catN_up (g := crF t (elt s) st) (B := 1) (n := t.rooms.length) (fun q _ => hF1 st q)
    unfold crS; omega
  refine st_loopH (α := CsS) tab mixed [] [] (by repeat (first | exact trivial | refine ⟨rfl, ?_⟩)) [] [] (by repeat (first | exact trivial | refine ⟨rfl, ?_⟩)) (fun a => [(6, .int .i64 (a.i : Nat)), (5, a.v)]) [(1, _), (2, _)] (fun _ => []) [] (fun a => a.g) (fun a => a.i ≤ (t.steps + 1).toNat ∧ SlA h.clk a.g a.v 3 ((catN (crS t (elt s)) a.i).map Cr.row) ∧ (∀ b' : Bid, b'.1 < h.clk → a.g.at_ b' = h.at_ b') ∧ a.g.lp = h.lp ∧ h.clk ≤ a.g.clk) (fun a => (t.steps + 1).toNat - a.i) (by decide) ⟨0, .nils, _⟩ (by refine ⟨Nat.zero_le _, .inl ⟨rfl, rfl⟩, fun _ _ => rfl, rfl, by simp only [go_sem]; omega⟩) (by (try simp only [go_sem]); repeat' (first | exact trivial | refine And.intro ?_ ?_ | rfl | (simp (disch := omega) only [go_sem, if_yes, if_no, ↓reduceIte, Nat.reduceAdd, Nat.reduceMul, Nat.reduceEqDiff, Nat.reduceBEq, Nat.reduceLeDiff]; rfl) | (simp (disch := omega) only [go_sem, if_yes, if_no, ↓reduceIte, Nat.reduceAdd, Nat.reduceMul, Nat.reduceEqDiff, Nat.reduceBEq, Nat.reduceLeDiff]))) (by (try simp only [go_sem]); repeat' (first | exact trivial | refine And.intro ?_ ?_ | rfl | (simp (disch := omega) only [go_sem, if_yes, if_no, ↓reduceIte, Nat.reduceAdd, Nat.reduceMul, Nat.reduceEqDiff, Nat.reduceBEq, Nat.reduceLeDiff]; rfl) | (simp (disch := omega) only [go_sem, if_yes, if_no, ↓reduceIte, Nat.reduceAdd, Nat.reduceMul, Nat.reduceEqDiff, Nat.reduceBEq, Nat.reduceLeDiff]))) (HOld.refl _) ?_
  rintro ⟨st, v, G⟩ d ⟨i1, hS, i3, i4, i5⟩ hd
  dsimp only at i1 hS i3 i4 i5 hd
  simp only [go_sem]
  by_cases hi : st < (t.steps + 1).toNat
  case neg =>
    obtain rfl : st = (t.steps + 1).toNat := by omega
    have hnc := hS.noL
    repeat' (first | refine st_seq_reg rfl (by first | (simp only [go_sem]; rfl) | rfl) (by first | (simp only [go_sem]; rfl) | rfl) ?_ | refine st_op ?_ | refine st_det rfl (by simp (disch := omega) only [go_sem, wr_i64, if_yes, if_no, ↓reduceIte, Nat.reduceAdd, Nat.reduceMul, Nat.reduceEqDiff, Nat.reduceBEq, Nat.reduceLeDiff]; rfl) ?_ | (refine st_condS rfl ?_ ?_ <;> intro hg <;> (try simp only [decide_eq_true_eq, decide_eq_false_iff_not, Bool.not_eq_true', Bool.not_eq_false'] at hg)) | refine st_nil ?_ | refine st_tN ?_ | refine st_seq ?_ | refine st_block ?_ | refine st_skip ?_ | refine st_exit ?_ | refine st_ret ?_ | refine st_tE ?_ | refine st_bH ?_)
    all_goals try (exfalso; omega)
    simp (disch := omega) only [AEnd, Try.results91, aresK, fin, go_sem, ↓reduceIte, Nat.reduceEqDiff, Nat.reduceAdd, Nat.reduceLeDiff, if_yes, if_no, implies_true, true_and, and_true, List.reverse_cons, List.reverse_nil]
    exact ⟨hS.noL, i3, i4, SlA.ans (h := h) (g := G) (R := fun v => v = .lst 3 ((crL t (elt s)).map Cr.row)) hS rfl⟩
  have k89 := c89 t s (st : Nat) hT hsl ⟨by omega, by omega⟩
  have hlen : (catN (crS t (elt s)) st).length ≤ st * 12 := catN_up fun i _ => hS12 i
  have hnc := hS.noL
  repeat' (first | refine st_seq_reg rfl (by first | (simp only [go_sem]; rfl) | rfl) (by first | (simp only [go_sem]; rfl) | rfl) ?_ | refine st_op ?_ | refine st_det rfl (by simp (disch := omega) only [go_sem, wr_i64, if_yes, if_no, ↓reduceIte, Nat.reduceAdd, Nat.reduceMul, Nat.reduceEqDiff, Nat.reduceBEq, Nat.reduceLeDiff]; rfl) ?_ | (refine st_pureE (by first | (simp (disch := omega) only [go_sem]; rfl) | rfl) rfl (k89) (by first | (simp only [go_sem]; rfl) | rfl) (by intro n; first | (simp (disch := omega) only [go_sem]; rfl) | rfl) ?_; intro n hn) | (refine st_condS rfl ?_ ?_ <;> intro hg <;> (try simp only [decide_eq_true_eq, decide_eq_false_iff_not, Bool.not_eq_true', Bool.not_eq_false'] at hg)) | refine st_nil ?_ | refine st_tN ?_ | refine st_seq ?_ | refine st_block ?_ | refine st_skip ?_ | refine st_exit ?_ | refine st_ret ?_ | refine st_tE ?_ | refine st_bH ?_)
  all_goals try (exfalso; omega)
  refine st_loopH (α := CsS) tab mixed [] [] (by repeat (first | exact trivial | refine ⟨rfl, ?_⟩)) [] [] (by repeat (first | exact trivial | refine ⟨rfl, ?_⟩)) (fun a => [(8, .int .i64 (a.i : Nat)), (5, a.v)]) [(1, _), (2, _), (6, _), (7, _)] (fun _ => []) [] (fun a => a.g) (fun a => a.i ≤ t.rooms.length ∧ SlA h.clk a.g a.v 3 ((catN (crS t (elt s)) st ++ catN (crF t (elt s) st) a.i).map Cr.row) ∧ (∀ b' : Bid, b'.1 < h.clk → a.g.at_ b' = h.at_ b') ∧ a.g.lp = h.lp ∧ h.clk ≤ a.g.clk) (fun a => t.rooms.length - a.i) (by decide) ⟨0, v, _⟩ (by refine ⟨Nat.zero_le _, ?_, fun b' hb' => i3 b' hb', i4, by simp only [go_sem]; omega⟩; show SlA h.clk _ v 3 ((catN (crS t (elt s)) st ++ []).map Cr.row); rw [List.append_nil]; exact hS.to (fun _ _ _ _ _ => rfl) (by simp only [go_sem]; omega)) (by (try simp only [go_sem]); repeat' (first | exact trivial | refine And.intro ?_ ?_ | rfl | (simp (disch := omega) only [go_sem, if_yes, if_no, ↓reduceIte, Nat.reduceAdd, Nat.reduceMul, Nat.reduceEqDiff, Nat.reduceBEq, Nat.reduceLeDiff]; rfl) | (simp (disch := omega) only [go_sem, if_yes, if_no, ↓reduceIte, Nat.reduceAdd, Nat.reduceMul, Nat.reduceEqDiff, Nat.reduceBEq, Nat.reduceLeDiff]))) (by (try simp only [go_sem]); repeat' (first | exact trivial | refine And.intro ?_ ?_ | rfl | (simp (disch := omega) only [go_sem, if_yes, if_no, ↓reduceIte, Nat.reduceAdd, Nat.reduceMul, Nat.reduceEqDiff, Nat.reduceBEq, Nat.reduceLeDiff]; rfl) | (simp (disch := omega) only [go_sem, if_yes, if_no, ↓reduceIte, Nat.reduceAdd, Nat.reduceMul, Nat.reduceEqDiff, Nat.reduceBEq, Nat.reduceLeDiff]))) (HOld.refl _) ?_
  clear i3 i4 i5 hS hd hnc
  rintro ⟨q, v, G⟩ d ⟨j1, hS, i3, i4, i5⟩ hd
  dsimp only at j1 hS i3 i4 i5 hd
  simp only [go_sem]
  have hnc := hS.noL
  have hlen2 : (catN (crF t (elt s) st) q).length ≤ q * 1 := catN_up fun i _ => hF1 st i
  by_cases hq : q < t.rooms.length
  case neg =>
    obtain rfl : q = t.rooms.length := by omega
    repeat' (first | refine st_seq_reg rfl (by first | (simp only [go_sem, List.length_map]; rfl) | rfl) (by first | (simp only [go_sem, List.length_map]; rfl) | rfl) ?_ | refine st_reg rfl (by first | (simp only [go_sem, List.length_map]; rfl) | rfl) (by first | (simp only [go_sem, List.length_map]; rfl) | rfl) ?_ | refine st_seq_draw rfl (by first | (simp only [go_sem, List.length_map]; rfl) | rfl) (by first | (simp only [go_sem, List.length_map]; rfl) | rfl) ?_ | refine st_op ?_ | refine st_det rfl (by simp (disch := omega) only [go_sem, wr_i64, if_yes, if_no, ↓reduceIte, Nat.reduceAdd, Nat.reduceMul, Nat.reduceEqDiff, Nat.reduceBEq, Nat.reduceLeDiff, List.length_map]; rfl) ?_ | refine st_dop rfl ?_ | (refine st_condS rfl ?_ ?_ <;> intro hg <;> (try simp only [decide_eq_true_eq, decide_eq_false_iff_not, Bool.not_eq_true', Bool.not_eq_false'] at hg)) | refine st_nil ?_ | refine st_tN ?_ | refine st_seq ?_ | refine st_block ?_ | refine st_skip ?_ | refine st_exit ?_ | refine st_tE ?_ | refine st_bN ?_ | refine st_bH ?_)
    all_goals try (exfalso; omega)
    refine ⟨⟨st + 1, v, _⟩, (by refine ⟨by show st + 1 ≤ _; omega, hS.to (fun _ _ _ _ _ => rfl) (by simp only [go_sem]; omega), fun b' hb' => i3 b' hb', i4, by simp only [go_sem]; omega⟩), by show (t.steps + 1).toNat - (st + 1) < (t.steps + 1).toNat - st; omega, (by repeat' (first | exact trivial | refine And.intro ?_ ?_ | rfl | (simp (disch := omega) only [go_sem, if_yes, if_no, ↓reduceIte, Nat.reduceAdd, Nat.reduceMul, Nat.reduceEqDiff, Nat.reduceBEq, Nat.reduceLeDiff]; rfl) | (simp (disch := omega) only [go_sem, if_yes, if_no, ↓reduceIte, Nat.reduceAdd, Nat.reduceMul, Nat.reduceEqDiff, Nat.reduceBEq, Nat.reduceLeDiff]))), (by repeat' (first | exact trivial | refine And.intro ?_ ?_ | rfl | (simp (disch := omega) only [go_sem, if_yes, if_no, ↓reduceIte, Nat.reduceAdd, Nat.reduceMul, Nat.reduceEqDiff, Nat.reduceBEq, Nat.reduceLeDiff]; rfl) | (simp (disch := omega) only [go_sem, if_yes, if_no, ↓reduceIte, Nat.reduceAdd, Nat.reduceMul, Nat.reduceEqDiff, Nat.reduceBEq, Nat.reduceLeDiff]))), rfl, HOld.refl _⟩
  have hgq := rlds_get (t := t) (f := elt s) (st := (st : Nat)) hq
  have hrl := rlds_len (t := t) (f := elt s) (st := (st : Nat))
  have hnx : catN (crF t (elt s) st) (q + 1) = catN (crF t (elt s) st) q ++ crF t (elt s) st q := rfl
  by_cases hb : elt t.rooms q < ldHi t (elt s) (q : Nat) (st : Nat)
  · have hc1 : crF t (elt s) st q = [⟨(st : Nat), (q : Nat), ldHi t (elt s) (q : Nat) (st : Nat)⟩] := by unfold crF; rw [if_pos hb]
    rw [hc1] at hnx
    repeat' (first | refine st_seq_reg rfl (by first | (simp only [go_sem, List.length_map, hgq, hrl, List.length_append]; rfl) | rfl) (by first | (simp only [go_sem, List.length_map, hgq, hrl, List.length_append]; rfl) | rfl) ?_ | refine st_reg rfl (by first | (simp only [go_sem, List.length_map, hgq, hrl, List.length_append]; rfl) | rfl) (by first | (simp only [go_sem, List.length_map, hgq, hrl, List.length_append]; rfl) | rfl) ?_ | refine st_seq_draw rfl (by first | (simp only [go_sem, List.length_map, hgq, hrl, List.length_append]; rfl) | rfl) (by first | (simp only [go_sem, List.length_map, hgq, hrl, List.length_append]; rfl) | rfl) ?_ | refine st_op ?_ | refine st_det rfl (by simp (disch := omega) only [go_sem, wr_i64, if_yes, if_no, ↓reduceIte, Nat.reduceAdd, Nat.reduceMul, Nat.reduceEqDiff, Nat.reduceBEq, Nat.reduceLeDiff, List.length_map, hgq, hrl, List.length_append]; rfl) ?_ | refine st_dop rfl ?_ | (refine st_appS (by intro h id x y; simp only [go_sem]; rfl) rfl (by simp only [go_sem, List.length_map, hgq, hrl, List.length_append]; rfl) (by simp only [go_sem, List.length_map, hgq, hrl, List.length_append]; rfl) (by decide) hS (fun _ _ _ => rfl) (by omega) (by simp only [List.length_map, List.length_cons, List.length_nil, big, List.length_map, hgq, hrl, List.length_append]; omega) (by omega) (by omega) ?_; intro v' g' hA) | (refine st_condS rfl ?_ ?_ <;> intro hg <;> (try simp only [decide_eq_true_eq, decide_eq_false_iff_not, Bool.not_eq_true', Bool.not_eq_false'] at hg)) | refine st_nil ?_ | refine st_dnil ?_ | refine st_tN ?_ | refine st_seq ?_ | refine st_block ?_ | refine st_skip ?_ | refine st_exit ?_ | refine st_tE ?_ | refine st_bN ?_ | refine st_bH ?_)
    all_goals try (exfalso; omega)
    refine ⟨⟨q + 1, v', _⟩, (by refine ⟨by show q + 1 ≤ _; omega, by rw [hnx, ← List.append_assoc, List.map_append]; exact hA.sl.to (fun _ _ _ _ _ => rfl) (by simp only [go_sem]; omega), fun b' hb' => (hA.old b' hb').trans (i3 b' hb'), hA.lp.trans i4, by simp only [go_sem]; omega⟩), by show t.rooms.length - (q + 1) < t.rooms.length - q; omega, (by repeat' (first | exact trivial | refine And.intro ?_ ?_ | rfl | (simp (disch := omega) only [go_sem, if_yes, if_no, ↓reduceIte, Nat.reduceAdd, Nat.reduceMul, Nat.reduceEqDiff, Nat.reduceBEq, Nat.reduceLeDiff]; rfl) | (simp (disch := omega) only [go_sem, if_yes, if_no, ↓reduceIte, Nat.reduceAdd, Nat.reduceMul, Nat.reduceEqDiff, Nat.reduceBEq, Nat.reduceLeDiff]))), (by repeat' (first | exact trivial | refine And.intro ?_ ?_ | rfl | (simp (disch := omega) only [go_sem, if_yes, if_no, ↓reduceIte, Nat.reduceAdd, Nat.reduceMul, Nat.reduceEqDiff, Nat.reduceBEq, Nat.reduceLeDiff]; rfl) | (simp (disch := omega) only [go_sem, if_yes, if_no, ↓reduceIte, Nat.reduceAdd, Nat.reduceMul, Nat.reduceEqDiff, Nat.reduceBEq, Nat.reduceLeDiff]))), rfl, HOld.refl _⟩
  · have hc1 : crF t (elt s) st q = [] := by unfold crF; rw [if_neg hb]
    rw [hc1, List.append_nil] at hnx
    repeat' (first | refine st_seq_reg rfl (by first | (simp only [go_sem, List.length_map, hgq, hrl]; rfl) | rfl) (by first | (simp only [go_sem, List.length_map, hgq, hrl]; rfl) | rfl) ?_ | refine st_reg rfl (by first | (simp only [go_sem, List.length_map, hgq, hrl]; rfl) | rfl) (by first | (simp only [go_sem, List.length_map, hgq, hrl]; rfl) | rfl) ?_ | refine st_seq_draw rfl (by first | (simp only [go_sem, List.length_map, hgq, hrl]; rfl) | rfl) (by first | (simp only [go_sem, List.length_map, hgq, hrl]; rfl) | rfl) ?_ | refine st_op ?_ | refine st_det rfl (by simp (disch := omega) only [go_sem, wr_i64, if_yes, if_no, ↓reduceIte, Nat.reduceAdd, Nat.reduceMul, Nat.reduceEqDiff, Nat.reduceBEq, Nat.reduceLeDiff, List.length_map, hgq, hrl]; rfl) ?_ | refine st_dop rfl ?_ | (refine st_condS rfl ?_ ?_ <;> intro hg <;> (try simp only [decide_eq_true_eq, decide_eq_false_iff_not, Bool.not_eq_true', Bool.not_eq_false'] at hg)) | refine st_nil ?_ | refine st_dnil ?_ | refine st_tN ?_ | refine st_seq ?_ | refine st_block ?_ | refine st_skip ?_ | refine st_exit ?_ | refine st_tE ?_ | refine st_bN ?_ | refine st_bH ?_)
    all_goals try (exfalso; omega)
    refine ⟨⟨q + 1, v, _⟩, (by refine ⟨by show q + 1 ≤ _; omega, by rw [hnx]; exact hS.to (fun _ _ _ _ _ => rfl) (by simp only [go_sem]; omega), fun b' hb' => i3 b' hb', i4, by simp only [go_sem]; omega⟩), by show t.rooms.length - (q + 1) < t.rooms.length - q; omega, (by repeat' (first | exact trivial | refine And.intro ?_ ?_ | rfl | (simp (disch := omega) only [go_sem, if_yes, if_no, ↓reduceIte, Nat.reduceAdd, Nat.reduceMul, Nat.reduceEqDiff, Nat.reduceBEq, Nat.reduceLeDiff]; rfl) | (simp (disch := omega) only [go_sem, if_yes, if_no, ↓reduceIte, Nat.reduceAdd, Nat.reduceMul, Nat.reduceEqDiff, Nat.reduceBEq, Nat.reduceLeDiff]))), (by repeat' (first | exact trivial | refine And.intro ?_ ?_ | rfl | (simp (disch := omega) only [go_sem, if_yes, if_no, ↓reduceIte, Nat.reduceAdd, Nat.reduceMul, Nat.reduceEqDiff, Nat.reduceBEq, Nat.reduceLeDiff]; rfl) | (simp (disch := omega) only [go_sem, if_yes, if_no, ↓reduceIte, Nat.reduceAdd, Nat.reduceMul, Nat.reduceEqDiff, Nat.reduceBEq, Nat.reduceLeDiff]))), rfl, HOld.refl _⟩
end Go.Proofs.Ythjbfdfhblloiaa

namespace Go.Proofs.Ythjbfdfhblloiaa
open Go.Av
set_option maxRecDepth 20000
theorem wlk_ge {t : Tw} {g : Gp} (hG : GpOk t g) (f : Nat → Int) (hf : ∀ j, f j ≠ 0) : ∀ (n i k : Nat), i + n = g.path.length → 0 ≤ wayN t g.path g.first i → -1 ≤ wlk t f (g.path.drop i) k (wayN t g.path g.first i)
  | 0, i, k, h, h0 => by
    rw [List.drop_eq_nil_of_le (by omega)]
    show -1 ≤ (if 0 < k then (-1 : Int) else _)
    split <;> omega
  | n + 1, i, 0, h, h0 => by
    rw [drop_getD 0 (by omega : i < g.path.length)]; show -1 ≤ wayN t g.path g.first i; omega
  | n + 1, i, k + 1, h, h0 => by
    have ih := wlk_ge hG f hf n (i + 1) k (by omega) (hG.way (i + 1) (by omega))
    rw [drop_getD 0 (by omega : i < g.path.length)]
    show -1 ≤ (if f (elt g.path i).toNat = 0 then (-2 : Int) else if f (elt g.path i).toNat = 2 then wayN t g.path g.first i else wlk t f (g.path.drop (i + 1)) k (oth (sx t.sts (elt g.path i).toNat) (wayN t g.path g.first i)))
    rw [if_neg (hf _)]
    split
    · omega
    · exact ih
theorem plc_ge {t : Tw} {g : Gp} (hG : GpOk t g) (f : Nat → Int) (hf : ∀ j, f j ≠ 0) (came step : Int) : -1 ≤ plc t f g came step := by
  unfold plc
  split
  · omega
  · exact wlk_ge hG f hf g.path.length 0 _ (by omega) hG.first.1
theorem cls_ne (c : List Int) (j : Nat) : cls c j ≠ 0 := by
  unfold cls; split <;> decide
theorem TwLe.some {u t : Tw} (h : TwLe u t) (s : Nat → Int) {i : Nat} (hi : i < t.gs.length) {q st : Int} (k : someB u s (gp u.gs i) q st = true) : someB t s (gp t.gs i) q st = true := by
  have g := h.g i hi
  obtain ⟨c, h1, h2, h3⟩ := someB_iff.1 k
  exact someB_iff.2 ⟨c, by have := g.alo; omega, by have := g.ahi; omega, by rw [← plc_congr h.sts s g]; exact h3⟩
end Go.Proofs.Ythjbfdfhblloiaa
