/- Contracts of functions that the claim reaches: what each call gives, told in our own logic. Conditions: those of each theorem. -/
import Derived.Test.YtkjpceapflhmnaaF63
import Derived.Test.YtkjpceapflhmnaaF50
import Derived.Test.YtkjpceapflhmnaaF27
import Derived.Test.YtkjpceapflhmnaaF30
import Derived.Test.YtkjpceapflhmnaaF35
set_option linter.all false
set_option linter.unusedSimpArgs false
set_option linter.unusedVariables false
namespace Go.Proofs.Ytkjpceapflhmnaa
open Go.Av
attribute [local irreducible] thenA blockA awp awpOps awpD awp1
set_option maxHeartbeats 8000000
set_option maxRecDepth 20000
theorem trow_getD {A : List (List Int × List Int)} {i : Nat} (h : i < A.length) : (A.map trow).getD i [] = [.lst 1 ((tk A i).1.map iv), .lst 1 ((tk A i).2.map iv)] := by
  simp [trow, tk, List.getD_eq_getElem?_getD, h]
theorem awp_gen {K : AS → Prop} {T : Nat → AV} {B : Bid → Option (List AV)} {M : List Nat} {h : AH} (k : ∀ H, H = h → K ⟨T, B, M, H⟩) : K ⟨T, B, M, h⟩ := k h rfl
theorem hold_id {h : AH} {b : Nat × Nat} {k : Option Blk} (hk : h.at_ b = k) : HOld (h.put b k) h := by
  refine ⟨fun z k2 hz => ?_, fun _ _ e => e, Nat.le_refl _⟩
  simp only [AH.put, upd_apply] at hz
  by_cases e : z = b
  · subst e; rw [hk]; simpa using hz
  · simpa [e] using hz
theorem gcl_zero (f : Fl) (A : List (List Int × List Int)) (r : List Hu) : (gcl f A r 0 0).map iv = List.replicate r.length [.int .i64 0] := by
  refine List.ext_getElem (by simp [gcl]) fun j h1 h2 => ?_
  simp [gcl, iv, cnt]
theorem spn_s1 (g : Nat → Int) (i : Nat) : (spn g (i + 1)).1 = if 0 < i then min (spn g i).1 (g i) else g i := by
  show (if 0 < i then ((min (spn g i).1 (g i), max (spn g i).2 (g i)) : Int × Int) else (g i, g i)).1 = _
  split <;> rfl
theorem spn_s2 (g : Nat → Int) (i : Nat) : (spn g (i + 1)).2 = if 0 < i then max (spn g i).2 (g i) else g i := by
  show (if 0 < i then ((min (spn g i).1 (g i), max (spn g i).2 (g i)) : Int × Int) else (g i, g i)).2 = _
  split <;> rfl
theorem pos_cast (i : Nat) : ((0 : Int) < (i : Nat)) = (0 < i) := propext (by omega)
theorem law11 (l : List Int) (hl : (l.length : Int) ≤ 9223372036854775807) (h : AH) : ACalls Try.prog 11 [.lst 1 (l.map iv)] h (fun v _ => v = .bool true) := by
  refine ACalls.of tab mixed Try.call11 Try.func11 rfl (fi := ⟨238, [4, 8, 9, 10, 11, 18, 20, 21, 23], [], none, [(12, [0, 0, 0, 6, 14, 31, 63, 127, 127, 255, 1023], [(0, true), (1, false), (2, false), (3, false), (4, true), (5, false), (6, false), (7, false), (8, false), (9, false), (10, false)]), (13, [0, 0, 2, 0, 0, 0, 48, 112, 248, 511, 0, 0, 2048, 0, 0, 0, 49152, 114688, 254975, 524287, 1048575, 2097151], [(0, true), (1, false), (2, false), (3, true), (4, false), (5, false), (6, false), (7, true), (10, true), (11, false), (12, false), (13, true), (14, false), (15, false), (16, false), (17, true), (8, false), (9, false), (18, false), (19, false), (20, false), (21, false)]), (14, [0, 0, 2, 0, 15, 0, 0, 64, 0, 511, 1023, 2047], [(0, true), (1, false), (2, false), (3, false), (5, true), (6, false), (7, false), (8, false), (4, false), (9, false), (10, false), (11, false)]), (20, [0, 0, 0, 6, 14, 0, 0, 96, 224, 511], [(0, true), (1, false), (2, false), (3, false), (4, true), (5, false), (6, false), (7, false), (8, true), (9, false)]), (32, [0, 0, 3, 7, 0, 0, 48, 112, 0, 256, 1008, 2047], [(0, false), (1, false), (2, false), (3, true), (4, false), (5, false), (6, false), (7, false), (8, false), (9, false), (10, false), (11, false)]), (34, [0, 0, 2, 0, 14, 0, 32, 0, 254, 510, 1023, 2047, 4095, 4095, 12287, 4095, 61439, 4095, 135167, 4095, 1044479, 2093055, 4194303, 8388607, 16777215, 33554431, 67108863, 134217727], [(0, true), (1, false), (2, true), (3, false), (5, false), (6, true), (7, false), (4, false), (8, false), (9, false), (10, false), (11, false), (12, true), (13, false), (14, true), (15, false), (17, false), (18, true), (19, false), (16, false), (20, false), (21, false), (22, false), (23, false), (24, false), (25, false), (26, false), (27, false)])]⟩) rfl rfl (Nat.le_of_ble_eq_true rfl) (by decide) ?_
  unfold startA
  repeat' (first
      | refine st_seq_reg rfl (by first | (simp only [go_sem, List.length_map]; rfl) | rfl) (by first | (simp only [go_sem, List.length_map]; rfl) | rfl) ?_
      | refine st_reg rfl (by first | (simp only [go_sem, List.length_map]; rfl) | rfl) (by first | (simp only [go_sem, List.length_map]; rfl) | rfl) ?_
      | refine st_seq_draw rfl (by first | (simp only [go_sem, List.length_map]; rfl) | rfl) (by first | (simp only [go_sem, List.length_map]; rfl) | rfl) ?_
      | refine st_draw rfl (by first | (simp only [go_sem, List.length_map]; rfl) | rfl) (by first | (simp only [go_sem, List.length_map]; rfl) | rfl) ?_
      | refine st_op ?_
      | refine st_det rfl (by simp (disch := omega) only [go_sem, wr_i64, if_yes, if_no, ↓reduceIte, Nat.reduceAdd, Nat.reduceMul, Nat.reduceEqDiff, Nat.reduceBEq, Nat.reduceLeDiff, List.length_map]; rfl) ?_
      | refine st_dop rfl ?_
      | refine st_loc rfl (by simp (disch := omega) only [go_sem, wr_i64, if_yes, if_no, ↓reduceIte, Nat.reduceAdd, Nat.reduceMul, Nat.reduceEqDiff, Nat.reduceBEq, Nat.reduceLeDiff, List.length_map]; rfl) ?_
      | refine st_heap rfl (by simp (disch := omega) only [go_sem, wr_i64, if_yes, if_no, ↓reduceIte, Nat.reduceAdd, Nat.reduceMul, Nat.reduceEqDiff, Nat.reduceBEq, Nat.reduceLeDiff, List.length_map]; rfl) ?_
      | refine st_store (by simp (disch := omega) only [go_sem, wr_i64, if_yes, if_no, ↓reduceIte, Nat.reduceAdd, Nat.reduceMul, Nat.reduceEqDiff, Nat.reduceBEq, Nat.reduceLeDiff, List.length_map]; rfl) ?_
      | refine st_append (by simp (disch := omega) only [go_sem, wr_i64, if_yes, if_no, ↓reduceIte, Nat.reduceAdd, Nat.reduceMul, Nat.reduceEqDiff, Nat.reduceBEq, Nat.reduceLeDiff, List.length_map]; rfl) ?_
      | (refine st_callf rfl rfl (c14 l hl _) ?_; rintro v h' ⟨b, x, n, rfl, hb1, hb2, hu0, rfl⟩)
      | (refine st_drum (by first | (simp (disch := omega) only [go_sem, List.length_map]; rfl) | rfl) rfl (c59 b) (by first | (simp (disch := omega) only [go_sem, List.length_map]; rfl) | rfl) (by assumption) (by first | (simp only [go_sem, List.length_map]; rfl) | rfl) (by intro x' n; simp (disch := omega) only [go_sem]; rfl) ?_; rintro v x' n hu' ⟨f, rfl, hf, hfew⟩ hn)
      | (refine st_drum (by first | (simp (disch := omega) only [go_sem, List.length_map]; rfl) | rfl) rfl (c22 b f 3 4 hf (by omega) (by omega)) (by first | (simp (disch := omega) only [go_sem, List.length_map]; rfl) | rfl) (by assumption) (by first | (simp only [go_sem, List.length_map]; rfl) | rfl) (by intro x' n; simp (disch := omega) only [go_sem]; rfl) ?_; rintro v x' n hu' ⟨r, rfl, hrl, hr⟩ hn)
      | (refine st_pureE (by first | (simp (disch := omega) only [go_sem, List.length_map]; rfl) | rfl) rfl (c60p f hf hfew) (by first | (simp only [go_sem, List.length_map]; rfl) | rfl) (by intro n; simp (disch := omega) only [go_sem]; rfl) ?_; intro n hn)
      | refine st_gT rfl rfl rfl ?_
      | refine st_gF rfl rfl rfl ?_
      | refine st_dgT rfl rfl rfl rfl ?_
      | refine st_dgF rfl rfl rfl ?_
      | (refine st_gS rfl rfl ?_ ?_ <;> intro hg <;> (try simp only [decide_eq_true_eq, decide_eq_false_iff_not, Bool.not_eq_true', Bool.not_eq_false'] at hg))
      | (refine st_dgS rfl rfl ?_ ?_ <;> intro hg <;> (try simp only [decide_eq_true_eq, decide_eq_false_iff_not, Bool.not_eq_true', Bool.not_eq_false'] at hg))
      | refine st_condT rfl ?_
      | refine st_condF rfl ?_
      | (refine st_condS rfl ?_ ?_ <;> intro hg <;> (try simp only [decide_eq_true_eq, decide_eq_false_iff_not, Bool.not_eq_true', Bool.not_eq_false'] at hg))
      | refine st_nil ?_
      | refine st_dnil ?_
      | refine st_tN ?_
      | refine st_seq ?_
      | refine st_block ?_
      | refine st_skip ?_
      | refine st_exit ?_
      | refine st_ret ?_
      | refine st_tE ?_
      | refine st_tR ?_
      | refine st_bN ?_
      | refine st_bR ?_
      | refine st_bH ?_
      | refine st_bM rfl ?_)
  refine awp_gen (K := awp _ _ _ _ _) ?_
  intro H1 hH1
  have hfo := chkOk (chkGood hf (by omega))
  have hax := hf.axles; have hle := hf.len
  have hwr : wr .i64 (f.rear - f.front) = f.rear - f.front := wr_i64 (by omega)
  rw [hwr]
  have hE := ends hf hfo
  have hAl := all_le hf hfew
  have gx : H1.at_ (n + 1 + 1 + 1, 47) = some ⟨1, (gcl f (allT f) r 0 0).map iv⟩ := by
    rw [hH1, gcl_zero]
    simp only [go_sem, ↓reduceIte]
  clear hH1
  generalize (n + 1 + 1 + 1, 47) = gb at *
  generalize allT f = A at *
  have hrl' : r.length ≤ 40 := by omega
  have hok : ∀ x ∈ r, HuOk x := (bothOk (bothGood hf (by omega) hrl' hr)).2.1
  refine st_loopH (α := Nat) tab mixed [8, 9, 10, 11] [_, _, _, _] (by repeat (first | exact trivial | refine ⟨rfl, ?_⟩)) [4] [_] (by repeat (first | exact trivial | refine ⟨rfl, ?_⟩)) (fun i => [(14, .int .i64 (i : Nat)), (12, .int .i64 (cnt (upB f A) i))]) [(4, _), (5, _), (6, _), (7, _), (8, _), (9, _), (10, _), (11, _), (13, _)] (fun i => [[.int .i64 (spn (fun i => toT f (tk A i).1) i).1, .int .i64 (spn (fun i => toT f (tk A i).1) i).2], [.int .i64 (spn (fun i => frT f (tk A i).1) i).1, .int .i64 (spn (fun i => frT f (tk A i).1) i).2], [.int .i64 (spn (fun i => reT f (tk A i).1) i).1, .int .i64 (spn (fun i => reT f (tk A i).1) i).2], [.int .i64 (spn (fun i => taT f (tk A i).2) i).1, .int .i64 (spn (fun i => taT f (tk A i).2) i).2]]) [_] (fun i => H1.put gb (some ⟨1, (gcl f A r i 0).map iv⟩)) (fun i => i ≤ A.length) (fun i => A.length - i) (by decide) 0 (Nat.zero_le _) (by (try simp only [go_sem]); repeat' (first | exact trivial | refine And.intro ?_ ?_ | rfl | (simp (disch := omega) only [go_sem, if_yes, if_no, ↓reduceIte, Nat.reduceAdd, Nat.reduceMul, Nat.reduceEqDiff, Nat.reduceBEq, Nat.reduceLeDiff]; rfl) | (simp (disch := omega) only [go_sem, if_yes, if_no, ↓reduceIte, Nat.reduceAdd, Nat.reduceMul, Nat.reduceEqDiff, Nat.reduceBEq, Nat.reduceLeDiff]))) (by (try simp only [go_sem]); repeat' (first | exact trivial | refine And.intro ?_ ?_ | rfl | (simp (disch := omega) only [go_sem, if_yes, if_no, ↓reduceIte, Nat.reduceAdd, Nat.reduceMul, Nat.reduceEqDiff, Nat.reduceBEq, Nat.reduceLeDiff]; rfl) | (simp (disch := omega) only [go_sem, if_yes, if_no, ↓reduceIte, Nat.reduceAdd, Nat.reduceMul, Nat.reduceEqDiff, Nat.reduceBEq, Nat.reduceLeDiff]))) (hold_id gx) ?_
  intro i c i1 hc
  simp only [go_sem] at hc
  simp only [go_sem]
  by_cases hi : i < A.length
  · obtain ⟨k1, k2, k3⟩ := trKs hf (by omega) (hE.tr i hi)
    have eU : cnt (upB f A) (i + 1) = if 0 ≤ frT f (tk A i).1 ∧ 0 ≤ reT f (tk A i).1 then cnt (upB f A) i + 1 else cnt (upB f A) i := by
      show (if upB f A i then _ else _) = _
      simp only [upB, decide_eq_true_eq]
    have hcb := cnt_bd (upB f A) i
    repeat' (first
        | refine st_seq_reg rfl (by first | (simp only [go_sem, List.length_map, trow_getD]; rfl) | rfl) (by first | (simp only [go_sem, List.length_map, trow_getD]; rfl) | rfl) ?_
        | refine st_reg rfl (by first | (simp only [go_sem, List.length_map, trow_getD]; rfl) | rfl) (by first | (simp only [go_sem, List.length_map, trow_getD]; rfl) | rfl) ?_
        | refine st_seq_draw rfl (by first | (simp only [go_sem, List.length_map, trow_getD]; rfl) | rfl) (by first | (simp only [go_sem, List.length_map, trow_getD]; rfl) | rfl) ?_
        | refine st_draw rfl (by first | (simp only [go_sem, List.length_map, trow_getD]; rfl) | rfl) (by first | (simp only [go_sem, List.length_map, trow_getD]; rfl) | rfl) ?_
        | refine st_op ?_
        | refine st_det rfl (by simp (disch := omega) only [go_sem, wr_i64, if_yes, if_no, ↓reduceIte, Nat.reduceAdd, Nat.reduceMul, Nat.reduceEqDiff, Nat.reduceBEq, Nat.reduceLeDiff, List.length_map, trow_getD]; rfl) ?_
        | refine st_dop rfl ?_
        | refine st_loc rfl (by simp (disch := omega) only [go_sem, wr_i64, if_yes, if_no, ↓reduceIte, Nat.reduceAdd, Nat.reduceMul, Nat.reduceEqDiff, Nat.reduceBEq, Nat.reduceLeDiff, List.length_map, trow_getD]; rfl) ?_
        | refine st_heap rfl (by simp (disch := omega) only [go_sem, wr_i64, if_yes, if_no, ↓reduceIte, Nat.reduceAdd, Nat.reduceMul, Nat.reduceEqDiff, Nat.reduceBEq, Nat.reduceLeDiff, List.length_map, trow_getD]; rfl) ?_
        | refine st_store (by simp (disch := omega) only [go_sem, wr_i64, if_yes, if_no, ↓reduceIte, Nat.reduceAdd, Nat.reduceMul, Nat.reduceEqDiff, Nat.reduceBEq, Nat.reduceLeDiff, List.length_map, trow_getD]; rfl) ?_
        | refine st_append (by simp (disch := omega) only [go_sem, wr_i64, if_yes, if_no, ↓reduceIte, Nat.reduceAdd, Nat.reduceMul, Nat.reduceEqDiff, Nat.reduceBEq, Nat.reduceLeDiff, List.length_map, trow_getD]; rfl) ?_
        | (refine st_pureE (by first | (simp (disch := omega) only [go_sem, List.length_map, trow_getD]; rfl) | rfl) rfl (c54t f (tk A i).1 (tk A i).2 hfo k1 k2) (by first | (simp only [go_sem, List.length_map, trow_getD]; rfl) | rfl) (by intro n; simp (disch := omega) only [go_sem]; rfl) ?_; intro n hn)
        | (refine st_pureE (by first | (simp (disch := omega) only [go_sem, List.length_map, trow_getD]; rfl) | rfl) rfl (c55t f (tk A i).1 (tk A i).2 hfo k1) (by first | (simp only [go_sem, List.length_map, trow_getD]; rfl) | rfl) (by intro n; simp (disch := omega) only [go_sem]; rfl) ?_; intro n hn)
        | (refine st_pureE (by first | (simp (disch := omega) only [go_sem, List.length_map, trow_getD]; rfl) | rfl) rfl (c56t f (tk A i).1 (tk A i).2 k3) (by first | (simp only [go_sem, List.length_map, trow_getD]; rfl) | rfl) (by intro n; simp (disch := omega) only [go_sem]; rfl) ?_; intro n hn)
        | (refine st_pureE (by first | (simp (disch := omega) only [go_sem, List.length_map, trow_getD]; rfl) | rfl) rfl (c61 _ _ _ _) (by first | (simp only [go_sem, List.length_map, trow_getD]; rfl) | rfl) (by intro n; simp (disch := omega) only [go_sem]; rfl) ?_; intro n hn)
        | refine st_gT rfl rfl rfl ?_
        | refine st_gF rfl rfl rfl ?_
        | refine st_dgT rfl rfl rfl rfl ?_
        | refine st_dgF rfl rfl rfl ?_
        | (refine st_gS rfl rfl ?_ ?_ <;> intro hg <;> (try simp only [decide_eq_true_eq, decide_eq_false_iff_not, Bool.not_eq_true', Bool.not_eq_false'] at hg))
        | (refine st_dgS rfl rfl ?_ ?_ <;> intro hg <;> (try simp only [decide_eq_true_eq, decide_eq_false_iff_not, Bool.not_eq_true', Bool.not_eq_false'] at hg))
        | refine st_condT rfl ?_
        | refine st_condF rfl ?_
        | (refine st_condS rfl ?_ ?_ <;> intro hg <;> (try simp only [decide_eq_true_eq, decide_eq_false_iff_not, Bool.not_eq_true', Bool.not_eq_false'] at hg))
        | refine st_nil ?_
        | refine st_dnil ?_
        | refine st_tN ?_
        | refine st_seq ?_
        | refine st_block ?_
        | refine st_skip ?_
        | refine st_exit ?_
        | refine st_ret ?_
        | refine st_tE ?_
        | refine st_tR ?_
        | refine st_bN ?_
        | refine st_bR ?_
        | refine st_bH ?_
        | refine st_bM rfl ?_)
    all_goals try (exfalso; omega)
    all_goals
      have e12 := eU
      first
        | rw [if_pos (by omega)] at e12
        | rw [if_neg (by omega)] at e12
      refine st_loopH (α := Nat) tab mixed [] [] (by repeat (first | exact trivial | refine ⟨rfl, ?_⟩)) [4, 8, 9, 10, 11] [_, _, _, _, _] (by repeat (first | exact trivial | refine ⟨rfl, ?_⟩)) (fun k => [(17, .int .i64 (k : Nat))]) [(4, _), (5, _), (6, _), (7, _), (8, _), (9, _), (10, _), (11, _), (12, _), (13, _), (14, _)] (fun _ => []) [_, _, _, _, _] (fun k => H1.put gb (some ⟨1, (gcl f A r i k).map iv⟩)) (fun k => k ≤ r.length) (fun k => r.length - k) (by decide) 0 (Nat.zero_le _) (by (try simp only [go_sem]); repeat' (first | exact trivial | refine And.intro ?_ ?_ | rfl | (simp (disch := omega) only [go_sem, if_yes, if_no, ↓reduceIte, Nat.reduceAdd, Nat.reduceMul, Nat.reduceEqDiff, Nat.reduceBEq, Nat.reduceLeDiff]; rfl) | (simp (disch := omega) only [go_sem, if_yes, if_no, ↓reduceIte, Nat.reduceAdd, Nat.reduceMul, Nat.reduceEqDiff, Nat.reduceBEq, Nat.reduceLeDiff]))) (by (try simp only [go_sem]); repeat' (first | exact trivial | refine And.intro ?_ ?_ | rfl | (simp (disch := omega) only [go_sem, if_yes, if_no, ↓reduceIte, Nat.reduceAdd, Nat.reduceMul, Nat.reduceEqDiff, Nat.reduceBEq, Nat.reduceLeDiff]; rfl) | (simp (disch := omega) only [go_sem, if_yes, if_no, ↓reduceIte, Nat.reduceAdd, Nat.reduceMul, Nat.reduceEqDiff, Nat.reduceBEq, Nat.reduceLeDiff]))) (⟨fun _ _ e => e, fun _ _ e => e, by simp only [go_sem]; omega⟩) ?_
      intro k c3 j1 hc3
      simp only [go_sem] at hc3
      simp only [go_sem]
      by_cases hk : k < r.length
      · have gg : ((gcl f A r i k).map iv).getD k [] = [.int .i64 (cnt (goB f A (hu r k)) i)] := by rw [gcl_get hk, if_neg (Nat.lt_irrefl _)]
        have hkb := cnt_bd (goB f A (hu r k)) i
        repeat' (first
            | refine st_seq_reg rfl (by first | (simp only [go_sem, List.length_map, gcl_len, trow_getD, Nat.zero_add, gg]; rfl) | rfl) (by first | (simp only [go_sem, List.length_map, gcl_len, trow_getD, Nat.zero_add, gg]; rfl) | rfl) ?_
            | refine st_reg rfl (by first | (simp only [go_sem, List.length_map, gcl_len, trow_getD, Nat.zero_add, gg]; rfl) | rfl) (by first | (simp only [go_sem, List.length_map, gcl_len, trow_getD, Nat.zero_add, gg]; rfl) | rfl) ?_
            | refine st_seq_draw rfl (by first | (simp only [go_sem, List.length_map, gcl_len, trow_getD, Nat.zero_add, gg]; rfl) | rfl) (by first | (simp only [go_sem, List.length_map, gcl_len, trow_getD, Nat.zero_add, gg]; rfl) | rfl) ?_
            | refine st_draw rfl (by first | (simp only [go_sem, List.length_map, gcl_len, trow_getD, Nat.zero_add, gg]; rfl) | rfl) (by first | (simp only [go_sem, List.length_map, gcl_len, trow_getD, Nat.zero_add, gg]; rfl) | rfl) ?_
            | refine st_op ?_
            | refine st_det rfl (by simp (disch := omega) only [go_sem, wr_i64, if_yes, if_no, ↓reduceIte, Nat.reduceAdd, Nat.reduceMul, Nat.reduceEqDiff, Nat.reduceBEq, Nat.reduceLeDiff, List.length_map, gcl_len, trow_getD, Nat.zero_add, gg]; rfl) ?_
            | refine st_dop rfl ?_
            | refine st_loc rfl (by simp (disch := omega) only [go_sem, wr_i64, if_yes, if_no, ↓reduceIte, Nat.reduceAdd, Nat.reduceMul, Nat.reduceEqDiff, Nat.reduceBEq, Nat.reduceLeDiff, List.length_map, gcl_len, trow_getD, Nat.zero_add, gg]; rfl) ?_
            | refine st_heap rfl (by simp (disch := omega) only [go_sem, wr_i64, if_yes, if_no, ↓reduceIte, Nat.reduceAdd, Nat.reduceMul, Nat.reduceEqDiff, Nat.reduceBEq, Nat.reduceLeDiff, List.length_map, gcl_len, trow_getD, Nat.zero_add, gg]; rfl) ?_
            | refine st_store (by simp (disch := omega) only [go_sem, wr_i64, if_yes, if_no, ↓reduceIte, Nat.reduceAdd, Nat.reduceMul, Nat.reduceEqDiff, Nat.reduceBEq, Nat.reduceLeDiff, List.length_map, gcl_len, trow_getD, Nat.zero_add, gg]; rfl) ?_
            | refine st_append (by simp (disch := omega) only [go_sem, wr_i64, if_yes, if_no, ↓reduceIte, Nat.reduceAdd, Nat.reduceMul, Nat.reduceEqDiff, Nat.reduceBEq, Nat.reduceLeDiff, List.length_map, gcl_len, trow_getD, Nat.zero_add, gg]; rfl) ?_
            | (refine st_pureE (by first | (simp (disch := omega) only [go_sem, List.length_map, gcl_len, trow_getD, Nat.zero_add, gg]; rfl) | rfl) rfl (c58 f (hu r k) (tk A i).1 (tk A i).2 hfo k1 k2 k3 (hok _ (hu_mem hk))) (by first | (simp only [go_sem, List.length_map, gcl_len, trow_getD, Nat.zero_add, gg]; rfl) | rfl) (by intro n; simp (disch := omega) only [go_sem]; rfl) ?_; intro n hn)
            | refine st_gT rfl rfl rfl ?_
            | refine st_gF rfl rfl rfl ?_
            | refine st_dgT rfl rfl rfl rfl ?_
            | refine st_dgF rfl rfl rfl ?_
            | (refine st_gS rfl rfl ?_ ?_ <;> intro hg <;> (try simp only [decide_eq_true_eq, decide_eq_false_iff_not, Bool.not_eq_true', Bool.not_eq_false'] at hg))
            | (refine st_dgS rfl rfl ?_ ?_ <;> intro hg <;> (try simp only [decide_eq_true_eq, decide_eq_false_iff_not, Bool.not_eq_true', Bool.not_eq_false'] at hg))
            | refine st_condT rfl ?_
            | refine st_condF rfl ?_
            | (refine st_condS rfl ?_ ?_ <;> intro hg <;> (try simp only [decide_eq_true_eq, decide_eq_false_iff_not, Bool.not_eq_true', Bool.not_eq_false'] at hg))
            | refine st_nil ?_
            | refine st_dnil ?_
            | refine st_tN ?_
            | refine st_seq ?_
            | refine st_block ?_
            | refine st_skip ?_
            | refine st_exit ?_
            | refine st_ret ?_
            | refine st_tE ?_
            | refine st_tR ?_
            | refine st_bN ?_
            | refine st_bR ?_
            | refine st_bH ?_
            | refine st_bM rfl ?_)
        all_goals try (exfalso; omega)
        · refine ⟨k + 1, by show k + 1 ≤ r.length; omega, by show r.length - (k + 1) < r.length - k; omega, (by repeat' (first | exact trivial | refine And.intro ?_ ?_ | rfl | (simp (disch := omega) only [go_sem, if_yes, if_no, ↓reduceIte, Nat.reduceAdd, Nat.reduceMul, Nat.reduceEqDiff, Nat.reduceBEq, Nat.reduceLeDiff]; rfl) | (simp (disch := omega) only [go_sem, if_yes, if_no, ↓reduceIte, Nat.reduceAdd, Nat.reduceMul, Nat.reduceEqDiff, Nat.reduceBEq, Nat.reduceLeDiff]))), (by repeat' (first | exact trivial | refine And.intro ?_ ?_ | rfl | (simp (disch := omega) only [go_sem, if_yes, if_no, ↓reduceIte, Nat.reduceAdd, Nat.reduceMul, Nat.reduceEqDiff, Nat.reduceBEq, Nat.reduceLeDiff]; rfl) | (simp (disch := omega) only [go_sem, if_yes, if_no, ↓reduceIte, Nat.reduceAdd, Nat.reduceMul, Nat.reduceEqDiff, Nat.reduceBEq, Nat.reduceLeDiff]))), rfl, by rw [← gcl_set hk (decide_eq_true hg)]; exact ⟨fun _ _ e => e, fun _ _ e => e, by simp only [go_sem]; omega⟩⟩
        · refine ⟨k + 1, by show k + 1 ≤ r.length; omega, by show r.length - (k + 1) < r.length - k; omega, (by repeat' (first | exact trivial | refine And.intro ?_ ?_ | rfl | (simp (disch := omega) only [go_sem, if_yes, if_no, ↓reduceIte, Nat.reduceAdd, Nat.reduceMul, Nat.reduceEqDiff, Nat.reduceBEq, Nat.reduceLeDiff]; rfl) | (simp (disch := omega) only [go_sem, if_yes, if_no, ↓reduceIte, Nat.reduceAdd, Nat.reduceMul, Nat.reduceEqDiff, Nat.reduceBEq, Nat.reduceLeDiff]))), (by repeat' (first | exact trivial | refine And.intro ?_ ?_ | rfl | (simp (disch := omega) only [go_sem, if_yes, if_no, ↓reduceIte, Nat.reduceAdd, Nat.reduceMul, Nat.reduceEqDiff, Nat.reduceBEq, Nat.reduceLeDiff]; rfl) | (simp (disch := omega) only [go_sem, if_yes, if_no, ↓reduceIte, Nat.reduceAdd, Nat.reduceMul, Nat.reduceEqDiff, Nat.reduceBEq, Nat.reduceLeDiff]))), rfl, by rw [← gcl_skip hk (decide_eq_false hg)]; exact ⟨fun _ _ e => e, fun _ _ e => e, by simp only [go_sem]; omega⟩⟩
      · have hk' : k = r.length := by omega
        subst hk'
        repeat' (first
            | refine st_seq_reg rfl (by first | (simp only [go_sem, List.length_map]; rfl) | rfl) (by first | (simp only [go_sem, List.length_map]; rfl) | rfl) ?_
            | refine st_reg rfl (by first | (simp only [go_sem, List.length_map]; rfl) | rfl) (by first | (simp only [go_sem, List.length_map]; rfl) | rfl) ?_
            | refine st_seq_draw rfl (by first | (simp only [go_sem, List.length_map]; rfl) | rfl) (by first | (simp only [go_sem, List.length_map]; rfl) | rfl) ?_
            | refine st_draw rfl (by first | (simp only [go_sem, List.length_map]; rfl) | rfl) (by first | (simp only [go_sem, List.length_map]; rfl) | rfl) ?_
            | refine st_op ?_
            | refine st_det rfl (by simp (disch := omega) only [go_sem, wr_i64, if_yes, if_no, ↓reduceIte, Nat.reduceAdd, Nat.reduceMul, Nat.reduceEqDiff, Nat.reduceBEq, Nat.reduceLeDiff, List.length_map]; rfl) ?_
            | refine st_dop rfl ?_
            | refine st_loc rfl (by simp (disch := omega) only [go_sem, wr_i64, if_yes, if_no, ↓reduceIte, Nat.reduceAdd, Nat.reduceMul, Nat.reduceEqDiff, Nat.reduceBEq, Nat.reduceLeDiff, List.length_map]; rfl) ?_
            | refine st_heap rfl (by simp (disch := omega) only [go_sem, wr_i64, if_yes, if_no, ↓reduceIte, Nat.reduceAdd, Nat.reduceMul, Nat.reduceEqDiff, Nat.reduceBEq, Nat.reduceLeDiff, List.length_map]; rfl) ?_
            | refine st_store (by simp (disch := omega) only [go_sem, wr_i64, if_yes, if_no, ↓reduceIte, Nat.reduceAdd, Nat.reduceMul, Nat.reduceEqDiff, Nat.reduceBEq, Nat.reduceLeDiff, List.length_map]; rfl) ?_
            | refine st_append (by simp (disch := omega) only [go_sem, wr_i64, if_yes, if_no, ↓reduceIte, Nat.reduceAdd, Nat.reduceMul, Nat.reduceEqDiff, Nat.reduceBEq, Nat.reduceLeDiff, List.length_map]; rfl) ?_
            | refine st_gT rfl rfl rfl ?_
            | refine st_gF rfl rfl rfl ?_
            | refine st_dgT rfl rfl rfl rfl ?_
            | refine st_dgF rfl rfl rfl ?_
            | (refine st_gS rfl rfl ?_ ?_ <;> intro hg <;> (try simp only [decide_eq_true_eq, decide_eq_false_iff_not, Bool.not_eq_true', Bool.not_eq_false'] at hg))
            | (refine st_dgS rfl rfl ?_ ?_ <;> intro hg <;> (try simp only [decide_eq_true_eq, decide_eq_false_iff_not, Bool.not_eq_true', Bool.not_eq_false'] at hg))
            | refine st_condT rfl ?_
            | refine st_condF rfl ?_
            | (refine st_condS rfl ?_ ?_ <;> intro hg <;> (try simp only [decide_eq_true_eq, decide_eq_false_iff_not, Bool.not_eq_true', Bool.not_eq_false'] at hg))
            | refine st_nil ?_
            | refine st_dnil ?_
            | refine st_tN ?_
            | refine st_seq ?_
            | refine st_block ?_
            | refine st_skip ?_
            | refine st_exit ?_
            | refine st_ret ?_
            | refine st_tE ?_
            | refine st_tR ?_
            | refine st_bN ?_
            | refine st_bR ?_
            | refine st_bH ?_
            | refine st_bM rfl ?_)
        all_goals try (exfalso; omega)
        refine ⟨i + 1, by show i + 1 ≤ A.length; omega, by show A.length - (i + 1) < A.length - i; omega, (by (try (try simp only [go_sem, e12, spn_s1, spn_s2, decide_eq_true_eq, pos_cast])); repeat' (first | exact trivial | refine And.intro ?_ ?_ | rfl | (simp (disch := omega) only [go_sem, if_yes, if_no, ↓reduceIte, Nat.reduceAdd, Nat.reduceMul, Nat.reduceEqDiff, Nat.reduceBEq, Nat.reduceLeDiff]; rfl) | (simp (disch := omega) only [go_sem, if_yes, if_no, ↓reduceIte, Nat.reduceAdd, Nat.reduceMul, Nat.reduceEqDiff, Nat.reduceBEq, Nat.reduceLeDiff]))), (by (try (try simp only [go_sem, e12, spn_s1, spn_s2, decide_eq_true_eq, pos_cast])); repeat' (first | exact trivial | refine And.intro ?_ ?_ | rfl | (simp (disch := omega) only [go_sem, if_yes, if_no, ↓reduceIte, Nat.reduceAdd, Nat.reduceMul, Nat.reduceEqDiff, Nat.reduceBEq, Nat.reduceLeDiff]; rfl) | (simp (disch := omega) only [go_sem, if_yes, if_no, ↓reduceIte, Nat.reduceAdd, Nat.reduceMul, Nat.reduceEqDiff, Nat.reduceBEq, Nat.reduceLeDiff]))), rfl, by rw [← gcl_end]; exact ⟨fun _ _ e => e, fun _ _ e => e, by simp only [go_sem]; omega⟩⟩
  · have hi' : i = A.length := by omega
    subst hi'
    simp only [hE.tot, hE.fr, hE.re, hE.ta]
    have pl : (pVs f 0 0 r).length = r.length := by simp [pVs]
    have kk := chkGood hf (by omega)
    have w2 := w_all (p := 0) (m := 0) hfo (by omega) (by omega) (front_bd hfo)
    have w3 := w_all (p := 0) (m := 0) hfo (by omega) (by omega) (rear_bd hfo)
    repeat' (first
        | refine st_seq_reg rfl (by first | (simp only [go_sem, List.length_map, hE.up, pl]; rfl) | rfl) (by first | (simp only [go_sem, List.length_map, hE.up, pl]; rfl) | rfl) ?_
        | refine st_reg rfl (by first | (simp only [go_sem, List.length_map, hE.up, pl]; rfl) | rfl) (by first | (simp only [go_sem, List.length_map, hE.up, pl]; rfl) | rfl) ?_
        | refine st_seq_draw rfl (by first | (simp only [go_sem, List.length_map, hE.up, pl]; rfl) | rfl) (by first | (simp only [go_sem, List.length_map, hE.up, pl]; rfl) | rfl) ?_
        | refine st_draw rfl (by first | (simp only [go_sem, List.length_map, hE.up, pl]; rfl) | rfl) (by first | (simp only [go_sem, List.length_map, hE.up, pl]; rfl) | rfl) ?_
        | refine st_op ?_
        | refine st_det rfl (by simp (disch := omega) only [go_sem, wr_i64, if_yes, if_no, ↓reduceIte, Nat.reduceAdd, Nat.reduceMul, Nat.reduceEqDiff, Nat.reduceBEq, Nat.reduceLeDiff, List.length_map, hE.up, pl]; rfl) ?_
        | refine st_dop rfl ?_
        | refine st_loc rfl (by simp (disch := omega) only [go_sem, wr_i64, if_yes, if_no, ↓reduceIte, Nat.reduceAdd, Nat.reduceMul, Nat.reduceEqDiff, Nat.reduceBEq, Nat.reduceLeDiff, List.length_map, hE.up, pl]; rfl) ?_
        | refine st_heap rfl (by simp (disch := omega) only [go_sem, wr_i64, if_yes, if_no, ↓reduceIte, Nat.reduceAdd, Nat.reduceMul, Nat.reduceEqDiff, Nat.reduceBEq, Nat.reduceLeDiff, List.length_map, hE.up, pl]; rfl) ?_
        | refine st_store (by simp (disch := omega) only [go_sem, wr_i64, if_yes, if_no, ↓reduceIte, Nat.reduceAdd, Nat.reduceMul, Nat.reduceEqDiff, Nat.reduceBEq, Nat.reduceLeDiff, List.length_map, hE.up, pl]; rfl) ?_
        | refine st_append (by simp (disch := omega) only [go_sem, wr_i64, if_yes, if_no, ↓reduceIte, Nat.reduceAdd, Nat.reduceMul, Nat.reduceEqDiff, Nat.reduceBEq, Nat.reduceLeDiff, List.length_map, hE.up, pl]; rfl) ?_
        | (refine st_pureE (by first | (simp (disch := omega) only [go_sem, List.length_map, hE.up, pl]; rfl) | rfl) rfl (c37 f kk) (by first | (simp only [go_sem, List.length_map, hE.up, pl]; rfl) | rfl) (by intro n; simp (disch := omega) only [go_sem]; rfl) ?_; intro n hn)
        | (refine st_pureE (by first | (simp (disch := omega) only [go_sem, List.length_map, hE.up, pl]; rfl) | rfl) rfl (c38g f kk) (by first | (simp only [go_sem, List.length_map, hE.up, pl]; rfl) | rfl) (by intro n; simp (disch := omega) only [go_sem]; rfl) ?_; intro n hn)
        | (refine st_pureE (by first | (simp (disch := omega) only [go_sem, List.length_map, hE.up, pl]; rfl) | rfl) rfl (c43 f kk) (by first | (simp only [go_sem, List.length_map, hE.up, pl]; rfl) | rfl) (by intro n; simp (disch := omega) only [go_sem]; rfl) ?_; intro n hn)
        | (refine st_pureE (by first | (simp (disch := omega) only [go_sem, List.length_map, hE.up, pl]; rfl) | rfl) rfl (c39 f kk) (by first | (simp only [go_sem, List.length_map, hE.up, pl]; rfl) | rfl) (by intro n; simp (disch := omega) only [go_sem]; rfl) ?_; intro n hn)
        | (refine st_pureE (by first | (simp (disch := omega) only [go_sem, List.length_map, hE.up, pl]; rfl) | rfl) rfl (c19g f 3 r hf (by omega) hrl' hr) (by first | (simp only [go_sem, List.length_map, hE.up, pl]; rfl) | rfl) (by intro n; simp (disch := omega) only [go_sem]; rfl) ?_; intro n hn)
        | (refine st_pureE (by first | (simp (disch := omega) only [go_sem, List.length_map, hE.up, pl]; rfl) | rfl) rfl (c62 _ _) (by first | (simp only [go_sem, List.length_map, hE.up, pl]; rfl) | rfl) (by intro n; simp (disch := omega) only [go_sem]; rfl) ?_; intro n hn)
        | refine st_gT rfl rfl rfl ?_
        | refine st_gF rfl rfl rfl ?_
        | refine st_dgT rfl rfl rfl rfl ?_
        | refine st_dgF rfl rfl rfl ?_
        | (refine st_gS rfl rfl ?_ ?_ <;> intro hg <;> (try simp only [decide_eq_true_eq, decide_eq_false_iff_not, Bool.not_eq_true', Bool.not_eq_false'] at hg))
        | (refine st_dgS rfl rfl ?_ ?_ <;> intro hg <;> (try simp only [decide_eq_true_eq, decide_eq_false_iff_not, Bool.not_eq_true', Bool.not_eq_false'] at hg))
        | refine st_condT rfl ?_
        | refine st_condF rfl ?_
        | (refine st_condS rfl ?_ ?_ <;> intro hg <;> (try simp only [decide_eq_true_eq, decide_eq_false_iff_not, Bool.not_eq_true', Bool.not_eq_false'] at hg))
        | refine st_nil ?_
        | refine st_dnil ?_
        | refine st_tN ?_
        | refine st_seq ?_
        | refine st_block ?_
        | refine st_skip ?_
        | refine st_exit ?_
        | refine st_ret ?_
        | refine st_tE ?_
        | refine st_tR ?_
        | refine st_bN ?_
        | refine st_bR ?_
        | refine st_bH ?_
        | refine st_bM rfl ?_)
    all_goals try (exfalso; omega)
    refine st_loopC (α := Nat) tab mixed [] [] (by repeat (first | exact trivial | refine ⟨rfl, ?_⟩)) [9, 10, 20, 21] [_, _, _, _] (by repeat (first | exact trivial | refine ⟨rfl, ?_⟩)) (fun j => [(29, .int .i64 (j : Nat))]) [(4, _), (5, _), (6, _), (7, _), (9, _), (10, _), (13, _), (20, _), (21, _), (27, _)] (fun _ => []) [_, _, _, _] (fun j => j ≤ r.length) (fun j => r.length - j) (by decide) 0 (Nat.zero_le _) (by (try simp only [go_sem]); repeat' (first | exact trivial | refine And.intro ?_ ?_ | rfl | (simp (disch := omega) only [go_sem, if_yes, if_no, ↓reduceIte, Nat.reduceAdd, Nat.reduceMul, Nat.reduceEqDiff, Nat.reduceBEq, Nat.reduceLeDiff]; rfl) | (simp (disch := omega) only [go_sem, if_yes, if_no, ↓reduceIte, Nat.reduceAdd, Nat.reduceMul, Nat.reduceEqDiff, Nat.reduceBEq, Nat.reduceLeDiff]))) (by (try simp only [go_sem]); repeat' (first | exact trivial | refine And.intro ?_ ?_ | rfl | (simp (disch := omega) only [go_sem, if_yes, if_no, ↓reduceIte, Nat.reduceAdd, Nat.reduceMul, Nat.reduceEqDiff, Nat.reduceBEq, Nat.reduceLeDiff]; rfl) | (simp (disch := omega) only [go_sem, if_yes, if_no, ↓reduceIte, Nat.reduceAdd, Nat.reduceMul, Nat.reduceEqDiff, Nat.reduceBEq, Nat.reduceLeDiff]))) (by first | (simp only [go_sem]; rfl) | rfl) (by intro n; simp only [go_sem]; rfl) ?_
    intro j c2 j1 hc2
    simp only [go_sem]
    by_cases hj : j < r.length
    · have gg : ((gcl f A r A.length 0).map iv).getD j [] = [.int .i64 (cnt (goB f A (hu r j)) A.length)] := by rw [gcl_get hj, if_neg (Nat.not_lt_zero _)]
      have eg := hE.go (hu r j)
      repeat' (first
          | refine st_seq_reg rfl (by first | (simp only [go_sem, List.length_map, pl, pvs_getD, gg, eg, gcl_len, Nat.zero_add]; rfl) | rfl) (by first | (simp only [go_sem, List.length_map, pl, pvs_getD, gg, eg, gcl_len, Nat.zero_add]; rfl) | rfl) ?_
          | refine st_reg rfl (by first | (simp only [go_sem, List.length_map, pl, pvs_getD, gg, eg, gcl_len, Nat.zero_add]; rfl) | rfl) (by first | (simp only [go_sem, List.length_map, pl, pvs_getD, gg, eg, gcl_len, Nat.zero_add]; rfl) | rfl) ?_
          | refine st_seq_draw rfl (by first | (simp only [go_sem, List.length_map, pl, pvs_getD, gg, eg, gcl_len, Nat.zero_add]; rfl) | rfl) (by first | (simp only [go_sem, List.length_map, pl, pvs_getD, gg, eg, gcl_len, Nat.zero_add]; rfl) | rfl) ?_
          | refine st_draw rfl (by first | (simp only [go_sem, List.length_map, pl, pvs_getD, gg, eg, gcl_len, Nat.zero_add]; rfl) | rfl) (by first | (simp only [go_sem, List.length_map, pl, pvs_getD, gg, eg, gcl_len, Nat.zero_add]; rfl) | rfl) ?_
          | refine st_op ?_
          | refine st_det rfl (by simp (disch := omega) only [go_sem, wr_i64, if_yes, if_no, ↓reduceIte, Nat.reduceAdd, Nat.reduceMul, Nat.reduceEqDiff, Nat.reduceBEq, Nat.reduceLeDiff, List.length_map, pl, pvs_getD, gg, eg, gcl_len, Nat.zero_add]; rfl) ?_
          | refine st_dop rfl ?_
          | refine st_loc rfl (by simp (disch := omega) only [go_sem, wr_i64, if_yes, if_no, ↓reduceIte, Nat.reduceAdd, Nat.reduceMul, Nat.reduceEqDiff, Nat.reduceBEq, Nat.reduceLeDiff, List.length_map, pl, pvs_getD, gg, eg, gcl_len, Nat.zero_add]; rfl) ?_
          | refine st_heap rfl (by simp (disch := omega) only [go_sem, wr_i64, if_yes, if_no, ↓reduceIte, Nat.reduceAdd, Nat.reduceMul, Nat.reduceEqDiff, Nat.reduceBEq, Nat.reduceLeDiff, List.length_map, pl, pvs_getD, gg, eg, gcl_len, Nat.zero_add]; rfl) ?_
          | refine st_store (by simp (disch := omega) only [go_sem, wr_i64, if_yes, if_no, ↓reduceIte, Nat.reduceAdd, Nat.reduceMul, Nat.reduceEqDiff, Nat.reduceBEq, Nat.reduceLeDiff, List.length_map, pl, pvs_getD, gg, eg, gcl_len, Nat.zero_add]; rfl) ?_
          | refine st_append (by simp (disch := omega) only [go_sem, wr_i64, if_yes, if_no, ↓reduceIte, Nat.reduceAdd, Nat.reduceMul, Nat.reduceEqDiff, Nat.reduceBEq, Nat.reduceLeDiff, List.length_map, pl, pvs_getD, gg, eg, gcl_len, Nat.zero_add]; rfl) ?_
          | (refine st_pureE (by first | (simp (disch := omega) only [go_sem, List.length_map, pl, pvs_getD, gg, eg, gcl_len, Nat.zero_add]; rfl) | rfl) rfl (c62 _ _) (by first | (simp only [go_sem, List.length_map, pl, pvs_getD, gg, eg, gcl_len, Nat.zero_add]; rfl) | rfl) (by intro n; simp (disch := omega) only [go_sem]; rfl) ?_; intro n hn)
          | refine st_gT rfl rfl rfl ?_
          | refine st_gF rfl rfl rfl ?_
          | refine st_dgT rfl rfl rfl rfl ?_
          | refine st_dgF rfl rfl rfl ?_
          | (refine st_gS rfl rfl ?_ ?_ <;> intro hg <;> (try simp only [decide_eq_true_eq, decide_eq_false_iff_not, Bool.not_eq_true', Bool.not_eq_false'] at hg))
          | (refine st_dgS rfl rfl ?_ ?_ <;> intro hg <;> (try simp only [decide_eq_true_eq, decide_eq_false_iff_not, Bool.not_eq_true', Bool.not_eq_false'] at hg))
          | refine st_condT rfl ?_
          | refine st_condF rfl ?_
          | (refine st_condS rfl ?_ ?_ <;> intro hg <;> (try simp only [decide_eq_true_eq, decide_eq_false_iff_not, Bool.not_eq_true', Bool.not_eq_false'] at hg))
          | refine st_nil ?_
          | refine st_dnil ?_
          | refine st_tN ?_
          | refine st_seq ?_
          | refine st_block ?_
          | refine st_skip ?_
          | refine st_exit ?_
          | refine st_ret ?_
          | refine st_tE ?_
          | refine st_tR ?_
          | refine st_bN ?_
          | refine st_bR ?_
          | refine st_bH ?_
          | refine st_bM rfl ?_)
      all_goals try (exfalso; omega)
      refine ⟨j + 1, by show j + 1 ≤ r.length; omega, by show r.length - (j + 1) < r.length - j; omega, (by repeat' (first | exact trivial | refine And.intro ?_ ?_ | rfl | (simp (disch := omega) only [go_sem, if_yes, if_no, ↓reduceIte, Nat.reduceAdd, Nat.reduceMul, Nat.reduceEqDiff, Nat.reduceBEq, Nat.reduceLeDiff]; rfl) | (simp (disch := omega) only [go_sem, if_yes, if_no, ↓reduceIte, Nat.reduceAdd, Nat.reduceMul, Nat.reduceEqDiff, Nat.reduceBEq, Nat.reduceLeDiff]))), (by repeat' (first | exact trivial | refine And.intro ?_ ?_ | rfl | (simp (disch := omega) only [go_sem, if_yes, if_no, ↓reduceIte, Nat.reduceAdd, Nat.reduceMul, Nat.reduceEqDiff, Nat.reduceBEq, Nat.reduceLeDiff]; rfl) | (simp (disch := omega) only [go_sem, if_yes, if_no, ↓reduceIte, Nat.reduceAdd, Nat.reduceMul, Nat.reduceEqDiff, Nat.reduceBEq, Nat.reduceLeDiff]))), rfl, HOld.put _ _ _ (by omega)⟩
    · repeat' (first
          | refine st_seq_reg rfl (by first | (simp only [go_sem, List.length_map, pl]; rfl) | rfl) (by first | (simp only [go_sem, List.length_map, pl]; rfl) | rfl) ?_
          | refine st_reg rfl (by first | (simp only [go_sem, List.length_map, pl]; rfl) | rfl) (by first | (simp only [go_sem, List.length_map, pl]; rfl) | rfl) ?_
          | refine st_seq_draw rfl (by first | (simp only [go_sem, List.length_map, pl]; rfl) | rfl) (by first | (simp only [go_sem, List.length_map, pl]; rfl) | rfl) ?_
          | refine st_draw rfl (by first | (simp only [go_sem, List.length_map, pl]; rfl) | rfl) (by first | (simp only [go_sem, List.length_map, pl]; rfl) | rfl) ?_
          | refine st_op ?_
          | refine st_det rfl (by simp (disch := omega) only [go_sem, wr_i64, if_yes, if_no, ↓reduceIte, Nat.reduceAdd, Nat.reduceMul, Nat.reduceEqDiff, Nat.reduceBEq, Nat.reduceLeDiff, List.length_map, pl]; rfl) ?_
          | refine st_dop rfl ?_
          | refine st_loc rfl (by simp (disch := omega) only [go_sem, wr_i64, if_yes, if_no, ↓reduceIte, Nat.reduceAdd, Nat.reduceMul, Nat.reduceEqDiff, Nat.reduceBEq, Nat.reduceLeDiff, List.length_map, pl]; rfl) ?_
          | refine st_heap rfl (by simp (disch := omega) only [go_sem, wr_i64, if_yes, if_no, ↓reduceIte, Nat.reduceAdd, Nat.reduceMul, Nat.reduceEqDiff, Nat.reduceBEq, Nat.reduceLeDiff, List.length_map, pl]; rfl) ?_
          | refine st_store (by simp (disch := omega) only [go_sem, wr_i64, if_yes, if_no, ↓reduceIte, Nat.reduceAdd, Nat.reduceMul, Nat.reduceEqDiff, Nat.reduceBEq, Nat.reduceLeDiff, List.length_map, pl]; rfl) ?_
          | refine st_append (by simp (disch := omega) only [go_sem, wr_i64, if_yes, if_no, ↓reduceIte, Nat.reduceAdd, Nat.reduceMul, Nat.reduceEqDiff, Nat.reduceBEq, Nat.reduceLeDiff, List.length_map, pl]; rfl) ?_
          | (refine st_pureE (by first | (simp (disch := omega) only [go_sem, List.length_map, pl]; rfl) | rfl) rfl (c64d (wL (frontA f) f 0 0) (f.rear - f.front) (by omega) (by omega)) (by first | (simp only [go_sem, List.length_map, pl]; rfl) | rfl) (by intro n; simp (disch := omega) only [go_sem]; rfl) ?_; intro n hn)
          | (refine st_pureE (by first | (simp (disch := omega) only [go_sem, List.length_map, pl]; rfl) | rfl) rfl (c64d (wL (rearA f) f 0 0) (f.rear - f.front) (by omega) (by omega)) (by first | (simp only [go_sem, List.length_map, pl]; rfl) | rfl) (by intro n; simp (disch := omega) only [go_sem]; rfl) ?_; intro n hn)
          | (refine st_pureE (by first | (simp (disch := omega) only [go_sem, List.length_map, pl]; rfl) | rfl) rfl (c65d (wH (frontA f) f 0 0) (f.rear - f.front) (by omega) (by omega)) (by first | (simp only [go_sem, List.length_map, pl]; rfl) | rfl) (by intro n; simp (disch := omega) only [go_sem]; rfl) ?_; intro n hn)
          | (refine st_pureE (by first | (simp (disch := omega) only [go_sem, List.length_map, pl]; rfl) | rfl) rfl (c65d (wH (rearA f) f 0 0) (f.rear - f.front) (by omega) (by omega)) (by first | (simp only [go_sem, List.length_map, pl]; rfl) | rfl) (by intro n; simp (disch := omega) only [go_sem]; rfl) ?_; intro n hn)
          | (refine st_pureE (by first | (simp (disch := omega) only [go_sem, List.length_map, pl]; rfl) | rfl) rfl (c63 _ _) (by first | (simp only [go_sem, List.length_map, pl]; rfl) | rfl) (by intro n; simp (disch := omega) only [go_sem]; rfl) ?_; intro n hn)
          | (refine st_pureE (by first | (simp (disch := omega) only [go_sem, List.length_map, pl]; rfl) | rfl) rfl (c21) (by first | (simp only [go_sem, List.length_map, pl]; rfl) | rfl) (by intro n; simp (disch := omega) only [go_sem]; rfl) ?_; intro n hn)
          | refine st_gT rfl rfl rfl ?_
          | refine st_gF rfl rfl rfl ?_
          | refine st_dgT rfl rfl rfl rfl ?_
          | refine st_dgF rfl rfl rfl ?_
          | (refine st_gS rfl rfl ?_ ?_ <;> intro hg <;> (try simp only [decide_eq_true_eq, decide_eq_false_iff_not, Bool.not_eq_true', Bool.not_eq_false'] at hg))
          | (refine st_dgS rfl rfl ?_ ?_ <;> intro hg <;> (try simp only [decide_eq_true_eq, decide_eq_false_iff_not, Bool.not_eq_true', Bool.not_eq_false'] at hg))
          | refine st_condT rfl ?_
          | refine st_condF rfl ?_
          | (refine st_condS rfl ?_ ?_ <;> intro hg <;> (try simp only [decide_eq_true_eq, decide_eq_false_iff_not, Bool.not_eq_true', Bool.not_eq_false'] at hg))
          | refine st_nil ?_
          | refine st_dnil ?_
          | refine st_tN ?_
          | refine st_seq ?_
          | refine st_block ?_
          | refine st_skip ?_
          | refine st_exit ?_
          | refine st_ret ?_
          | refine st_tE ?_
          | refine st_tR ?_
          | refine st_bN ?_
          | refine st_bR ?_
          | refine st_bH ?_
          | refine st_bM rfl ?_)
      all_goals try (exfalso; omega)
      all_goals
        simp (disch := omega) only [AEnd, Try.results11, aresK, fin, go_sem, ↓reduceIte, Nat.reduceEqDiff, Nat.reduceAdd, Nat.reduceLeDiff, if_yes, if_no, implies_true, true_and, and_true, List.reverse_cons, List.reverse_nil]
end Go.Proofs.Ytkjpceapflhmnaa
