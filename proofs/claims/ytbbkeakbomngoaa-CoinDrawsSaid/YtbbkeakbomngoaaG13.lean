/- Contracts of functions that the claim reaches: what each call gives, told in our own logic. Conditions: those of each theorem. -/
import Derived.Test.YtbbkeakbomngoaaG11
import Derived.Test.YtbbkeakbomngoaaG12
set_option linter.all false
set_option linter.unusedSimpArgs false
set_option linter.unusedVariables false
namespace Go.Proofs.Ytbbkeakbomngoaa
open Go.Av
attribute [local irreducible] thenA blockA awp awpOps awpD awp1
set_option maxHeartbeats 8000000
set_option maxRecDepth 20000
/-- What the loop over holders keeps: two slices, nil or in blocks of their own, and the drum. -/
structure DwS where
  i : Int
  x : Int
  v : AV
  w : AV
  g : AH
structure DwI (b : Nat × Nat) (a : DwS) (l1 l2 : List Int) : Prop where
  i0 : 0 ≤ a.i
  len : l1.length = l2.length
  le : (l1.length : Int) + a.i ≤ 6
  u : isU64 a.x
  d : a.g.at_ b = dr a.x
  bc : b.1 < a.g.clk
  at_ : (l1 = [] ∧ l2 = [] ∧ a.v = .nils ∧ a.w = .nils) ∨ (∃ b1 b2 : Nat × Nat, a.v = .slc b1 1 0 l1.length ∧ a.w = .slc b2 1 0 l2.length ∧ a.g.at_ b1 = some ⟨1, l1.map iv⟩ ∧ a.g.at_ b2 = some ⟨1, l2.map iv⟩ ∧ b1 ≠ b2 ∧ b1 ≠ b ∧ b2 ≠ b ∧ b1.1 < a.g.clk ∧ b2.1 < a.g.clk)
theorem law4 (ts ss l : List Int) (hts : (ts.length : Int) ≤ 9223372036854775807) (hss : (ss.length : Int) ≤ 9223372036854775807) (hl : (l.length : Int) ≤ 9223372036854775807) (h : AH) :
    ACalls Try.prog 4 [.lst 1 (ts.map iv), .lst 1 (ss.map iv), .lst 1 (l.map iv)] h (fun v _ => v = .bool true) := by
  refine ACalls.of tab mixed Try.call4 Try.func4 rfl (fi := ⟨130, [], [45, 47, 52, 57, 61, 1000009], none, [(13, [0, 0, 3, 7, 15, 0, 0, 96, 224, 511, 1023, 2047], [(0, false), (1, false), (2, false), (3, true), (5, false), (6, false), (7, false), (8, true), (4, false), (9, false), (10, false), (11, false)]), (15, [0, 0, 3, 7, 0, 0, 48, 112, 255, 511, 1023, 1023, 1023, 2047, 12287, 32767], [(0, false), (1, false), (2, false), (3, true), (4, false), (5, false), (6, false), (7, true), (8, false), (9, false), (10, false), (11, false), (12, false), (13, false), (14, false), (15, false)])]⟩) rfl rfl (Nat.le_of_ble_eq_true rfl) (by decide) ?_
  unfold startA
  repeat' (first
      | refine st_seq_reg rfl (by first | (simp only [go_sem, List.length_map]; rfl) | rfl) (by first | (simp only [go_sem, List.length_map]; rfl) | rfl) ?_
      | refine st_reg rfl (by first | (simp only [go_sem, List.length_map]; rfl) | rfl) (by first | (simp only [go_sem, List.length_map]; rfl) | rfl) ?_
      | refine st_seq_draw rfl (by first | (simp only [go_sem, List.length_map]; rfl) | rfl) (by first | (simp only [go_sem, List.length_map]; rfl) | rfl) ?_
      | refine st_draw rfl (by first | (simp only [go_sem, List.length_map]; rfl) | rfl) (by first | (simp only [go_sem, List.length_map]; rfl) | rfl) ?_
      | refine st_op ?_
      | refine st_det rfl (by simp (disch := omega) only [go_sem, wr_i64, if_yes, if_no, ↓reduceIte, Nat.reduceAdd, Nat.reduceMul, Nat.reduceEqDiff, Nat.reduceBEq, Nat.reduceLeDiff, List.length_map]; rfl) ?_
      | refine st_dop rfl ?_
      | refine st_loc rfl (by simp (disch := omega) only [go_sem, wr_i64, if_yes, if_no, ↓reduceIte, Nat.reduceAdd, Nat.reduceMul, Nat.reduceEqDiff, Nat.reduceBEq, Nat.reduceLeDiff, List.length_map]; rfl) ?_
      | refine st_heap rfl (by simp (disch := omega) only [go_sem, wr_i64, if_yes, if_no, ↓reduceIte, Nat.reduceAdd, Nat.reduceMul, Nat.reduceEqDiff, Nat.reduceBEq, Nat.reduceLeDiff, List.length_map]; rfl) ?_
      | refine st_store (by simp (disch := omega) only [go_sem, wr_i64, if_yes, if_no, ↓reduceIte, Nat.reduceAdd, Nat.reduceMul, Nat.reduceEqDiff, Nat.reduceBEq, Nat.reduceLeDiff, List.length_map]; rfl) ?_
      | refine st_append (by simp (disch := omega) only [go_sem, wr_i64, if_yes, if_no, ↓reduceIte, Nat.reduceAdd, Nat.reduceMul, Nat.reduceEqDiff, Nat.reduceBEq, Nat.reduceLeDiff, List.length_map]; rfl) ?_
      | refine st_copy (by simp (disch := omega) only [go_sem, wr_i64, if_yes, if_no, ↓reduceIte, Nat.reduceAdd, Nat.reduceMul, Nat.reduceEqDiff, Nat.reduceBEq, Nat.reduceLeDiff, List.length_map]; rfl) ?_
      | (refine st_pureE (by first | (simp (disch := omega) only [go_sem, List.length_map]; rfl) | rfl) rfl (c15) (by first | (simp only [go_sem, List.length_map]; rfl) | rfl) (by intro n; simp (disch := omega) only [go_sem]; rfl) ?_; intro n hn)
      | (refine st_callf rfl rfl (c16 l hl _) ?_; rintro v h' ⟨b, x, n, rfl, hb1, hb2, hu0, rfl⟩)
      | (refine st_drum (by first | (simp (disch := omega) only [go_sem, List.length_map]; rfl) | rfl) rfl (c20' b 6 (by omega)) (by first | (simp (disch := omega) only [go_sem, List.length_map]; rfl) | rfl) (by assumption) (by first | (simp only [go_sem, List.length_map]; rfl) | rfl) (by intro x' n; simp (disch := omega) only [go_sem]; rfl) ?_; rintro v x' n hu' ⟨r, rfl, hr⟩ hn)
      | refine st_gT rfl rfl rfl ?_
      | refine st_gF rfl rfl rfl ?_
      | refine st_dgT rfl rfl rfl rfl ?_
      | refine st_dgF rfl rfl rfl ?_
      | (refine st_gS rfl rfl ?_ ?_ <;> intro hg <;> (try simp only [decide_eq_true_eq, decide_eq_false_iff_not, Bool.not_eq_true', Bool.not_eq_false'] at hg))
      | (refine st_dgS rfl rfl ?_ ?_ <;> intro hg <;> (try simp only [decide_eq_true_eq, decide_eq_false_iff_not, Bool.not_eq_true', Bool.not_eq_false'] at hg))
      | refine st_condT rfl ?_
      | refine st_condF rfl ?_
      | (refine st_condS rfl ?_ ?_ <;> intro hg <;> (try simp only [decide_eq_true_eq, decide_eq_false_iff_not, Bool.not_eq_true', Bool.not_eq_false'] at hg))
      | refine st_nil ?_
      | refine st_dnil ?_
      | refine st_tN ?_
      | refine st_seq ?_
      | refine st_block ?_
      | refine st_skip ?_
      | refine st_exit ?_
      | refine st_ret ?_
      | refine st_tE ?_
      | refine st_tR ?_
      | refine st_bN ?_
      | refine st_bR ?_
      | refine st_bH ?_
      | refine st_noN ?_
      | refine st_noR ?_
      | refine st_noE ?_
      | refine st_label ?_
      | refine st_scope tab mixed (by decide) ?_
      | refine st_bM rfl ?_)
  · simp (disch := omega) only [AEnd, Try.results4, aresK, fin, go_sem, ↓reduceIte, Nat.reduceEqDiff, Nat.reduceAdd, Nat.reduceLeDiff, if_yes, if_no, implies_true, true_and, and_true, List.reverse_cons, List.reverse_nil]
  · simp (disch := omega) only [AEnd, Try.results4, aresK, fin, go_sem, ↓reduceIte, Nat.reduceEqDiff, Nat.reduceAdd, Nat.reduceLeDiff, if_yes, if_no, implies_true, true_and, and_true, List.reverse_cons, List.reverse_nil]
  have hbh : h.clk ≤ b.1 := by have : h.clk + 1 + 1 + 1 ≤ b.1 := hb1; omega
  refine st_loopH (α := DwS) tab mixed [] [] (by repeat (first | exact trivial | refine ⟨rfl, ?_⟩)) [] [] (by repeat (first | exact trivial | refine ⟨rfl, ?_⟩)) (fun a => [(10, .int .i64 a.i), (8, a.v), (9, a.w)]) [(0, _), (1, _), (7, _)] (fun _ => []) [] (fun a => a.g) (fun a => ∃ l1 l2, DwI b a l1 l2) (fun a => a.i.toNat) (by decide) ⟨r, x', .nils, .nils, (h.tick n).put b (dr x')⟩ ⟨[], [], ⟨hr.1, rfl, by show (0 : Int) + r ≤ 6; omega, hu', by simp only [go_sem, ↓reduceIte], by show b.1 < n; omega, .inl ⟨rfl, rfl, rfl, rfl⟩⟩⟩ (by (try simp only [go_sem]); repeat' (first | exact trivial | refine And.intro ?_ ?_ | rfl | (simp (disch := omega) only [go_sem, if_yes, if_no, ↓reduceIte, Nat.reduceAdd, Nat.reduceMul, Nat.reduceEqDiff, Nat.reduceBEq, Nat.reduceLeDiff]; rfl) | (simp (disch := omega) only [go_sem, if_yes, if_no, ↓reduceIte, Nat.reduceAdd, Nat.reduceMul, Nat.reduceEqDiff, Nat.reduceBEq, Nat.reduceLeDiff]))) (by (try simp only [go_sem]); repeat' (first | exact trivial | refine And.intro ?_ ?_ | rfl | (simp (disch := omega) only [go_sem, if_yes, if_no, ↓reduceIte, Nat.reduceAdd, Nat.reduceMul, Nat.reduceEqDiff, Nat.reduceBEq, Nat.reduceLeDiff]; rfl) | (simp (disch := omega) only [go_sem, if_yes, if_no, ↓reduceIte, Nat.reduceAdd, Nat.reduceMul, Nat.reduceEqDiff, Nat.reduceBEq, Nat.reduceLeDiff]))) (HOld.refl _) ?_
  rintro ⟨i, x, v, w, g⟩ c ⟨l1, l2, hI⟩ hc
  obtain ⟨i0, len, le, hu0, hd, bc, hat⟩ := hI
  dsimp only at i0 len le hu0 hd bc hat hc
  by_cases hi : 0 < i
  case neg =>
    have hb12 : (v = .nils ∧ l1.map iv = []) ∨ ∃ b1, v = .slc b1 1 0 l1.length ∧ g.at_ b1 = some ⟨1, l1.map iv⟩ := by
      rcases hat with ⟨rfl, rfl, rfl, rfl⟩ | ⟨b1, b2, rfl, rfl, g1, g2, e1, e2, e3, e4, e5⟩
      · exact .inl ⟨rfl, rfl⟩
      · exact .inr ⟨b1, rfl, g1⟩
    have hb22 : (w = .nils ∧ l2.map iv = []) ∨ ∃ b2, w = .slc b2 1 0 l2.length ∧ g.at_ b2 = some ⟨1, l2.map iv⟩ ∧ ∀ m, v ≠ .slc b2 1 0 m := by
      rcases hat with ⟨rfl, rfl, rfl, rfl⟩ | ⟨b1, b2, rfl, rfl, g1, g2, e1, e2, e3, e4, e5⟩
      · exact .inl ⟨rfl, rfl⟩
      · exact .inr ⟨b2, rfl, g2, fun m e => by injection e with e'; exact e1 e'⟩
    have hl1 : l1.length < 1000 := by omega
    have hl2 : l2.length < 1000 := by omega
    clear hat
    simp only [go_sem]
    repeat' (first
        | refine st_seq_reg rfl (by first | (simp only [go_sem]; rfl) | rfl) (by first | (simp only [go_sem]; rfl) | rfl) ?_
        | refine st_reg rfl (by first | (simp only [go_sem]; rfl) | rfl) (by first | (simp only [go_sem]; rfl) | rfl) ?_
        | refine st_seq_draw rfl (by first | (simp only [go_sem]; rfl) | rfl) (by first | (simp only [go_sem]; rfl) | rfl) ?_
        | refine st_draw rfl (by first | (simp only [go_sem]; rfl) | rfl) (by first | (simp only [go_sem]; rfl) | rfl) ?_
        | refine st_op ?_
        | refine st_det rfl (by simp (disch := omega) only [go_sem, wr_i64, if_yes, if_no, ↓reduceIte, Nat.reduceAdd, Nat.reduceMul, Nat.reduceEqDiff, Nat.reduceBEq, Nat.reduceLeDiff]; rfl) ?_
        | refine st_dop rfl ?_
        | refine st_loc rfl (by simp (disch := omega) only [go_sem, wr_i64, if_yes, if_no, ↓reduceIte, Nat.reduceAdd, Nat.reduceMul, Nat.reduceEqDiff, Nat.reduceBEq, Nat.reduceLeDiff]; rfl) ?_
        | refine st_heap rfl (by simp (disch := omega) only [go_sem, wr_i64, if_yes, if_no, ↓reduceIte, Nat.reduceAdd, Nat.reduceMul, Nat.reduceEqDiff, Nat.reduceBEq, Nat.reduceLeDiff]; rfl) ?_
        | refine st_store (by simp (disch := omega) only [go_sem, wr_i64, if_yes, if_no, ↓reduceIte, Nat.reduceAdd, Nat.reduceMul, Nat.reduceEqDiff, Nat.reduceBEq, Nat.reduceLeDiff]; rfl) ?_
        | refine st_append (by simp (disch := omega) only [go_sem, wr_i64, if_yes, if_no, ↓reduceIte, Nat.reduceAdd, Nat.reduceMul, Nat.reduceEqDiff, Nat.reduceBEq, Nat.reduceLeDiff]; rfl) ?_
        | refine st_copy (by simp (disch := omega) only [go_sem, wr_i64, if_yes, if_no, ↓reduceIte, Nat.reduceAdd, Nat.reduceMul, Nat.reduceEqDiff, Nat.reduceBEq, Nat.reduceLeDiff]; rfl) ?_
        | refine st_gT rfl rfl rfl ?_
        | refine st_gF rfl rfl rfl ?_
        | refine st_dgT rfl rfl rfl rfl ?_
        | refine st_dgF rfl rfl rfl ?_
        | (refine st_gS rfl rfl ?_ ?_ <;> intro hg <;> (try simp only [decide_eq_true_eq, decide_eq_false_iff_not, Bool.not_eq_true', Bool.not_eq_false'] at hg))
        | (refine st_dgS rfl rfl ?_ ?_ <;> intro hg <;> (try simp only [decide_eq_true_eq, decide_eq_false_iff_not, Bool.not_eq_true', Bool.not_eq_false'] at hg))
        | refine st_condT rfl ?_
        | refine st_condF rfl ?_
        | (refine st_condS rfl ?_ ?_ <;> intro hg <;> (try simp only [decide_eq_true_eq, decide_eq_false_iff_not, Bool.not_eq_true', Bool.not_eq_false'] at hg))
        | refine st_nil ?_
        | refine st_dnil ?_
        | refine st_tN ?_
        | refine st_seq ?_
        | refine st_block ?_
        | refine st_skip ?_
        | refine st_exit ?_
        | refine st_ret ?_
        | refine st_tE ?_
        | refine st_tR ?_
        | refine st_bN ?_
        | refine st_bR ?_
        | refine st_bH ?_
        | refine st_noN ?_
        | refine st_noR ?_
        | refine st_noE ?_
        | refine st_label ?_
        | refine st_scope tab mixed (by decide) ?_
        | refine st_bM rfl ?_)
    · exact absurd (by assumption) hi
    refine st_free ?_
    refine ASem.cutK 8 1 (l1.map iv) (by simp only [go_sem, ↓reduceIte, Nat.reduceEqDiff]; exact hb12) fun H1 h1a h1b h1c => ?_
    refine ASem.cutK 9 1 (l2.map iv) ?_ fun H2 h2a h2b h2c => ?_
    · simp only [go_sem, ↓reduceIte, Nat.reduceEqDiff]
      rcases hb22 with h' | ⟨b2, h', h'', h3⟩
      · exact .inl h'
      · exact .inr ⟨b2, h', by rw [h1a b2 (fun m => by simp only [go_sem, ↓reduceIte, Nat.reduceEqDiff]; exact h3 m)]; exact h''⟩
    clear h1a h1b h1c h2a h2b h2c hb12 hb22
    refine st_run tab mixed (f2 := ⟨130, [], [45, 47, 52, 57, 61], none, [(13, [0, 0, 3, 7, 15, 0, 0, 96, 224, 511, 1023, 2047], [(0, false), (1, false), (2, false), (3, true), (5, false), (6, false), (7, false), (8, true), (4, false), (9, false), (10, false), (11, false)]), (15, [0, 0, 3, 7, 0, 0, 48, 112, 255, 511, 1023, 1023, 1023, 2047, 12287, 32767], [(0, false), (1, false), (2, false), (3, true), (4, false), (5, false), (6, false), (7, true), (8, false), (9, false), (10, false), (11, false), (12, false), (13, false), (14, false), (15, false)])]⟩) rfl rfl (by decide) ?_
    repeat' (first
        | refine st_seq_reg rfl (by first | (simp only [go_sem]; rfl) | rfl) (by first | (simp only [go_sem]; rfl) | rfl) ?_
        | refine st_reg rfl (by first | (simp only [go_sem]; rfl) | rfl) (by first | (simp only [go_sem]; rfl) | rfl) ?_
        | refine st_seq_draw rfl (by first | (simp only [go_sem]; rfl) | rfl) (by first | (simp only [go_sem]; rfl) | rfl) ?_
        | refine st_draw rfl (by first | (simp only [go_sem]; rfl) | rfl) (by first | (simp only [go_sem]; rfl) | rfl) ?_
        | refine st_op ?_
        | refine st_det rfl (by simp (disch := omega) only [go_sem, wr_i64, if_yes, if_no, ↓reduceIte, Nat.reduceAdd, Nat.reduceMul, Nat.reduceEqDiff, Nat.reduceBEq, Nat.reduceLeDiff]; rfl) ?_
        | refine st_dop rfl ?_
        | refine st_loc rfl (by simp (disch := omega) only [go_sem, wr_i64, if_yes, if_no, ↓reduceIte, Nat.reduceAdd, Nat.reduceMul, Nat.reduceEqDiff, Nat.reduceBEq, Nat.reduceLeDiff]; rfl) ?_
        | refine st_heap rfl (by simp (disch := omega) only [go_sem, wr_i64, if_yes, if_no, ↓reduceIte, Nat.reduceAdd, Nat.reduceMul, Nat.reduceEqDiff, Nat.reduceBEq, Nat.reduceLeDiff]; rfl) ?_
        | refine st_store (by simp (disch := omega) only [go_sem, wr_i64, if_yes, if_no, ↓reduceIte, Nat.reduceAdd, Nat.reduceMul, Nat.reduceEqDiff, Nat.reduceBEq, Nat.reduceLeDiff]; rfl) ?_
        | refine st_append (by simp (disch := omega) only [go_sem, wr_i64, if_yes, if_no, ↓reduceIte, Nat.reduceAdd, Nat.reduceMul, Nat.reduceEqDiff, Nat.reduceBEq, Nat.reduceLeDiff]; rfl) ?_
        | refine st_copy (by simp (disch := omega) only [go_sem, wr_i64, if_yes, if_no, ↓reduceIte, Nat.reduceAdd, Nat.reduceMul, Nat.reduceEqDiff, Nat.reduceBEq, Nat.reduceLeDiff]; rfl) ?_
        | refine st_gT rfl rfl rfl ?_
        | refine st_gF rfl rfl rfl ?_
        | refine st_dgT rfl rfl rfl rfl ?_
        | refine st_dgF rfl rfl rfl ?_
        | (refine st_gS rfl rfl ?_ ?_ <;> intro hg <;> (try simp only [decide_eq_true_eq, decide_eq_false_iff_not, Bool.not_eq_true', Bool.not_eq_false'] at hg))
        | (refine st_dgS rfl rfl ?_ ?_ <;> intro hg <;> (try simp only [decide_eq_true_eq, decide_eq_false_iff_not, Bool.not_eq_true', Bool.not_eq_false'] at hg))
        | refine st_condT rfl ?_
        | refine st_condF rfl ?_
        | (refine st_condS rfl ?_ ?_ <;> intro hg <;> (try simp only [decide_eq_true_eq, decide_eq_false_iff_not, Bool.not_eq_true', Bool.not_eq_false'] at hg))
        | refine st_nil ?_
        | refine st_dnil ?_
        | refine st_tN ?_
        | refine st_seq ?_
        | refine st_block ?_
        | refine st_skip ?_
        | refine st_exit ?_
        | refine st_ret ?_
        | refine st_tE ?_
        | refine st_tR ?_
        | refine st_bN ?_
        | refine st_bR ?_
        | refine st_bH ?_
        | refine st_noN ?_
        | refine st_noR ?_
        | refine st_noE ?_
        | refine st_label ?_
        | refine st_scope tab mixed (by decide) ?_
        | refine st_bM rfl ?_)
    have ek : ([[.lst 1 (ts.map iv)], [.lst 1 (l1.map iv)], [.lst 1 (l1.map iv)]] : List (List AV)) = ([ts, l1, l1] : List (List Int)).map rowA := rfl
    have ek2 : ([[.lst 1 (ss.map iv)], [.lst 1 (l2.map iv)], [.lst 1 (ss.map iv)]] : List (List AV)) = ([ss, l2, ss] : List (List Int)).map rowA := rfl
    rw [ek, ek2]
    have t1 : ∀ x ∈ ([ts, l1, l1] : List (List Int)), x.length < 1000 := by
      intro x hx
      simp only [List.mem_cons, List.not_mem_nil, or_false] at hx
      rcases hx with rfl | rfl | rfl <;> omega
    have t2 : ∀ x ∈ ([ss, l2, ss] : List (List Int)), x.length < 1000 := by
      intro x hx
      simp only [List.mem_cons, List.not_mem_nil, or_false] at hx
      rcases hx with rfl | rfl | rfl <;> omega
    have t3 : ([ts, l1, l1] : List (List Int)).length = 3 := rfl
    have t4 : ([ss, l2, ss] : List (List Int)).length = 3 := rfl
    generalize ([ts, l1, l1] : List (List Int)) = tl at *
    generalize ([ss, l2, ss] : List (List Int)) = sl at *
    refine st_loopC (α := Nat) tab mixed [] [] (by repeat (first | exact trivial | refine ⟨rfl, ?_⟩)) [] [] (by repeat (first | exact trivial | refine ⟨rfl, ?_⟩)) (fun i => [(13, .int .i64 (i : Nat))]) [(11, _), (12, _)] (fun _ => []) [] (fun i => i ≤ 3) (fun i => 3 - i) (by decide) 0 (Nat.zero_le _) (by (try simp only [go_sem]); repeat' (first | exact trivial | refine And.intro ?_ ?_ | rfl | (simp (disch := omega) only [go_sem, if_yes, if_no, ↓reduceIte, Nat.reduceAdd, Nat.reduceMul, Nat.reduceEqDiff, Nat.reduceBEq, Nat.reduceLeDiff]; rfl) | (simp (disch := omega) only [go_sem, if_yes, if_no, ↓reduceIte, Nat.reduceAdd, Nat.reduceMul, Nat.reduceEqDiff, Nat.reduceBEq, Nat.reduceLeDiff]))) (by (try simp only [go_sem]); repeat' (first | exact trivial | refine And.intro ?_ ?_ | rfl | (simp (disch := omega) only [go_sem, if_yes, if_no, ↓reduceIte, Nat.reduceAdd, Nat.reduceMul, Nat.reduceEqDiff, Nat.reduceBEq, Nat.reduceLeDiff]; rfl) | (simp (disch := omega) only [go_sem, if_yes, if_no, ↓reduceIte, Nat.reduceAdd, Nat.reduceMul, Nat.reduceEqDiff, Nat.reduceBEq, Nat.reduceLeDiff]))) (by first | (simp only [go_sem]; rfl) | rfl) (by intro n; simp only [go_sem]; rfl) ?_
    intro j c j1 hc
    simp only [go_sem]
    have q1 := fun hj : j < 3 => t1 _ (lel_mem (l := tl) (i := j) (by omega))
    have q2 := fun hj : j < 3 => t2 _ (lel_mem (l := sl) (i := j) (by omega))
    repeat' (first
        | refine st_seq_reg rfl (by first | (simp only [go_sem, List.length_map, t3, t4]; rfl) | rfl) (by first | (simp only [go_sem, List.length_map, t3, t4]; rfl) | rfl) ?_
        | refine st_reg rfl (by first | (simp only [go_sem, List.length_map, t3, t4]; rfl) | rfl) (by first | (simp only [go_sem, List.length_map, t3, t4]; rfl) | rfl) ?_
        | refine st_seq_draw rfl (by first | (simp only [go_sem, List.length_map, t3, t4]; rfl) | rfl) (by first | (simp only [go_sem, List.length_map, t3, t4]; rfl) | rfl) ?_
        | refine st_draw rfl (by first | (simp only [go_sem, List.length_map, t3, t4]; rfl) | rfl) (by first | (simp only [go_sem, List.length_map, t3, t4]; rfl) | rfl) ?_
        | refine st_op ?_
        | refine st_det rfl (by simp (disch := omega) only [go_sem, wr_i64, if_yes, if_no, ↓reduceIte, Nat.reduceAdd, Nat.reduceMul, Nat.reduceEqDiff, Nat.reduceBEq, Nat.reduceLeDiff, List.length_map, t3, t4]; rfl) ?_
        | refine st_dop rfl ?_
        | refine st_loc rfl (by simp (disch := omega) only [go_sem, wr_i64, if_yes, if_no, ↓reduceIte, Nat.reduceAdd, Nat.reduceMul, Nat.reduceEqDiff, Nat.reduceBEq, Nat.reduceLeDiff, List.length_map, t3, t4]; rfl) ?_
        | refine st_heap rfl (by simp (disch := omega) only [go_sem, wr_i64, if_yes, if_no, ↓reduceIte, Nat.reduceAdd, Nat.reduceMul, Nat.reduceEqDiff, Nat.reduceBEq, Nat.reduceLeDiff, List.length_map, t3, t4]; rfl) ?_
        | refine st_store (by simp (disch := omega) only [go_sem, wr_i64, if_yes, if_no, ↓reduceIte, Nat.reduceAdd, Nat.reduceMul, Nat.reduceEqDiff, Nat.reduceBEq, Nat.reduceLeDiff, List.length_map, t3, t4]; rfl) ?_
        | refine st_append (by simp (disch := omega) only [go_sem, wr_i64, if_yes, if_no, ↓reduceIte, Nat.reduceAdd, Nat.reduceMul, Nat.reduceEqDiff, Nat.reduceBEq, Nat.reduceLeDiff, List.length_map, t3, t4]; rfl) ?_
        | refine st_copy (by simp (disch := omega) only [go_sem, wr_i64, if_yes, if_no, ↓reduceIte, Nat.reduceAdd, Nat.reduceMul, Nat.reduceEqDiff, Nat.reduceBEq, Nat.reduceLeDiff, List.length_map, t3, t4]; rfl) ?_
        | (refine st_pureE (by first | (simp (disch := omega) only [go_sem, List.length_map, t3, t4]; rfl) | rfl) rfl (c32 (lel tl j) (by have := q1 (by omega); omega)) (by first | (simp only [go_sem, List.length_map, t3, t4]; rfl) | rfl) (by intro n; simp (disch := omega) only [go_sem]; rfl) ?_; intro n hn)
        | (refine st_pureE (by first | (simp (disch := omega) only [go_sem, List.length_map, t3, t4]; rfl) | rfl) rfl (c32 (lel sl j) (by have := q2 (by omega); omega)) (by first | (simp only [go_sem, List.length_map, t3, t4]; rfl) | rfl) (by intro n; simp (disch := omega) only [go_sem]; rfl) ?_; intro n hn)
        | (refine st_pureE (by first | (simp (disch := omega) only [go_sem, List.length_map, t3, t4]; rfl) | rfl) rfl (c33v (lel tl j) (lel sl j) (by have := q1 (by omega); omega) (by have := q2 (by omega); omega)) (by first | (simp only [go_sem, List.length_map, t3, t4]; rfl) | rfl) (by intro n; simp (disch := omega) only [go_sem]; rfl) ?_; intro n hn)
        | (refine st_pureE (by first | (simp (disch := omega) only [go_sem, List.length_map, t3, t4]; rfl) | rfl) rfl (c34v (lel tl j) (lel sl j) (by have := q1 (by omega); omega) (by have := q2 (by omega); omega)) (by first | (simp only [go_sem, List.length_map, t3, t4]; rfl) | rfl) (by intro n; simp (disch := omega) only [go_sem]; rfl) ?_; intro n hn)
        | (refine st_pureE (by first | (simp (disch := omega) only [go_sem, List.length_map, t3, t4]; rfl) | rfl) rfl (c30 (lel tl j) (lel tl j) (by have := q1 (by omega); omega) (by have := q1 (by omega); omega)) (by first | (simp only [go_sem, List.length_map, t3, t4]; rfl) | rfl) (by intro n; simp (disch := omega) only [go_sem]; rfl) ?_; intro n hn)
        | (refine st_pureE (by first | (simp (disch := omega) only [go_sem, List.length_map, t3, t4]; rfl) | rfl) rfl (c30 (lel sl j) (lel sl j) (by have := q2 (by omega); omega) (by have := q2 (by omega); omega)) (by first | (simp only [go_sem, List.length_map, t3, t4]; rfl) | rfl) (by intro n; simp (disch := omega) only [go_sem]; rfl) ?_; intro n hn)
        | (refine st_pureE (by first | (simp (disch := omega) only [go_sem, List.length_map, t3, t4]; rfl) | rfl) rfl (c15) (by first | (simp only [go_sem, List.length_map, t3, t4]; rfl) | rfl) (by intro n; simp (disch := omega) only [go_sem]; rfl) ?_; intro n hn)
        | refine st_gT rfl rfl rfl ?_
        | refine st_gF rfl rfl rfl ?_
        | refine st_dgT rfl rfl rfl rfl ?_
        | refine st_dgF rfl rfl rfl ?_
        | (refine st_gS rfl rfl ?_ ?_ <;> intro hg <;> (try simp only [decide_eq_true_eq, decide_eq_false_iff_not, Bool.not_eq_true', Bool.not_eq_false'] at hg))
        | (refine st_dgS rfl rfl ?_ ?_ <;> intro hg <;> (try simp only [decide_eq_true_eq, decide_eq_false_iff_not, Bool.not_eq_true', Bool.not_eq_false'] at hg))
        | refine st_condT rfl ?_
        | refine st_condF rfl ?_
        | (refine st_condS rfl ?_ ?_ <;> intro hg <;> (try simp only [decide_eq_true_eq, decide_eq_false_iff_not, Bool.not_eq_true', Bool.not_eq_false'] at hg))
        | refine st_nil ?_
        | refine st_dnil ?_
        | refine st_tN ?_
        | refine st_seq ?_
        | refine st_block ?_
        | refine st_skip ?_
        | refine st_exit ?_
        | refine st_ret ?_
        | refine st_tE ?_
        | refine st_tR ?_
        | refine st_bN ?_
        | refine st_bR ?_
        | refine st_bH ?_
        | refine st_noN ?_
        | refine st_noR ?_
        | refine st_noE ?_
        | refine st_label ?_
        | refine st_scope tab mixed (by decide) ?_
        | refine st_bM rfl ?_)
    · refine ⟨j + 1, (by show j + 1 ≤ 3; omega), by show 3 - (j + 1) < 3 - j; omega, (by repeat' (first | exact trivial | refine And.intro ?_ ?_ | rfl | (simp (disch := omega) only [go_sem, if_yes, if_no, ↓reduceIte, Nat.reduceAdd, Nat.reduceMul, Nat.reduceEqDiff, Nat.reduceBEq, Nat.reduceLeDiff]; rfl) | (simp (disch := omega) only [go_sem, if_yes, if_no, ↓reduceIte, Nat.reduceAdd, Nat.reduceMul, Nat.reduceEqDiff, Nat.reduceBEq, Nat.reduceLeDiff]))), (by repeat' (first | exact trivial | refine And.intro ?_ ?_ | rfl | (simp (disch := omega) only [go_sem, if_yes, if_no, ↓reduceIte, Nat.reduceAdd, Nat.reduceMul, Nat.reduceEqDiff, Nat.reduceBEq, Nat.reduceLeDiff]; rfl) | (simp (disch := omega) only [go_sem, if_yes, if_no, ↓reduceIte, Nat.reduceAdd, Nat.reduceMul, Nat.reduceEqDiff, Nat.reduceBEq, Nat.reduceLeDiff]))), rfl, HOld.of _ (by omega)⟩
    · simp (disch := omega) only [AEnd, Try.results4, aresK, fin, go_sem, ↓reduceIte, Nat.reduceEqDiff, Nat.reduceAdd, Nat.reduceLeDiff, if_yes, if_no, implies_true, true_and, and_true, List.reverse_cons, List.reverse_nil]
  rcases hat with ⟨rfl, rfl, rfl, rfl⟩ | ⟨b1, b2, rfl, rfl, g1, g2, e1, e2, e3, e4, e5⟩
  · have n6 : ¬ b = (c + 1, 48) := fun e => by rw [e] at bc; dsimp only at bc; omega
    have n9 : ¬ b = (c + 1, 53) := fun e => by rw [e] at bc; dsimp only at bc; omega
    have m6 : ¬ (c + 1, 48) = b := fun e => n6 e.symm
    have m9 : ¬ (c + 1, 53) = b := fun e => n9 e.symm
    simp only [go_sem]
    repeat' (first
        | refine st_seq_reg rfl (by first | (simp only [go_sem, hd, big, List.length_map]; rfl) | rfl) (by first | (simp only [go_sem, hd, big, List.length_map]; rfl) | rfl) ?_
        | refine st_reg rfl (by first | (simp only [go_sem, hd, big, List.length_map]; rfl) | rfl) (by first | (simp only [go_sem, hd, big, List.length_map]; rfl) | rfl) ?_
        | refine st_seq_draw rfl (by first | (simp only [go_sem, hd, big, List.length_map]; rfl) | rfl) (by first | (simp only [go_sem, hd, big, List.length_map]; rfl) | rfl) ?_
        | refine st_draw rfl (by first | (simp only [go_sem, hd, big, List.length_map]; rfl) | rfl) (by first | (simp only [go_sem, hd, big, List.length_map]; rfl) | rfl) ?_
        | refine st_op ?_
        | refine st_det rfl (by simp (disch := omega) only [go_sem, wr_i64, if_yes, if_no, ↓reduceIte, Nat.reduceAdd, Nat.reduceMul, Nat.reduceEqDiff, Nat.reduceBEq, Nat.reduceLeDiff, hd, big, List.length_map]; rfl) ?_
        | refine st_dop rfl ?_
        | refine st_loc rfl (by simp (disch := omega) only [go_sem, wr_i64, if_yes, if_no, ↓reduceIte, Nat.reduceAdd, Nat.reduceMul, Nat.reduceEqDiff, Nat.reduceBEq, Nat.reduceLeDiff, hd, big, List.length_map]; rfl) ?_
        | refine st_heap rfl (by simp (disch := omega) only [go_sem, wr_i64, if_yes, if_no, ↓reduceIte, Nat.reduceAdd, Nat.reduceMul, Nat.reduceEqDiff, Nat.reduceBEq, Nat.reduceLeDiff, hd, big, List.length_map]; rfl) ?_
        | refine st_store (by simp (disch := omega) only [go_sem, wr_i64, if_yes, if_no, ↓reduceIte, Nat.reduceAdd, Nat.reduceMul, Nat.reduceEqDiff, Nat.reduceBEq, Nat.reduceLeDiff, hd, big, List.length_map]; rfl) ?_
        | refine st_append (by simp (disch := omega) only [go_sem, wr_i64, if_yes, if_no, ↓reduceIte, Nat.reduceAdd, Nat.reduceMul, Nat.reduceEqDiff, Nat.reduceBEq, Nat.reduceLeDiff, hd, big, List.length_map]; rfl) ?_
        | refine st_copy (by simp (disch := omega) only [go_sem, wr_i64, if_yes, if_no, ↓reduceIte, Nat.reduceAdd, Nat.reduceMul, Nat.reduceEqDiff, Nat.reduceBEq, Nat.reduceLeDiff, hd, big, List.length_map]; rfl) ?_
        | (refine st_drum (by first | (simp (disch := omega) only [go_sem, hd, big, List.length_map]; rfl) | rfl) rfl (c20' b 5 (by omega)) (by first | (simp (disch := omega) only [go_sem, hd, big, List.length_map]; rfl) | rfl) (by assumption) (by first | (simp only [go_sem, hd, big, List.length_map]; rfl) | rfl) (by intro x' n; simp (disch := omega) only [go_sem]; rfl) ?_; rintro v x' n hu' ⟨r, rfl, hr⟩ hn)
        | (refine st_drum (by first | (simp (disch := omega) only [go_sem, hd, big, List.length_map]; rfl) | rfl) rfl (c20' b 1001 (by omega)) (by first | (simp (disch := omega) only [go_sem, hd, big, List.length_map]; rfl) | rfl) (by assumption) (by first | (simp only [go_sem, hd, big, List.length_map]; rfl) | rfl) (by intro x' n; simp (disch := omega) only [go_sem]; rfl) ?_; rintro v x' n hu' ⟨r, rfl, hr⟩ hn)
        | (refine st_drum (by first | (simp (disch := omega) only [go_sem, hd, big, List.length_map]; rfl) | rfl) rfl (c18c b _ _ _) (by first | (simp (disch := omega) only [go_sem, hd, big, List.length_map]; rfl) | rfl) (by assumption) (by first | (simp only [go_sem, hd, big, List.length_map]; rfl) | rfl) (by intro x' n; simp (disch := omega) only [go_sem]; rfl) ?_; rintro v x' n hu' ⟨r, rfl, hr⟩ hn)
        | (refine st_drum (by first | (simp (disch := omega) only [go_sem, hd, big, List.length_map]; rfl) | rfl) rfl (c20' b 1000000001 (by omega)) (by first | (simp (disch := omega) only [go_sem, hd, big, List.length_map]; rfl) | rfl) (by assumption) (by first | (simp only [go_sem, hd, big, List.length_map]; rfl) | rfl) (by intro x' n; simp (disch := omega) only [go_sem]; rfl) ?_; rintro v x' n hu' ⟨r, rfl, hr⟩ hn)
        | refine st_gT rfl rfl rfl ?_
        | refine st_gF rfl rfl rfl ?_
        | refine st_dgT rfl rfl rfl rfl ?_
        | refine st_dgF rfl rfl rfl ?_
        | (refine st_gS rfl rfl ?_ ?_ <;> intro hg <;> (try simp only [decide_eq_true_eq, decide_eq_false_iff_not, Bool.not_eq_true', Bool.not_eq_false'] at hg))
        | (refine st_dgS rfl rfl ?_ ?_ <;> intro hg <;> (try simp only [decide_eq_true_eq, decide_eq_false_iff_not, Bool.not_eq_true', Bool.not_eq_false'] at hg))
        | refine st_condT rfl ?_
        | refine st_condF rfl ?_
        | (refine st_condS rfl ?_ ?_ <;> intro hg <;> (try simp only [decide_eq_true_eq, decide_eq_false_iff_not, Bool.not_eq_true', Bool.not_eq_false'] at hg))
        | refine st_nil ?_
        | refine st_dnil ?_
        | refine st_tN ?_
        | refine st_seq ?_
        | refine st_block ?_
        | refine st_skip ?_
        | refine st_exit ?_
        | refine st_ret ?_
        | refine st_tE ?_
        | refine st_tR ?_
        | refine st_bN ?_
        | refine st_bR ?_
        | refine st_bH ?_
        | refine st_noN ?_
        | refine st_noR ?_
        | refine st_noE ?_
        | refine st_label ?_
        | refine st_scope tab mixed (by decide) ?_
        | refine st_bM rfl ?_)
    · rename_i xA nA uA rA hA mA
      refine ⟨⟨i - 1, x', .slc (c + 1, 48) 1 0 1, .slc (c + 1, 53) 1 0 1, _⟩, ⟨[rA], [r], ⟨by show 0 ≤ i - 1; omega, rfl, by show ((1 : Nat) : Int) + (i - 1) ≤ 6; have : i ≤ 6 := (by simpa using le); omega, hu', by simp only [go_sem, n6, n9, m6, m9, ↓reduceIte, Nat.reduceEqDiff, and_false], by simp only [go_sem]; omega, .inr ⟨(c + 1, 48), (c + 1, 53), rfl, rfl, by simp only [go_sem, n6, n9, m6, m9, ↓reduceIte, Nat.reduceEqDiff, and_false] <;> rfl, by simp only [go_sem, n6, n9, m6, m9, ↓reduceIte, Nat.reduceEqDiff, and_false] <;> rfl, ne_snd (by show 48 ≠ 53; decide), fun e => n6 e.symm, fun e => n9 e.symm, by simp only [go_sem]; omega, by simp only [go_sem]; omega⟩⟩⟩, by show (i - 1).toNat < i.toNat; omega, (by repeat' (first | exact trivial | refine And.intro ?_ ?_ | rfl | (simp (disch := omega) only [go_sem, if_yes, if_no, ↓reduceIte, Nat.reduceAdd, Nat.reduceMul, Nat.reduceEqDiff, Nat.reduceBEq, Nat.reduceLeDiff]; rfl) | (simp (disch := omega) only [go_sem, if_yes, if_no, ↓reduceIte, Nat.reduceAdd, Nat.reduceMul, Nat.reduceEqDiff, Nat.reduceBEq, Nat.reduceLeDiff]))), (by repeat' (first | exact trivial | refine And.intro ?_ ?_ | rfl | (simp (disch := omega) only [go_sem, if_yes, if_no, ↓reduceIte, Nat.reduceAdd, Nat.reduceMul, Nat.reduceEqDiff, Nat.reduceBEq, Nat.reduceLeDiff]; rfl) | (simp (disch := omega) only [go_sem, if_yes, if_no, ↓reduceIte, Nat.reduceAdd, Nat.reduceMul, Nat.reduceEqDiff, Nat.reduceBEq, Nat.reduceLeDiff]))), rfl, HOld.refl _⟩
    · exact absurd hi (by assumption)
  · have n1 : ¬ b1 = b := e2
    have n2 : ¬ b2 = b := e3
    have n3 : ¬ b1 = b2 := e1
    have n4 : ¬ b2 = b1 := fun e => e1 e.symm
    have n5 : ¬ b = b1 := fun e => e2 e.symm
    have n6 : ¬ b = (c + 1, 48) := fun e => by rw [e] at bc; dsimp only at bc; omega
    have n7 : ¬ b2 = (c + 1, 48) := fun e => by rw [e] at e5; dsimp only at e5; omega
    have m7 : ¬ (c + 1, 48) = b2 := fun e => n7 e.symm
    have n8 : ¬ b = b2 := fun e => e3 e.symm
    have n9 : ¬ b = (c + 1, 53) := fun e => by rw [e] at bc; dsimp only at bc; omega
    have m6 : ¬ (c + 1, 48) = b := fun e => n6 e.symm
    have m9 : ¬ (c + 1, 53) = b := fun e => n9 e.symm
    simp only [go_sem]
    repeat' (first
        | refine st_seq_reg rfl (by first | (simp only [go_sem, hd, big, List.length_map, g1, g2, n1, n2, n3, n4, n5, n6, n7, n8, n9]; rfl) | rfl) (by first | (simp only [go_sem, hd, big, List.length_map, g1, g2, n1, n2, n3, n4, n5, n6, n7, n8, n9]; rfl) | rfl) ?_
        | refine st_reg rfl (by first | (simp only [go_sem, hd, big, List.length_map, g1, g2, n1, n2, n3, n4, n5, n6, n7, n8, n9]; rfl) | rfl) (by first | (simp only [go_sem, hd, big, List.length_map, g1, g2, n1, n2, n3, n4, n5, n6, n7, n8, n9]; rfl) | rfl) ?_
        | refine st_seq_draw rfl (by first | (simp only [go_sem, hd, big, List.length_map, g1, g2, n1, n2, n3, n4, n5, n6, n7, n8, n9]; rfl) | rfl) (by first | (simp only [go_sem, hd, big, List.length_map, g1, g2, n1, n2, n3, n4, n5, n6, n7, n8, n9]; rfl) | rfl) ?_
        | refine st_draw rfl (by first | (simp only [go_sem, hd, big, List.length_map, g1, g2, n1, n2, n3, n4, n5, n6, n7, n8, n9]; rfl) | rfl) (by first | (simp only [go_sem, hd, big, List.length_map, g1, g2, n1, n2, n3, n4, n5, n6, n7, n8, n9]; rfl) | rfl) ?_
        | refine st_op ?_
        | refine st_det rfl (by simp (disch := omega) only [go_sem, wr_i64, if_yes, if_no, ↓reduceIte, Nat.reduceAdd, Nat.reduceMul, Nat.reduceEqDiff, Nat.reduceBEq, Nat.reduceLeDiff, hd, big, List.length_map, g1, g2, n1, n2, n3, n4, n5, n6, n7, n8, n9]; rfl) ?_
        | refine st_dop rfl ?_
        | refine st_loc rfl (by simp (disch := omega) only [go_sem, wr_i64, if_yes, if_no, ↓reduceIte, Nat.reduceAdd, Nat.reduceMul, Nat.reduceEqDiff, Nat.reduceBEq, Nat.reduceLeDiff, hd, big, List.length_map, g1, g2, n1, n2, n3, n4, n5, n6, n7, n8, n9]; rfl) ?_
        | refine st_heap rfl (by simp (disch := omega) only [go_sem, wr_i64, if_yes, if_no, ↓reduceIte, Nat.reduceAdd, Nat.reduceMul, Nat.reduceEqDiff, Nat.reduceBEq, Nat.reduceLeDiff, hd, big, List.length_map, g1, g2, n1, n2, n3, n4, n5, n6, n7, n8, n9]; rfl) ?_
        | refine st_store (by simp (disch := omega) only [go_sem, wr_i64, if_yes, if_no, ↓reduceIte, Nat.reduceAdd, Nat.reduceMul, Nat.reduceEqDiff, Nat.reduceBEq, Nat.reduceLeDiff, hd, big, List.length_map, g1, g2, n1, n2, n3, n4, n5, n6, n7, n8, n9]; rfl) ?_
        | refine st_append (by simp (disch := omega) only [go_sem, wr_i64, if_yes, if_no, ↓reduceIte, Nat.reduceAdd, Nat.reduceMul, Nat.reduceEqDiff, Nat.reduceBEq, Nat.reduceLeDiff, hd, big, List.length_map, g1, g2, n1, n2, n3, n4, n5, n6, n7, n8, n9]; rfl) ?_
        | refine st_copy (by simp (disch := omega) only [go_sem, wr_i64, if_yes, if_no, ↓reduceIte, Nat.reduceAdd, Nat.reduceMul, Nat.reduceEqDiff, Nat.reduceBEq, Nat.reduceLeDiff, hd, big, List.length_map, g1, g2, n1, n2, n3, n4, n5, n6, n7, n8, n9]; rfl) ?_
        | (refine st_drum (by first | (simp (disch := omega) only [go_sem, hd, big, List.length_map, g1, g2, n1, n2, n3, n4, n5, n6, n7, n8, n9]; rfl) | rfl) rfl (c20' b 5 (by omega)) (by first | (simp (disch := omega) only [go_sem, hd, big, List.length_map, g1, g2, n1, n2, n3, n4, n5, n6, n7, n8, n9]; rfl) | rfl) (by assumption) (by first | (simp only [go_sem, hd, big, List.length_map, g1, g2, n1, n2, n3, n4, n5, n6, n7, n8, n9]; rfl) | rfl) (by intro x' n; simp (disch := omega) only [go_sem]; rfl) ?_; rintro v x' n hu' ⟨r, rfl, hr⟩ hn)
        | (refine st_drum (by first | (simp (disch := omega) only [go_sem, hd, big, List.length_map, g1, g2, n1, n2, n3, n4, n5, n6, n7, n8, n9]; rfl) | rfl) rfl (c20' b 1001 (by omega)) (by first | (simp (disch := omega) only [go_sem, hd, big, List.length_map, g1, g2, n1, n2, n3, n4, n5, n6, n7, n8, n9]; rfl) | rfl) (by assumption) (by first | (simp only [go_sem, hd, big, List.length_map, g1, g2, n1, n2, n3, n4, n5, n6, n7, n8, n9]; rfl) | rfl) (by intro x' n; simp (disch := omega) only [go_sem]; rfl) ?_; rintro v x' n hu' ⟨r, rfl, hr⟩ hn)
        | (refine st_drum (by first | (simp (disch := omega) only [go_sem, hd, big, List.length_map, g1, g2, n1, n2, n3, n4, n5, n6, n7, n8, n9]; rfl) | rfl) rfl (c18c b _ _ _) (by first | (simp (disch := omega) only [go_sem, hd, big, List.length_map, g1, g2, n1, n2, n3, n4, n5, n6, n7, n8, n9]; rfl) | rfl) (by assumption) (by first | (simp only [go_sem, hd, big, List.length_map, g1, g2, n1, n2, n3, n4, n5, n6, n7, n8, n9]; rfl) | rfl) (by intro x' n; simp (disch := omega) only [go_sem]; rfl) ?_; rintro v x' n hu' ⟨r, rfl, hr⟩ hn)
        | (refine st_drum (by first | (simp (disch := omega) only [go_sem, hd, big, List.length_map, g1, g2, n1, n2, n3, n4, n5, n6, n7, n8, n9]; rfl) | rfl) rfl (c20' b 1000000001 (by omega)) (by first | (simp (disch := omega) only [go_sem, hd, big, List.length_map, g1, g2, n1, n2, n3, n4, n5, n6, n7, n8, n9]; rfl) | rfl) (by assumption) (by first | (simp only [go_sem, hd, big, List.length_map, g1, g2, n1, n2, n3, n4, n5, n6, n7, n8, n9]; rfl) | rfl) (by intro x' n; simp (disch := omega) only [go_sem]; rfl) ?_; rintro v x' n hu' ⟨r, rfl, hr⟩ hn)
        | refine st_gT rfl rfl rfl ?_
        | refine st_gF rfl rfl rfl ?_
        | refine st_dgT rfl rfl rfl rfl ?_
        | refine st_dgF rfl rfl rfl ?_
        | (refine st_gS rfl rfl ?_ ?_ <;> intro hg <;> (try simp only [decide_eq_true_eq, decide_eq_false_iff_not, Bool.not_eq_true', Bool.not_eq_false'] at hg))
        | (refine st_dgS rfl rfl ?_ ?_ <;> intro hg <;> (try simp only [decide_eq_true_eq, decide_eq_false_iff_not, Bool.not_eq_true', Bool.not_eq_false'] at hg))
        | refine st_condT rfl ?_
        | refine st_condF rfl ?_
        | (refine st_condS rfl ?_ ?_ <;> intro hg <;> (try simp only [decide_eq_true_eq, decide_eq_false_iff_not, Bool.not_eq_true', Bool.not_eq_false'] at hg))
        | refine st_nil ?_
        | refine st_dnil ?_
        | refine st_tN ?_
        | refine st_seq ?_
        | refine st_block ?_
        | refine st_skip ?_
        | refine st_exit ?_
        | refine st_ret ?_
        | refine st_tE ?_
        | refine st_tR ?_
        | refine st_bN ?_
        | refine st_bR ?_
        | refine st_bH ?_
        | refine st_noN ?_
        | refine st_noR ?_
        | refine st_noE ?_
        | refine st_label ?_
        | refine st_scope tab mixed (by decide) ?_
        | refine st_bM rfl ?_)
    · rename_i xA nA uA rA hA mA
      refine ⟨⟨i - 1, x', .slc (c + 1, 48) 1 0 (l1.length + 1), .slc (c + 1, 53) 1 0 (l2.length + 1), _⟩, ⟨l1 ++ [rA], l2 ++ [r], ⟨by show 0 ≤ i - 1; omega, by simp [len], by rw [List.length_append]; show ((l1.length + 1 : Nat) : Int) + (i - 1) ≤ 6; omega, hu', by simp only [go_sem, n6, n9, m6, m9, n7, n8, m7, ↓reduceIte, Nat.reduceEqDiff, and_false], by simp only [go_sem]; omega, .inr ⟨(c + 1, 48), (c + 1, 53), by rw [List.length_append]; rfl, by rw [List.length_append]; rfl, by simp only [go_sem, n6, n9, m6, m9, n7, n8, m7, ↓reduceIte, Nat.reduceEqDiff, and_false]; rw [List.map_append, List.take_of_length_le (by simp)]; rfl, by simp only [go_sem, n6, n9, m6, m9, n7, n8, m7, ↓reduceIte, Nat.reduceEqDiff, and_false]; rw [List.map_append, List.take_of_length_le (by simp)]; rfl, ne_snd (by show 48 ≠ 53; decide), fun e => n6 e.symm, fun e => n9 e.symm, by simp only [go_sem]; omega, by simp only [go_sem]; omega⟩⟩⟩, by show (i - 1).toNat < i.toNat; omega, (by repeat' (first | exact trivial | refine And.intro ?_ ?_ | rfl | (simp (disch := omega) only [go_sem, if_yes, if_no, ↓reduceIte, Nat.reduceAdd, Nat.reduceMul, Nat.reduceEqDiff, Nat.reduceBEq, Nat.reduceLeDiff]; rfl) | (simp (disch := omega) only [go_sem, if_yes, if_no, ↓reduceIte, Nat.reduceAdd, Nat.reduceMul, Nat.reduceEqDiff, Nat.reduceBEq, Nat.reduceLeDiff]))), (by repeat' (first | exact trivial | refine And.intro ?_ ?_ | rfl | (simp (disch := omega) only [go_sem, if_yes, if_no, ↓reduceIte, Nat.reduceAdd, Nat.reduceMul, Nat.reduceEqDiff, Nat.reduceBEq, Nat.reduceLeDiff]; rfl) | (simp (disch := omega) only [go_sem, if_yes, if_no, ↓reduceIte, Nat.reduceAdd, Nat.reduceMul, Nat.reduceEqDiff, Nat.reduceBEq, Nat.reduceLeDiff]))), rfl, HOld.refl _⟩
    · exact absurd hi (by assumption)
end Go.Proofs.Ytbbkeakbomngoaa
