/- Contracts of functions that the claim reaches: what each call gives, told in our own logic. Conditions: those of each theorem. -/
import Derived.Test.YthjbfdfhblloiaaBaseC
import Derived.Test.YthjbfdfhblloiaaBaseD
import Derived.Test.YthjbfdfhblloiaaW1
import Derived.Test.YthjbfdfhblloiaaW8a
import Derived.Test.YthjbfdfhblloiaaW6a
import Derived.Test.YthjbfdfhblloiaaW9
set_option linter.all false
set_option linter.unusedSimpArgs false
set_option linter.unusedVariables false
namespace Go.Proofs.Ythjbfdfhblloiaa
open Go.Av
attribute [local irreducible] thenA blockA awp awpOps awpD awp1
set_option maxHeartbeats 8000000
set_option maxRecDepth 20000
structure NrG where
  i : Nat
  x : Int
  gs : List Gp
  g : AH
theorem TwOk.lens {t : Tw} (hT : TwOk t) : t.lens := ⟨by have := hT.rn; omega, by have := hT.sn; omega, by have := hT.gn; omega, fun i hi => by have := (hT.g i hi).many; omega⟩
theorem gp_set {l : List Gp} {i : Nat} {y : Gp} (h : i < l.length) (k : Nat) : gp (l.set i y) k = if k = i then y else gp l k := by
  unfold gp; simp only [List.getD_eq_getElem?_getD, List.getElem?_set]
  by_cases e : k = i
  · rw [if_pos e, if_pos e.symm, if_pos h]; rfl
  · rw [if_neg e, if_neg (fun e1 => e e1.symm)]
theorem row_set {l : List Gp} {i : Nat} {r : List AV} (h : i < l.length) : ((l.map Gp.row).set i r).getD i [] = r := by
  rw [List.getD_eq_getElem?_getD, List.getElem?_set_self (by rw [List.length_map]; exact h)]; rfl
theorem GpLe.refl {t : Tw} {g : Gp} (h : GpOk t g) : GpLe g g := ⟨rfl, rfl, rfl, Int.le_refl _, h.size.2.1, Int.le_refl _, Int.le_refl _, h.at_.2.1, Int.le_refl _⟩
theorem grp_step {t : Tw} {gs : List Gp} {i : Nat} {y : Gp} (j2 : gs.length = t.gs.length) (hi : i < t.gs.length) (j3 : ∀ k, k < t.gs.length → GpLe (gp gs k) (gp t.gs k)) (j4 : ∀ k, i ≤ k → k < t.gs.length → gp gs k = gp t.gs k) (hy : GpLe y (gp t.gs i)) :
    (gs.set i y).length = t.gs.length ∧ (∀ k, k < t.gs.length → GpLe (gp (gs.set i y) k) (gp t.gs k)) ∧ (∀ k, i + 1 ≤ k → k < t.gs.length → gp (gs.set i y) k = gp t.gs k) := by
  refine ⟨by rw [List.length_set]; exact j2, fun k hk => ?_, fun k h1 h2 => ?_⟩
  · rw [gp_set (by omega)]
    split
    · rename_i e; rw [e]; exact hy
    · exact j3 k hk
  · rw [gp_set (by omega), if_neg (by omega)]; exact j4 k (by omega) h2
theorem law9 (l : List Int) (hl : (l.length : Int) ≤ 9223372036854775807) (h : AH) : ACalls Try.prog 9 [.lst 1 (l.map iv)] h (fun v _ => v = .bool true) := by
  refine ACalls.of tab mixed Try.call9 Try.func9 rfl (fi := ⟨173, [4, 7], [1000009], none, [(3, [0, 0, 3, 0, 0, 16, 48, 127, 255, 511], [(0, false), (1, true), (3, false), (4, false), (5, true), (6, false), (2, false), (7, false), (8, false), (9, false)]), (8, [0, 1, 0, 0, 8, 0, 0, 0, 128, 0, 896, 1920, 3968, 8128, 0, 0, 32768, 0, 229376, 491520, 1015808, 2097088, 4194247, 8388551, 16777159, 33554431, 67108863, 134217727], [(0, false), (1, true), (2, false), (3, false), (4, true), (5, false), (6, false), (7, false), (8, true), (9, false), (10, false), (11, false), (12, true), (14, false), (15, false), (16, true), (17, false), (18, false), (19, false), (20, true), (13, false), (21, false), (22, false), (23, false), (24, true), (25, false), (26, false), (27, false)]), (16, [0, 0, 3, 7, 0, 0, 48, 112, 255, 511], [(0, false), (1, false), (2, false), (3, true), (4, false), (5, false), (6, false), (7, true), (8, false), (9, false)])]⟩) rfl rfl (Nat.le_of_ble_eq_true rfl) (by decide) ?_
  unfold startA
  repeat' (first | refine st_seq_reg rfl (by first | (simp only [go_sem]; rfl) | rfl) (by first | (simp only [go_sem]; rfl) | rfl) ?_ | refine st_seq_draw rfl (by first | (simp only [go_sem]; rfl) | rfl) (by first | (simp only [go_sem]; rfl) | rfl) ?_ | refine st_op ?_ | refine st_det rfl (by simp (disch := omega) only [go_sem, wr_i64, if_yes, if_no, ↓reduceIte, Nat.reduceAdd, Nat.reduceMul, Nat.reduceEqDiff, Nat.reduceBEq, Nat.reduceLeDiff]; rfl) ?_ | refine st_dop rfl ?_ | refine st_loc rfl (by simp (disch := omega) only [go_sem, wr_i64, if_yes, if_no, ↓reduceIte, Nat.reduceAdd, Nat.reduceMul, Nat.reduceEqDiff, Nat.reduceBEq, Nat.reduceLeDiff]; rfl) ?_ | refine st_store (by simp (disch := omega) only [go_sem, wr_i64, if_yes, if_no, ↓reduceIte, Nat.reduceAdd, Nat.reduceMul, Nat.reduceEqDiff, Nat.reduceBEq, Nat.reduceLeDiff]; rfl) ?_ | (refine st_callf rfl rfl (c16 l hl _) ?_; rintro v h' ⟨b, x, n, rfl, hb1, hb2, hu0, rfl⟩) | (refine st_drum (by first | (simp (disch := omega) only [go_sem]; rfl) | rfl) rfl (c17 b 5 6 5 (by decide) (by decide) (by decide)) (by first | (simp (disch := omega) only [go_sem]; rfl) | rfl) (by assumption) (by first | (simp only [go_sem]; rfl) | rfl) (by intro x' n; first | (simp (disch := omega) only [go_sem]; rfl) | rfl) ?_; rintro v x' n hu' ⟨t, rfl, hG⟩ hn) | refine st_nil ?_)
  all_goals try (exfalso; omega)
  have hT := hG.ok (by decide) (by decide) (by decide)
  have h0 := chkE_ok hT
  have hr0 := hG.r0
  have hrn := hG.rn
  have hsn := hG.sn
  have hgn := hG.gn
  have hst := hG.steps
  have k15 := c15
  have hwr : wr .i64 (t.steps + 1) = t.steps + 1 := wr_i64 (by omega)
  rename_i N4
  simp only [go_sem] at hb1
  repeat' (first | refine st_seq_reg rfl (by first | (simp only [go_sem, hwr]; rfl) | rfl) (by first | (simp only [go_sem, hwr]; rfl) | rfl) ?_ | refine st_op ?_ | refine st_det rfl (by simp (disch := omega) only [go_sem, wr_i64, if_yes, if_no, ↓reduceIte, Nat.reduceAdd, Nat.reduceMul, Nat.reduceEqDiff, Nat.reduceBEq, Nat.reduceLeDiff, hwr]; rfl) ?_ | refine st_dop rfl ?_ | refine st_loc rfl (by simp (disch := omega) only [go_sem, wr_i64, if_yes, if_no, ↓reduceIte, Nat.reduceAdd, Nat.reduceMul, Nat.reduceEqDiff, Nat.reduceBEq, Nat.reduceLeDiff, hwr]; rfl) ?_ | (refine st_drum (by first | (simp (disch := omega) only [go_sem, hwr]; rfl) | rfl) rfl (c27 b t (by omega)) (by first | (simp (disch := omega) only [go_sem, hwr]; rfl) | rfl) (by assumption) (by first | (simp only [go_sem, hwr]; rfl) | rfl) (by intro x' n; first | (simp (disch := omega) only [go_sem]; rfl) | rfl) ?_; rintro v x' n hu' ⟨c, rfl, hC⟩ hn) | (refine st_drum (by first | (simp (disch := omega) only [go_sem, hwr]; rfl) | rfl) rfl (c18' b (t.steps + 1 : Int) (by omega)) (by first | (simp (disch := omega) only [go_sem, hwr]; rfl) | rfl) (by assumption) (by first | (simp only [go_sem, hwr]; rfl) | rfl) (by intro x' n; first | (simp (disch := omega) only [go_sem]; rfl) | rfl) ?_; rintro v x' n hu' ⟨st, rfl, hst2⟩ hn) | (refine st_callf rfl rfl (c22g t hT.lens _) ?_; rintro v h' ⟨gv, rfl, ho1, ho2, ho3, hS⟩) | refine st_dnil ?_)
  obtain ⟨S, rfl⟩ : ∃ f : Nat, st = f := ⟨st.toNat, by omega⟩
  have hcl := hC.len
  have hcE := hC.cloE h0
  obtain ⟨N7, hN7⟩ : ∃ m, m = n := ⟨n, rfl⟩
  subst hN7
  have hnv := hS.noL
  have hcel := hS.cell
  have hcv := cells_one hcel
  simp only [go_sem] at ho3 hS
  have hbd : h'.at_ b = dr x' := by rw [ho1 b (by simp only [go_sem]; omega)]; simp only [go_sem, ↓reduceIte]
  clear ho1 ho2
  repeat' (first | refine st_seq_reg rfl (by first | (simp only [go_sem, hnv, hcel, hcv]; rfl) | rfl) (by first | (simp only [go_sem, hnv, hcel, hcv]; rfl) | rfl) ?_ | refine st_op ?_ | refine st_det rfl (by simp (disch := omega) only [go_sem, wr_i64, if_yes, if_no, ↓reduceIte, Nat.reduceAdd, Nat.reduceMul, Nat.reduceEqDiff, Nat.reduceBEq, Nat.reduceLeDiff, hnv, hcel, hcv]; rfl) ?_ | refine st_store (by simp (disch := omega) only [go_sem, wr_i64, if_yes, if_no, ↓reduceIte, Nat.reduceAdd, Nat.reduceMul, Nat.reduceEqDiff, Nat.reduceBEq, Nat.reduceLeDiff, hnv, hcel, hcv]; rfl) ?_ | refine st_nil ?_ | refine st_seq ?_ | refine st_block ?_)
  refine st_loopH (α := NrG) tab mixed [] [] (by repeat (first | exact trivial | refine ⟨rfl, ?_⟩)) [4, 7] [_, _] (by repeat (first | exact trivial | refine ⟨rfl, ?_⟩)) (fun a => [(8, .int .i64 (a.i : Nat))]) [(3, _), (4, _), (5, _), (6, _), (7, _)] (fun _ => []) [_, _] (fun a => a.g) (fun a => isU64 a.x ∧ a.g.at_ b = dr a.x ∧ SlA (b.1 + 1) a.g gv 7 (a.gs.map Gp.row) ∧ h'.clk ≤ a.g.clk ∧ a.i ≤ t.gs.length ∧ a.gs.length = t.gs.length ∧ (∀ k, k < t.gs.length → GpLe (gp a.gs k) (gp t.gs k)) ∧ (∀ k, a.i ≤ k → k < t.gs.length → gp a.gs k = gp t.gs k)) (fun a => t.gs.length - a.i) (by decide) ⟨0, x', t.gs, _⟩ (by refine ⟨by assumption, by simp only [go_sem]; exact hbd, (hS.weak (by omega)).to (fun _ _ _ _ _ => rfl) (by simp only [go_sem]; omega), by simp only [go_sem]; omega, Nat.zero_le _, rfl, fun k hk => GpLe.refl (hT.g k hk), fun k _ _ => rfl⟩) (by (try simp only [go_sem]); repeat' (first | exact trivial | refine And.intro ?_ ?_ | rfl | (simp (disch := omega) only [go_sem, if_yes, if_no, ↓reduceIte, Nat.reduceAdd, Nat.reduceMul, Nat.reduceEqDiff, Nat.reduceBEq, Nat.reduceLeDiff]; rfl) | (simp (disch := omega) only [go_sem, if_yes, if_no, ↓reduceIte, Nat.reduceAdd, Nat.reduceMul, Nat.reduceEqDiff, Nat.reduceBEq, Nat.reduceLeDiff]))) (by (try simp only [go_sem]); repeat' (first | exact trivial | refine And.intro ?_ ?_ | rfl | (simp (disch := omega) only [go_sem, if_yes, if_no, ↓reduceIte, Nat.reduceAdd, Nat.reduceMul, Nat.reduceEqDiff, Nat.reduceBEq, Nat.reduceLeDiff]; rfl) | (simp (disch := omega) only [go_sem, if_yes, if_no, ↓reduceIte, Nat.reduceAdd, Nat.reduceMul, Nat.reduceEqDiff, Nat.reduceBEq, Nat.reduceLeDiff]))) (HOld.refl _) ?_
  rintro ⟨i, x2, gs, g2⟩ d2 ⟨hu2, hd2, hS2, hc2, j1, j2, j3, j4⟩ hd2'
  dsimp only at hu2 hd2 hS2 hc2 j1 j2 j3 j4 hd2'
  simp only [go_sem]
  by_cases hi : i < t.gs.length
  case pos =>
    have hGp := hT.g i hi
    have hsz := hGp.size
    have hat := hGp.at_
    have hj4 := j4 i (Nat.le_refl _) hi
    rcases hS2 with ⟨rfl, e⟩ | ⟨b3, rfl, q2, q3, q4⟩
    · have : gs = [] := by simpa using e
      rw [this] at j2; simp at j2; omega
    have n3b : ¬ b3 = b := fun e => by rw [e] at q3; omega
    have nb3 : ¬ b = b3 := fun e => n3b e.symm
    have hrl : ∀ r : List AV, ((gs.map Gp.row).set i r).getD i [] = r := fun r => row_set (by omega)
    repeat' (first | refine st_seq_reg rfl (by first | (simp only [go_sem, hd2, q2, j2, hj4, n3b, nb3, hrl, List.length_map, List.length_set, List.set_set, Nat.zero_add]; rfl) | rfl) (by first | (simp only [go_sem, hd2, q2, j2, hj4, n3b, nb3, hrl, List.length_map, List.length_set, List.set_set, Nat.zero_add]; rfl) | rfl) ?_ | refine st_reg rfl (by first | (simp only [go_sem, hd2, q2, j2, hj4, n3b, nb3, hrl, List.length_map, List.length_set, List.set_set, Nat.zero_add]; rfl) | rfl) (by first | (simp only [go_sem, hd2, q2, j2, hj4, n3b, nb3, hrl, List.length_map, List.length_set, List.set_set, Nat.zero_add]; rfl) | rfl) ?_ | refine st_draw rfl (by first | (simp only [go_sem, hd2, q2, j2, hj4, n3b, nb3, hrl, List.length_map, List.length_set, List.set_set, Nat.zero_add]; rfl) | rfl) (by first | (simp only [go_sem, hd2, q2, j2, hj4, n3b, nb3, hrl, List.length_map, List.length_set, List.set_set, Nat.zero_add]; rfl) | rfl) ?_ | refine st_op ?_ | refine st_det rfl (by simp (disch := omega) only [go_sem, wr_i64, if_yes, if_no, ↓reduceIte, Nat.reduceAdd, Nat.reduceMul, Nat.reduceEqDiff, Nat.reduceBEq, Nat.reduceLeDiff, hd2, q2, j2, hj4, n3b, nb3, hrl, List.length_map, List.length_set, List.set_set, Nat.zero_add]; rfl) ?_ | refine st_dop rfl ?_ | refine st_store (by simp (disch := omega) only [go_sem, wr_i64, if_yes, if_no, ↓reduceIte, Nat.reduceAdd, Nat.reduceMul, Nat.reduceEqDiff, Nat.reduceBEq, Nat.reduceLeDiff, hd2, q2, j2, hj4, n3b, nb3, hrl, List.length_map, List.length_set, List.set_set, Nat.zero_add]; rfl) ?_ | (refine st_drum (by first | (simp (disch := omega) only [go_sem, hd2, q2, j2, hj4, n3b, nb3, hrl, List.length_map, List.length_set, List.set_set, Nat.zero_add]; rfl) | rfl) rfl (c40 b (gp t.gs i).lo (gp t.gs i).hi (by omega) (by omega)) (by first | (simp (disch := omega) only [go_sem, hd2, q2, j2, hj4, n3b, nb3, hrl, List.length_map, List.length_set, List.set_set, Nat.zero_add]; rfl) | rfl) (by assumption) (by first | (simp only [go_sem, hd2, q2, j2, hj4, n3b, nb3, hrl, List.length_map, List.length_set, List.set_set, Nat.zero_add]; rfl) | rfl) (by intro x' n; first | (simp (disch := omega) only [go_sem]; rfl) | rfl) ?_; rintro v x' n hu' ⟨a1, a2, rfl, ha⟩ hn) | (refine st_drum (by first | (simp (disch := omega) only [go_sem, hd2, q2, j2, hj4, n3b, nb3, hrl, List.length_map, List.length_set, List.set_set, Nat.zero_add]; rfl) | rfl) rfl (c40 b (gp t.gs i).alo (gp t.gs i).ahi (by omega) (by omega)) (by first | (simp (disch := omega) only [go_sem, hd2, q2, j2, hj4, n3b, nb3, hrl, List.length_map, List.length_set, List.set_set, Nat.zero_add]; rfl) | rfl) (by assumption) (by first | (simp only [go_sem, hd2, q2, j2, hj4, n3b, nb3, hrl, List.length_map, List.length_set, List.set_set, Nat.zero_add]; rfl) | rfl) (by intro x' n; first | (simp (disch := omega) only [go_sem]; rfl) | rfl) ?_; rintro v x' n hu' ⟨b1, b2, rfl, hb⟩ hn) | (refine st_condS rfl ?_ ?_ <;> intro hg <;> (try simp only [decide_eq_true_eq, decide_eq_false_iff_not, Bool.not_eq_true', Bool.not_eq_false'] at hg)) | refine st_nil ?_ | refine st_dnil ?_ | refine st_tN ?_ | refine st_seq ?_ | refine st_block ?_ | refine st_skip ?_ | refine st_exit ?_ | refine st_tE ?_ | refine st_bN ?_ | refine st_bH ?_)
    all_goals try (exfalso; omega)
    have hst := grp_step (y := ⟨a1, a2, b1, b2, (gp t.gs i).stay, (gp t.gs i).first, (gp t.gs i).path⟩) j2 hi j3 j4 ⟨rfl, rfl, rfl, ha.1, ha.2.1, ha.2.2, hb.1, hb.2.1, hb.2.2⟩
    refine ⟨⟨i + 1, x', gs.set i ⟨a1, a2, b1, b2, (gp t.gs i).stay, (gp t.gs i).first, (gp t.gs i).path⟩, _⟩, (by refine ⟨by assumption, by simp only [go_sem, nb3, ↓reduceIte], .inr ⟨b3, by rw [List.length_map, List.length_map, List.length_set], by simp only [go_sem, ↓reduceIte]; rw [List.map_set]; rfl, q3, by simp only [go_sem]; omega⟩, by simp only [go_sem]; omega, by show i + 1 ≤ _; omega, hst.1, hst.2.1, hst.2.2⟩), by show t.gs.length - (i + 1) < t.gs.length - i; omega, (by (try (try simp only [go_sem, j2, List.length_map])); repeat' (first | exact trivial | refine And.intro ?_ ?_ | rfl | (simp (disch := omega) only [go_sem, if_yes, if_no, ↓reduceIte, Nat.reduceAdd, Nat.reduceMul, Nat.reduceEqDiff, Nat.reduceBEq, Nat.reduceLeDiff]; rfl) | (simp (disch := omega) only [go_sem, if_yes, if_no, ↓reduceIte, Nat.reduceAdd, Nat.reduceMul, Nat.reduceEqDiff, Nat.reduceBEq, Nat.reduceLeDiff]))), (by (try (try simp only [go_sem, j2, List.length_map])); repeat' (first | exact trivial | refine And.intro ?_ ?_ | rfl | (simp (disch := omega) only [go_sem, if_yes, if_no, ↓reduceIte, Nat.reduceAdd, Nat.reduceMul, Nat.reduceEqDiff, Nat.reduceBEq, Nat.reduceLeDiff]; rfl) | (simp (disch := omega) only [go_sem, if_yes, if_no, ↓reduceIte, Nat.reduceAdd, Nat.reduceMul, Nat.reduceEqDiff, Nat.reduceBEq, Nat.reduceLeDiff]))), rfl, HOld.refl _⟩
  obtain rfl : i = t.gs.length := by omega
  have hlen : alen (tt 24) gv = some (t.gs.length : Int) := by
    rcases hS2 with ⟨e1, e⟩ | ⟨b3, e1, _⟩
    · have e2 : gs = [] := by simpa using e
      rw [e1, ← j2, e2]; rfl
    · rw [e1, List.length_map, j2]; rfl
  repeat' (first | refine st_seq_reg rfl (by first | (simp only [go_sem, hlen]; rfl) | rfl) (by first | (simp only [go_sem, hlen]; rfl) | rfl) ?_ | refine st_draw rfl (by first | (simp only [go_sem, hlen]; rfl) | rfl) (by first | (simp only [go_sem, hlen]; rfl) | rfl) ?_ | refine st_op ?_ | refine st_det rfl (by simp (disch := omega) only [go_sem, wr_i64, if_yes, if_no, ↓reduceIte, Nat.reduceAdd, Nat.reduceMul, Nat.reduceEqDiff, Nat.reduceBEq, Nat.reduceLeDiff, hlen]; rfl) ?_ | refine st_dop rfl ?_ | (refine st_condS rfl ?_ ?_ <;> intro hg <;> (try simp only [decide_eq_true_eq, decide_eq_false_iff_not, Bool.not_eq_true', Bool.not_eq_false'] at hg)) | refine st_nil ?_ | refine st_tN ?_ | refine st_seq ?_ | refine st_block ?_ | refine st_skip ?_ | refine st_exit ?_ | refine st_tE ?_ | refine st_bH ?_)
  all_goals try (exfalso; omega)
  refine st_free ?_
  refine ASem.cutX (N7, 7) (fun b' => ∃ m, gv = .slc b' 7 0 m) (cs := [.lst 1 (t.rooms.map iv), .lst 2 (t.sts.map Sx.row), gv, .int .i64 t.steps]) (cs' := [.lst 1 (t.rooms.map iv), .lst 2 (t.sts.map Sx.row), .lst 7 (gs.map Gp.row), .int .i64 t.steps]) (by first | exact upd_same _ _ _ | (rw [upd_ne _ _ (ne_snd (by decide))]; exact upd_same _ _ _)) ?_ fun H2 h2a h2b h2c => ?_
  · rcases hS2 with ⟨e1, e⟩ | ⟨b3, e1, q2, q3, q4⟩
    · refine .inl ⟨?_, fun _ => rfl⟩
      rw [e1, e]
      simp only [VLes]; exact ⟨_, _, rfl, .refl _, _, _, rfl, .refl _, _, _, rfl, VLe.nils 7, _, _, rfl, .refl _, rfl⟩
    · refine .inr ⟨b3, ⟨7, gs.map Gp.row⟩, by simp only [go_sem]; exact q2, ?_, _, e1⟩
      rw [e1]
      simp only [frzs]
      rw [frz_sx, frz_lst]
      have e2 : frz b3 ⟨7, gs.map Gp.row⟩ (.lst 1 (t.rooms.map iv)) = .lst 1 (t.rooms.map iv) := by
        simp only [frz, frzss_map, List.map_map]
        congr 1
      rw [e2]; rfl
  clear h2a h2b h2c hlen hS2 hd2
  obtain ⟨u, hu⟩ : ∃ u : Tw, u = ⟨t.rooms, t.sts, gs, t.steps⟩ := ⟨_, rfl⟩
  have hU : TwLe u t := by rw [hu]; exact ⟨rfl, rfl, rfl, fun _ _ => Int.le_refl _, j2, j3⟩
  have hTu := hU.ok hT fun k hk => by have := hT.room k hk; rw [hu]; show elt t.rooms k ≤ 1000000; omega
  have hCu : ClOk u c u.sts.length := by rw [hu]; exact ⟨hC.len, hC.bd, hC.up⟩
  have hcEu := hCu.cloE (chkE_ok hTu)
  have hugl : u.gs.length = t.gs.length := hU.gl
  have hurl : u.rooms.length = t.rooms.length := hU.rl
  have hus : u.steps = t.steps := hU.steps
  have k32 : Pure Try.prog 32 [t.av, .lst 1 (c.map iv), .int .i64 (S : Nat)] (fun v => v = .tup [.lst 2 (ldR t (cls c) (S : Nat) t.rooms.length), .int .i64 0]) := by
    have k := c32 t c (S : Nat) (by omega)
    unfold ldsR at k
    rw [if_neg (fun e => e hcE), if_neg (fun e => e ⟨by omega, by omega⟩)] at k
    exact k
  have k32u : Pure Try.prog 32 [u.av, .lst 1 (c.map iv), .int .i64 (S : Nat)] (fun v => v = .tup [.lst 2 (ldR u (cls c) (S : Nat) t.rooms.length), .int .i64 0]) := by
    have k := c32 u c (S : Nat) (by omega)
    unfold ldsR at k
    rw [if_neg (fun e => e hcEu), if_neg (fun e => e ⟨by omega, by omega⟩), hurl] at k
    exact k
  have huav : u.av = .agg [.lst 1 (t.rooms.map iv), .lst 2 (t.sts.map Sx.row), .lst 7 (gs.map Gp.row), .int .i64 t.steps] := by rw [hu]; rfl
  rw [huav] at k32u
  have hll := ldR_len t (cls c) (S : Nat) t.rooms.length
  have hllu := ldR_len u (cls c) (S : Nat) t.rooms.length
  have hld : ∀ (w : Tw) (q : Nat), q < t.rooms.length → (ldR w (cls c) (S : Nat) t.rooms.length).getD q [] = [.int .i64 (ldLo w (cls c) (q : Nat) (S : Nat)), .int .i64 (ldHi w (cls c) (q : Nat) (S : Nat))] := fun w q hq => by
    unfold ldR
    rw [List.getD_eq_getElem?_getD, List.getElem?_map, List.getElem?_range hq]; rfl
  have hldt := hld t
  have hldu := hld u
  have hin : ∀ q : Nat, ldLo t (cls c) (q : Nat) (S : Nat) ≤ ldLo u (cls c) (q : Nat) (S : Nat) ∧ ldHi u (cls c) (q : Nat) (S : Nat) ≤ ldHi t (cls c) (q : Nat) (S : Nat) := fun q =>
    ⟨hU.ldLo (fun i hi => by have := (hT.g i hi).size; omega) (cls c) _ _, hU.ldHi (fun i hi => by have := (hT.g i hi).size; omega) (cls c) _ _⟩
  have hwh : ∀ g : Nat, g < t.gs.length → whV t c (g : Nat) (S : Nat) = .tup [.lst 1 ((whN t (cls c) (gp t.gs g) (S : Nat) t.rooms.length).map iv), .bool (someB t (cls c) (gp t.gs g) (-1) (S : Nat)), .int .i64 0] := fun g hg => by
    unfold whV; rw [if_neg (fun e => e hcE), if_neg (fun e => e ⟨by omega, by omega⟩), if_neg (fun e => e ⟨by omega, by omega⟩)]; rfl
  have hwhu : ∀ g : Nat, g < t.gs.length → whV u c (g : Nat) (S : Nat) = .tup [.lst 1 ((whN u (cls c) (gp u.gs g) (S : Nat) t.rooms.length).map iv), .bool (someB u (cls c) (gp u.gs g) (-1) (S : Nat)), .int .i64 0] := fun g hg => by
    unfold whV; rw [if_neg (fun e => e hcEu), if_neg (fun e => e ⟨by omega, by omega⟩), if_neg (fun e => e ⟨by omega, by omega⟩), hurl]; rfl
  clear hld hugl hus
  generalize hLt : ldR t (cls c) (S : Nat) t.rooms.length = LT at *
  generalize hLu : ldR u (cls c) (S : Nat) t.rooms.length = LU at *
  clear hLt hLu
  refine st_run tab mixed (f2 := ⟨173, [4, 7], [], none, [(3, [0, 0, 3, 0, 0, 16, 48, 127, 255, 511], [(0, false), (1, true), (3, false), (4, false), (5, true), (6, false), (2, false), (7, false), (8, false), (9, false)]), (8, [0, 1, 0, 0, 8, 0, 0, 0, 128, 0, 896, 1920, 3968, 8128, 0, 0, 32768, 0, 229376, 491520, 1015808, 2097088, 4194247, 8388551, 16777159, 33554431, 67108863, 134217727], [(0, false), (1, true), (2, false), (3, false), (4, true), (5, false), (6, false), (7, false), (8, true), (9, false), (10, false), (11, false), (12, true), (14, false), (15, false), (16, true), (17, false), (18, false), (19, false), (20, true), (13, false), (21, false), (22, false), (23, false), (24, true), (25, false), (26, false), (27, false)]), (16, [0, 0, 3, 7, 0, 0, 48, 112, 255, 511], [(0, false), (1, false), (2, false), (3, true), (4, false), (5, false), (6, false), (7, true), (8, false), (9, false)])]⟩) rfl rfl (by decide) ?_
  repeat' (first | refine st_seq_reg rfl (by first | (simp only [go_sem, List.length_map, hll, hllu, not_true_eq_false, decide_false, Bool.false_eq_true]; rfl) | rfl) (by first | (simp only [go_sem, List.length_map, hll, hllu, not_true_eq_false, decide_false, Bool.false_eq_true]; rfl) | rfl) ?_ | refine st_reg rfl (by first | (simp only [go_sem, List.length_map, hll, hllu, not_true_eq_false, decide_false, Bool.false_eq_true]; rfl) | rfl) (by first | (simp only [go_sem, List.length_map, hll, hllu, not_true_eq_false, decide_false, Bool.false_eq_true]; rfl) | rfl) ?_ | refine st_op ?_ | refine st_det rfl (by simp (disch := omega) only [go_sem, wr_i64, if_yes, if_no, ↓reduceIte, Nat.reduceAdd, Nat.reduceMul, Nat.reduceEqDiff, Nat.reduceBEq, Nat.reduceLeDiff, List.length_map, hll, hllu, not_true_eq_false, decide_false, Bool.false_eq_true]; rfl) ?_ | (refine st_pureE (by first | (simp (disch := omega) only [go_sem, List.length_map, hll, hllu, not_true_eq_false, decide_false, Bool.false_eq_true]; rfl) | rfl) rfl (k32u) (by first | (simp only [go_sem, List.length_map, hll, hllu, not_true_eq_false, decide_false, Bool.false_eq_true]; rfl) | rfl) (by intro n; first | (simp (disch := omega) only [go_sem]; rfl) | rfl) ?_; intro n hn) | (refine st_pureE (by first | (simp (disch := omega) only [go_sem, List.length_map, hll, hllu, not_true_eq_false, decide_false, Bool.false_eq_true]; rfl) | rfl) rfl (k32) (by first | (simp only [go_sem, List.length_map, hll, hllu, not_true_eq_false, decide_false, Bool.false_eq_true]; rfl) | rfl) (by intro n; first | (simp (disch := omega) only [go_sem]; rfl) | rfl) ?_; intro n hn) | refine st_gT rfl rfl rfl ?_ | refine st_condF rfl ?_ | refine st_nil ?_ | refine st_tN ?_ | refine st_seq ?_ | refine st_block ?_ | refine st_skip ?_)
  all_goals try (exfalso; omega)
  refine st_loopC (α := Nat) tab mixed [] [] (by repeat (first | exact trivial | refine ⟨rfl, ?_⟩)) [4, 7] [_, _] (by repeat (first | exact trivial | refine ⟨rfl, ?_⟩)) (fun q => [(13, .int .i64 (q : Nat))]) [(4, _), (5, _), (6, _), (7, _), (9, _), (11, _)] (fun _ => []) [_, _] (fun q => q ≤ t.rooms.length) (fun q => t.rooms.length - q) (by decide) 0 (Nat.zero_le _) (by (try simp only [go_sem]); repeat' (first | exact trivial | refine And.intro ?_ ?_ | rfl | (simp (disch := omega) only [go_sem, if_yes, if_no, ↓reduceIte, Nat.reduceAdd, Nat.reduceMul, Nat.reduceEqDiff, Nat.reduceBEq, Nat.reduceLeDiff]; rfl) | (simp (disch := omega) only [go_sem, if_yes, if_no, ↓reduceIte, Nat.reduceAdd, Nat.reduceMul, Nat.reduceEqDiff, Nat.reduceBEq, Nat.reduceLeDiff]))) (by (try simp only [go_sem]); repeat' (first | exact trivial | refine And.intro ?_ ?_ | rfl | (simp (disch := omega) only [go_sem, if_yes, if_no, ↓reduceIte, Nat.reduceAdd, Nat.reduceMul, Nat.reduceEqDiff, Nat.reduceBEq, Nat.reduceLeDiff]; rfl) | (simp (disch := omega) only [go_sem, if_yes, if_no, ↓reduceIte, Nat.reduceAdd, Nat.reduceMul, Nat.reduceEqDiff, Nat.reduceBEq, Nat.reduceLeDiff]))) (by first | (simp only [go_sem]; rfl) | rfl) (by intro n; simp only [go_sem]; rfl) ?_
  rintro q d3 hq hd3
  simp only [go_sem]
  by_cases hqR : q < t.rooms.length
  case pos =>
    have hldq := hldt q hqR
    have hlduq := hldu q hqR
    have k44 := c44 (ldLo u (cls c) (q : Nat) (S : Nat)) (ldHi u (cls c) (q : Nat) (S : Nat)) (ldLo t (cls c) (q : Nat) (S : Nat)) (ldHi t (cls c) (q : Nat) (S : Nat))
    rw [decide_eq_true (hin q)] at k44
    repeat' (first | refine st_seq_reg rfl (by first | (simp only [go_sem, hll, hllu, hldq, hlduq]; rfl) | rfl) (by first | (simp only [go_sem, hll, hllu, hldq, hlduq]; rfl) | rfl) ?_ | refine st_reg rfl (by first | (simp only [go_sem, hll, hllu, hldq, hlduq]; rfl) | rfl) (by first | (simp only [go_sem, hll, hllu, hldq, hlduq]; rfl) | rfl) ?_ | refine st_seq_draw rfl (by first | (simp only [go_sem, hll, hllu, hldq, hlduq]; rfl) | rfl) (by first | (simp only [go_sem, hll, hllu, hldq, hlduq]; rfl) | rfl) ?_ | refine st_op ?_ | refine st_det rfl (by simp (disch := omega) only [go_sem, wr_i64, if_yes, if_no, ↓reduceIte, Nat.reduceAdd, Nat.reduceMul, Nat.reduceEqDiff, Nat.reduceBEq, Nat.reduceLeDiff, hll, hllu, hldq, hlduq]; rfl) ?_ | refine st_dop rfl ?_ | (refine st_pureE (by first | (simp (disch := omega) only [go_sem, hll, hllu, hldq, hlduq]; rfl) | rfl) rfl (k44) (by first | (simp only [go_sem, hll, hllu, hldq, hlduq]; rfl) | rfl) (by intro n; first | (simp (disch := omega) only [go_sem]; rfl) | rfl) ?_; intro n hn) | refine st_condF rfl ?_ | (refine st_condS rfl ?_ ?_ <;> intro hg <;> (try simp only [decide_eq_true_eq, decide_eq_false_iff_not, Bool.not_eq_true', Bool.not_eq_false'] at hg)) | refine st_nil ?_ | refine st_dnil ?_ | refine st_tN ?_ | refine st_seq ?_ | refine st_block ?_ | refine st_skip ?_ | refine st_exit ?_ | refine st_tE ?_ | refine st_bN ?_ | refine st_bH ?_)
    all_goals try (exfalso; omega)
    refine ⟨q + 1, by show q + 1 ≤ _; omega, by show t.rooms.length - (q + 1) < t.rooms.length - q; omega, (by repeat' (first | exact trivial | refine And.intro ?_ ?_ | rfl | (simp (disch := omega) only [go_sem, if_yes, if_no, ↓reduceIte, Nat.reduceAdd, Nat.reduceMul, Nat.reduceEqDiff, Nat.reduceBEq, Nat.reduceLeDiff]; rfl) | (simp (disch := omega) only [go_sem, if_yes, if_no, ↓reduceIte, Nat.reduceAdd, Nat.reduceMul, Nat.reduceEqDiff, Nat.reduceBEq, Nat.reduceLeDiff]))), (by repeat' (first | exact trivial | refine And.intro ?_ ?_ | rfl | (simp (disch := omega) only [go_sem, if_yes, if_no, ↓reduceIte, Nat.reduceAdd, Nat.reduceMul, Nat.reduceEqDiff, Nat.reduceBEq, Nat.reduceLeDiff]; rfl) | (simp (disch := omega) only [go_sem, if_yes, if_no, ↓reduceIte, Nat.reduceAdd, Nat.reduceMul, Nat.reduceEqDiff, Nat.reduceBEq, Nat.reduceLeDiff]))), rfl, (by first | exact HOld.of _ (by omega) | exact HOld.put _ _ _ (by omega))⟩
  obtain rfl : q = t.rooms.length := by omega
  repeat' (first | refine st_seq_reg rfl (by first | (simp only [go_sem, hll]; rfl) | rfl) (by first | (simp only [go_sem, hll]; rfl) | rfl) ?_ | refine st_seq_draw rfl (by first | (simp only [go_sem, hll]; rfl) | rfl) (by first | (simp only [go_sem, hll]; rfl) | rfl) ?_ | refine st_op ?_ | refine st_det rfl (by simp (disch := omega) only [go_sem, wr_i64, if_yes, if_no, ↓reduceIte, Nat.reduceAdd, Nat.reduceMul, Nat.reduceEqDiff, Nat.reduceBEq, Nat.reduceLeDiff, hll]; rfl) ?_ | refine st_dop rfl ?_ | (refine st_condS rfl ?_ ?_ <;> intro hg <;> (try simp only [decide_eq_true_eq, decide_eq_false_iff_not, Bool.not_eq_true', Bool.not_eq_false'] at hg)) | refine st_nil ?_ | refine st_tN ?_ | refine st_seq ?_ | refine st_block ?_ | refine st_skip ?_ | refine st_exit ?_ | refine st_tE ?_ | refine st_bH ?_)
  all_goals try (exfalso; omega)
  refine st_loopC (α := Nat) tab mixed [] [] (by repeat (first | exact trivial | refine ⟨rfl, ?_⟩)) [4, 7] [_, _] (by repeat (first | exact trivial | refine ⟨rfl, ?_⟩)) (fun g => [(14, .int .i64 (g : Nat))]) [(4, _), (5, _), (6, _), (7, _), (9, _), (11, _)] (fun _ => []) [_, _] (fun g => g ≤ t.gs.length) (fun g => t.gs.length - g) (by decide) 0 (Nat.zero_le _) (by (try simp only [go_sem]); repeat' (first | exact trivial | refine And.intro ?_ ?_ | rfl | (simp (disch := omega) only [go_sem, if_yes, if_no, ↓reduceIte, Nat.reduceAdd, Nat.reduceMul, Nat.reduceEqDiff, Nat.reduceBEq, Nat.reduceLeDiff]; rfl) | (simp (disch := omega) only [go_sem, if_yes, if_no, ↓reduceIte, Nat.reduceAdd, Nat.reduceMul, Nat.reduceEqDiff, Nat.reduceBEq, Nat.reduceLeDiff]))) (by (try simp only [go_sem]); repeat' (first | exact trivial | refine And.intro ?_ ?_ | rfl | (simp (disch := omega) only [go_sem, if_yes, if_no, ↓reduceIte, Nat.reduceAdd, Nat.reduceMul, Nat.reduceEqDiff, Nat.reduceBEq, Nat.reduceLeDiff]; rfl) | (simp (disch := omega) only [go_sem, if_yes, if_no, ↓reduceIte, Nat.reduceAdd, Nat.reduceMul, Nat.reduceEqDiff, Nat.reduceBEq, Nat.reduceLeDiff]))) (by first | (simp only [go_sem]; rfl) | rfl) (by intro n; simp only [go_sem]; rfl) ?_
  rintro g d4 hg hd4
  simp only [go_sem]
  by_cases hgl : g < t.gs.length
  case neg =>
    obtain rfl : g = t.gs.length := by omega
    repeat' (first | refine st_seq_reg rfl (by first | (simp only [go_sem, List.length_map]; rfl) | rfl) (by first | (simp only [go_sem, List.length_map]; rfl) | rfl) ?_ | refine st_op ?_ | refine st_det rfl (by simp (disch := omega) only [go_sem, wr_i64, if_yes, if_no, ↓reduceIte, Nat.reduceAdd, Nat.reduceMul, Nat.reduceEqDiff, Nat.reduceBEq, Nat.reduceLeDiff, List.length_map]; rfl) ?_ | (refine st_pureE (by first | (simp (disch := omega) only [go_sem, List.length_map]; rfl) | rfl) rfl (k15) (by first | (simp only [go_sem, List.length_map]; rfl) | rfl) (by intro n; first | (simp (disch := omega) only [go_sem]; rfl) | rfl) ?_; intro n hn) | (refine st_condS rfl ?_ ?_ <;> intro hg <;> (try simp only [decide_eq_true_eq, decide_eq_false_iff_not, Bool.not_eq_true', Bool.not_eq_false'] at hg)) | refine st_nil ?_ | refine st_tN ?_ | refine st_seq ?_ | refine st_block ?_ | refine st_skip ?_ | refine st_exit ?_ | refine st_ret ?_ | refine st_tE ?_ | refine st_bH ?_)
    all_goals try (exfalso; omega)
    all_goals
      simp (disch := omega) only [AEnd, Try.results9, aresK, fin, go_sem, ↓reduceIte, Nat.reduceEqDiff, Nat.reduceAdd, Nat.reduceLeDiff, if_yes, if_no, implies_true, true_and, and_true, List.reverse_cons, List.reverse_nil]
  have k45 := c45 t c (g : Nat) (S : Nat) (by omega)
  rw [hwh g hgl] at k45
  have k45u := c45 u c (g : Nat) (S : Nat) (by omega)
  rw [hwhu g hgl, huav] at k45u
  have hlss : someB u (cls c) (gp u.gs g) (-1) (S : Nat) = true → someB t (cls c) (gp t.gs g) (-1) (S : Nat) = true := fun e => hU.some (cls c) hgl e
  have hemp := wh_some hTu (hTu.g g (by rw [hU.gl]; exact hgl)) c (st := (S : Nat))
  rw [hurl] at hemp
  have hsub : ∀ x, x ∈ whN u (cls c) (gp u.gs g) (S : Nat) t.rooms.length → x ∈ whN t (cls c) (gp t.gs g) (S : Nat) t.rooms.length := fun x hx => hU.wh (cls c) hgl hx
  have hWl := whN_len (t := t) (s := cls c) (g := gp t.gs g) (st := (S : Nat)) t.rooms.length
  have hWul := whN_len (t := u) (s := cls c) (g := gp u.gs g) (st := (S : Nat)) t.rooms.length
  generalize whN t (cls c) (gp t.gs g) (S : Nat) t.rooms.length = W at *
  generalize whN u (cls c) (gp u.gs g) (S : Nat) t.rooms.length = Wu at *
  generalize someB t (cls c) (gp t.gs g) (-1) (S : Nat) = at_ at *
  generalize someB u (cls c) (gp u.gs g) (-1) (S : Nat) = au at *
  have hWn : au = false → ¬ (Wu.length : Int) = 0 := fun e1 e2 => by
    have : Wu = [] := List.eq_nil_of_length_eq_zero (by omega)
    rw [hemp this] at e1; cases e1
  clear hemp
  have tail : ∀ j : Nat, j < Wu.length → W.contains (elt Wu j) = true := fun j hj => List.contains_iff_mem.2 (hsub _ (elt_mem hj))
  cases au with
  | true =>
    have hat := hlss rfl
    subst hat
    repeat' (first | refine st_seq_reg rfl (by first | (simp only [go_sem, List.length_map, not_true_eq_false, decide_false, Bool.false_eq_true]; rfl) | rfl) (by first | (simp only [go_sem, List.length_map, not_true_eq_false, decide_false, Bool.false_eq_true]; rfl) | rfl) ?_ | refine st_op ?_ | refine st_det rfl (by simp (disch := omega) only [go_sem, wr_i64, if_yes, if_no, ↓reduceIte, Nat.reduceAdd, Nat.reduceMul, Nat.reduceEqDiff, Nat.reduceBEq, Nat.reduceLeDiff, List.length_map, not_true_eq_false, decide_false, Bool.false_eq_true]; rfl) ?_ | (refine st_pureE (by first | (simp (disch := omega) only [go_sem, List.length_map, not_true_eq_false, decide_false, Bool.false_eq_true]; rfl) | rfl) rfl (k45u) (by first | (simp only [go_sem, List.length_map, not_true_eq_false, decide_false, Bool.false_eq_true]; rfl) | rfl) (by intro n; first | (simp (disch := omega) only [go_sem]; rfl) | rfl) ?_; intro n hn) | (refine st_pureE (by first | (simp (disch := omega) only [go_sem, List.length_map, not_true_eq_false, decide_false, Bool.false_eq_true]; rfl) | rfl) rfl (k45) (by first | (simp only [go_sem, List.length_map, not_true_eq_false, decide_false, Bool.false_eq_true]; rfl) | rfl) (by intro n; first | (simp (disch := omega) only [go_sem]; rfl) | rfl) ?_; intro n hn) | refine st_gT rfl rfl rfl ?_ | refine st_gF rfl rfl rfl ?_ | (refine st_gS rfl rfl ?_ ?_ <;> intro hg <;> (try simp only [decide_eq_true_eq, decide_eq_false_iff_not, Bool.not_eq_true', Bool.not_eq_false'] at hg)) | refine st_condF rfl ?_ | (refine st_condS rfl ?_ ?_ <;> intro hg <;> (try simp only [decide_eq_true_eq, decide_eq_false_iff_not, Bool.not_eq_true', Bool.not_eq_false'] at hg)) | refine st_nil ?_ | refine st_tN ?_ | refine st_seq ?_ | refine st_block ?_ | refine st_skip ?_ | refine st_exit ?_ | refine st_tE ?_ | refine st_bH ?_)
    all_goals try (exfalso; omega)
    all_goals
      refine st_loopC (α := Nat) tab mixed [] [] (by repeat (first | exact trivial | refine ⟨rfl, ?_⟩)) [4, 7] [_, _] (by repeat (first | exact trivial | refine ⟨rfl, ?_⟩)) (fun j => [(21, .int .i64 (j : Nat))]) [(4, _), (5, _), (6, _), (7, _), (9, _), (11, _), (14, _), (15, _), (18, _)] (fun _ => []) [_, _] (fun j => j ≤ Wu.length) (fun j => Wu.length - j) (by decide) 0 (Nat.zero_le _) (by (try simp only [go_sem]); repeat' (first | exact trivial | refine And.intro ?_ ?_ | rfl | (simp (disch := omega) only [go_sem, if_yes, if_no, ↓reduceIte, Nat.reduceAdd, Nat.reduceMul, Nat.reduceEqDiff, Nat.reduceBEq, Nat.reduceLeDiff]; rfl) | (simp (disch := omega) only [go_sem, if_yes, if_no, ↓reduceIte, Nat.reduceAdd, Nat.reduceMul, Nat.reduceEqDiff, Nat.reduceBEq, Nat.reduceLeDiff]))) (by (try simp only [go_sem]); repeat' (first | exact trivial | refine And.intro ?_ ?_ | rfl | (simp (disch := omega) only [go_sem, if_yes, if_no, ↓reduceIte, Nat.reduceAdd, Nat.reduceMul, Nat.reduceEqDiff, Nat.reduceBEq, Nat.reduceLeDiff]; rfl) | (simp (disch := omega) only [go_sem, if_yes, if_no, ↓reduceIte, Nat.reduceAdd, Nat.reduceMul, Nat.reduceEqDiff, Nat.reduceBEq, Nat.reduceLeDiff]))) (by first | (simp only [go_sem]; rfl) | rfl) (by intro n; simp only [go_sem]; rfl) ?_
      rintro j d5 hj hd5
      simp only [go_sem]
      by_cases hjl : j < Wu.length
      case pos =>
        have k46 := c46 W (elt Wu j) (by omega)
        rw [tail j hjl] at k46
        repeat' (first | refine st_seq_reg rfl (by first | (simp only [go_sem, List.length_map]; rfl) | rfl) (by first | (simp only [go_sem, List.length_map]; rfl) | rfl) ?_ | refine st_reg rfl (by first | (simp only [go_sem, List.length_map]; rfl) | rfl) (by first | (simp only [go_sem, List.length_map]; rfl) | rfl) ?_ | refine st_op ?_ | refine st_det rfl (by simp (disch := omega) only [go_sem, wr_i64, if_yes, if_no, ↓reduceIte, Nat.reduceAdd, Nat.reduceMul, Nat.reduceEqDiff, Nat.reduceBEq, Nat.reduceLeDiff, List.length_map]; rfl) ?_ | (refine st_pureE (by first | (simp (disch := omega) only [go_sem, List.length_map]; rfl) | rfl) rfl (k46) (by first | (simp only [go_sem, List.length_map]; rfl) | rfl) (by intro n; first | (simp (disch := omega) only [go_sem]; rfl) | rfl) ?_; intro n hn) | refine st_condF rfl ?_ | (refine st_condS rfl ?_ ?_ <;> intro hg <;> (try simp only [decide_eq_true_eq, decide_eq_false_iff_not, Bool.not_eq_true', Bool.not_eq_false'] at hg)) | refine st_nil ?_ | refine st_tN ?_ | refine st_seq ?_ | refine st_block ?_ | refine st_skip ?_ | refine st_exit ?_ | refine st_tE ?_ | refine st_bN ?_ | refine st_bH ?_)
        all_goals try (exfalso; omega)
        all_goals
          refine ⟨j + 1, by show j + 1 ≤ _; omega, by show Wu.length - (j + 1) < Wu.length - j; omega, (by repeat' (first | exact trivial | refine And.intro ?_ ?_ | rfl | (simp (disch := omega) only [go_sem, if_yes, if_no, ↓reduceIte, Nat.reduceAdd, Nat.reduceMul, Nat.reduceEqDiff, Nat.reduceBEq, Nat.reduceLeDiff]; rfl) | (simp (disch := omega) only [go_sem, if_yes, if_no, ↓reduceIte, Nat.reduceAdd, Nat.reduceMul, Nat.reduceEqDiff, Nat.reduceBEq, Nat.reduceLeDiff]))), (by repeat' (first | exact trivial | refine And.intro ?_ ?_ | rfl | (simp (disch := omega) only [go_sem, if_yes, if_no, ↓reduceIte, Nat.reduceAdd, Nat.reduceMul, Nat.reduceEqDiff, Nat.reduceBEq, Nat.reduceLeDiff]; rfl) | (simp (disch := omega) only [go_sem, if_yes, if_no, ↓reduceIte, Nat.reduceAdd, Nat.reduceMul, Nat.reduceEqDiff, Nat.reduceBEq, Nat.reduceLeDiff]))), rfl, (by first | exact HOld.of _ (by omega) | exact HOld.put _ _ _ (by omega))⟩
      obtain rfl : j = Wu.length := by omega
      repeat' (first | refine st_seq_reg rfl (by first | (simp only [go_sem, List.length_map]; rfl) | rfl) (by first | (simp only [go_sem, List.length_map]; rfl) | rfl) ?_ | refine st_reg rfl (by first | (simp only [go_sem, List.length_map]; rfl) | rfl) (by first | (simp only [go_sem, List.length_map]; rfl) | rfl) ?_ | refine st_op ?_ | refine st_det rfl (by simp (disch := omega) only [go_sem, wr_i64, if_yes, if_no, ↓reduceIte, Nat.reduceAdd, Nat.reduceMul, Nat.reduceEqDiff, Nat.reduceBEq, Nat.reduceLeDiff, List.length_map]; rfl) ?_ | (refine st_condS rfl ?_ ?_ <;> intro hg <;> (try simp only [decide_eq_true_eq, decide_eq_false_iff_not, Bool.not_eq_true', Bool.not_eq_false'] at hg)) | refine st_nil ?_ | refine st_tN ?_ | refine st_seq ?_ | refine st_block ?_ | refine st_skip ?_ | refine st_exit ?_ | refine st_tE ?_ | refine st_bN ?_ | refine st_bH ?_)
      all_goals try (exfalso; omega)
      refine ⟨g + 1, by show g + 1 ≤ _; omega, by show t.gs.length - (g + 1) < t.gs.length - g; omega, (by repeat' (first | exact trivial | refine And.intro ?_ ?_ | rfl | (simp (disch := omega) only [go_sem, if_yes, if_no, ↓reduceIte, Nat.reduceAdd, Nat.reduceMul, Nat.reduceEqDiff, Nat.reduceBEq, Nat.reduceLeDiff]; rfl) | (simp (disch := omega) only [go_sem, if_yes, if_no, ↓reduceIte, Nat.reduceAdd, Nat.reduceMul, Nat.reduceEqDiff, Nat.reduceBEq, Nat.reduceLeDiff]))), (by repeat' (first | exact trivial | refine And.intro ?_ ?_ | rfl | (simp (disch := omega) only [go_sem, if_yes, if_no, ↓reduceIte, Nat.reduceAdd, Nat.reduceMul, Nat.reduceEqDiff, Nat.reduceBEq, Nat.reduceLeDiff]; rfl) | (simp (disch := omega) only [go_sem, if_yes, if_no, ↓reduceIte, Nat.reduceAdd, Nat.reduceMul, Nat.reduceEqDiff, Nat.reduceBEq, Nat.reduceLeDiff]))), rfl, (by first | exact HOld.of _ (by omega) | exact HOld.put _ _ _ (by omega))⟩
  | false =>
    have hWn' := hWn rfl
    clear hlss
    repeat' (first | refine st_seq_reg rfl (by first | (simp only [go_sem, List.length_map, not_true_eq_false, decide_false, Bool.false_eq_true]; rfl) | rfl) (by first | (simp only [go_sem, List.length_map, not_true_eq_false, decide_false, Bool.false_eq_true]; rfl) | rfl) ?_ | refine st_op ?_ | refine st_det rfl (by simp (disch := omega) only [go_sem, wr_i64, if_yes, if_no, ↓reduceIte, Nat.reduceAdd, Nat.reduceMul, Nat.reduceEqDiff, Nat.reduceBEq, Nat.reduceLeDiff, List.length_map, not_true_eq_false, decide_false, Bool.false_eq_true]; rfl) ?_ | (refine st_pureE (by first | (simp (disch := omega) only [go_sem, List.length_map, not_true_eq_false, decide_false, Bool.false_eq_true]; rfl) | rfl) rfl (k45u) (by first | (simp only [go_sem, List.length_map, not_true_eq_false, decide_false, Bool.false_eq_true]; rfl) | rfl) (by intro n; first | (simp (disch := omega) only [go_sem]; rfl) | rfl) ?_; intro n hn) | (refine st_pureE (by first | (simp (disch := omega) only [go_sem, List.length_map, not_true_eq_false, decide_false, Bool.false_eq_true]; rfl) | rfl) rfl (k45) (by first | (simp only [go_sem, List.length_map, not_true_eq_false, decide_false, Bool.false_eq_true]; rfl) | rfl) (by intro n; first | (simp (disch := omega) only [go_sem]; rfl) | rfl) ?_; intro n hn) | refine st_gT rfl rfl rfl ?_ | refine st_gF rfl rfl rfl ?_ | (refine st_gS rfl rfl ?_ ?_ <;> intro hg <;> (try simp only [decide_eq_true_eq, decide_eq_false_iff_not, Bool.not_eq_true', Bool.not_eq_false'] at hg)) | refine st_condT rfl ?_ | refine st_condF rfl ?_ | (refine st_condS rfl ?_ ?_ <;> intro hg <;> (try simp only [decide_eq_true_eq, decide_eq_false_iff_not, Bool.not_eq_true', Bool.not_eq_false'] at hg)) | refine st_nil ?_ | refine st_tN ?_ | refine st_seq ?_ | refine st_block ?_ | refine st_skip ?_ | refine st_exit ?_ | refine st_ret ?_ | refine st_tE ?_ | refine st_tR ?_ | refine st_bR ?_ | refine st_bH ?_)
    all_goals try (exfalso; omega)
    all_goals
      refine st_loopC (α := Nat) tab mixed [] [] (by repeat (first | exact trivial | refine ⟨rfl, ?_⟩)) [4, 7] [_, _] (by repeat (first | exact trivial | refine ⟨rfl, ?_⟩)) (fun j => [(21, .int .i64 (j : Nat))]) [(4, _), (5, _), (6, _), (7, _), (9, _), (11, _), (14, _), (15, _), (18, _)] (fun _ => []) [_, _] (fun j => j ≤ Wu.length) (fun j => Wu.length - j) (by decide) 0 (Nat.zero_le _) (by (try simp only [go_sem]); repeat' (first | exact trivial | refine And.intro ?_ ?_ | rfl | (simp (disch := omega) only [go_sem, if_yes, if_no, ↓reduceIte, Nat.reduceAdd, Nat.reduceMul, Nat.reduceEqDiff, Nat.reduceBEq, Nat.reduceLeDiff]; rfl) | (simp (disch := omega) only [go_sem, if_yes, if_no, ↓reduceIte, Nat.reduceAdd, Nat.reduceMul, Nat.reduceEqDiff, Nat.reduceBEq, Nat.reduceLeDiff]))) (by (try simp only [go_sem]); repeat' (first | exact trivial | refine And.intro ?_ ?_ | rfl | (simp (disch := omega) only [go_sem, if_yes, if_no, ↓reduceIte, Nat.reduceAdd, Nat.reduceMul, Nat.reduceEqDiff, Nat.reduceBEq, Nat.reduceLeDiff]; rfl) | (simp (disch := omega) only [go_sem, if_yes, if_no, ↓reduceIte, Nat.reduceAdd, Nat.reduceMul, Nat.reduceEqDiff, Nat.reduceBEq, Nat.reduceLeDiff]))) (by first | (simp only [go_sem]; rfl) | rfl) (by intro n; simp only [go_sem]; rfl) ?_
      rintro j d5 hj hd5
      simp only [go_sem]
      by_cases hjl : j < Wu.length
      case pos =>
        have k46 := c46 W (elt Wu j) (by omega)
        rw [tail j hjl] at k46
        repeat' (first | refine st_seq_reg rfl (by first | (simp only [go_sem, List.length_map]; rfl) | rfl) (by first | (simp only [go_sem, List.length_map]; rfl) | rfl) ?_ | refine st_reg rfl (by first | (simp only [go_sem, List.length_map]; rfl) | rfl) (by first | (simp only [go_sem, List.length_map]; rfl) | rfl) ?_ | refine st_op ?_ | refine st_det rfl (by simp (disch := omega) only [go_sem, wr_i64, if_yes, if_no, ↓reduceIte, Nat.reduceAdd, Nat.reduceMul, Nat.reduceEqDiff, Nat.reduceBEq, Nat.reduceLeDiff, List.length_map]; rfl) ?_ | (refine st_pureE (by first | (simp (disch := omega) only [go_sem, List.length_map]; rfl) | rfl) rfl (k46) (by first | (simp only [go_sem, List.length_map]; rfl) | rfl) (by intro n; first | (simp (disch := omega) only [go_sem]; rfl) | rfl) ?_; intro n hn) | refine st_condF rfl ?_ | (refine st_condS rfl ?_ ?_ <;> intro hg <;> (try simp only [decide_eq_true_eq, decide_eq_false_iff_not, Bool.not_eq_true', Bool.not_eq_false'] at hg)) | refine st_nil ?_ | refine st_tN ?_ | refine st_seq ?_ | refine st_block ?_ | refine st_skip ?_ | refine st_exit ?_ | refine st_tE ?_ | refine st_bN ?_ | refine st_bH ?_)
        all_goals try (exfalso; omega)
        all_goals
          refine ⟨j + 1, by show j + 1 ≤ _; omega, by show Wu.length - (j + 1) < Wu.length - j; omega, (by repeat' (first | exact trivial | refine And.intro ?_ ?_ | rfl | (simp (disch := omega) only [go_sem, if_yes, if_no, ↓reduceIte, Nat.reduceAdd, Nat.reduceMul, Nat.reduceEqDiff, Nat.reduceBEq, Nat.reduceLeDiff]; rfl) | (simp (disch := omega) only [go_sem, if_yes, if_no, ↓reduceIte, Nat.reduceAdd, Nat.reduceMul, Nat.reduceEqDiff, Nat.reduceBEq, Nat.reduceLeDiff]))), (by repeat' (first | exact trivial | refine And.intro ?_ ?_ | rfl | (simp (disch := omega) only [go_sem, if_yes, if_no, ↓reduceIte, Nat.reduceAdd, Nat.reduceMul, Nat.reduceEqDiff, Nat.reduceBEq, Nat.reduceLeDiff]; rfl) | (simp (disch := omega) only [go_sem, if_yes, if_no, ↓reduceIte, Nat.reduceAdd, Nat.reduceMul, Nat.reduceEqDiff, Nat.reduceBEq, Nat.reduceLeDiff]))), rfl, (by first | exact HOld.of _ (by omega) | exact HOld.put _ _ _ (by omega))⟩
      obtain rfl : j = Wu.length := by omega
      repeat' (first | refine st_seq_reg rfl (by first | (simp only [go_sem, List.length_map]; rfl) | rfl) (by first | (simp only [go_sem, List.length_map]; rfl) | rfl) ?_ | refine st_reg rfl (by first | (simp only [go_sem, List.length_map]; rfl) | rfl) (by first | (simp only [go_sem, List.length_map]; rfl) | rfl) ?_ | refine st_op ?_ | refine st_det rfl (by simp (disch := omega) only [go_sem, wr_i64, if_yes, if_no, ↓reduceIte, Nat.reduceAdd, Nat.reduceMul, Nat.reduceEqDiff, Nat.reduceBEq, Nat.reduceLeDiff, List.length_map]; rfl) ?_ | (refine st_condS rfl ?_ ?_ <;> intro hg <;> (try simp only [decide_eq_true_eq, decide_eq_false_iff_not, Bool.not_eq_true', Bool.not_eq_false'] at hg)) | refine st_nil ?_ | refine st_tN ?_ | refine st_seq ?_ | refine st_block ?_ | refine st_skip ?_ | refine st_exit ?_ | refine st_tE ?_ | refine st_bN ?_ | refine st_bH ?_)
      all_goals try (exfalso; omega)
      refine ⟨g + 1, by show g + 1 ≤ _; omega, by show t.gs.length - (g + 1) < t.gs.length - g; omega, (by repeat' (first | exact trivial | refine And.intro ?_ ?_ | rfl | (simp (disch := omega) only [go_sem, if_yes, if_no, ↓reduceIte, Nat.reduceAdd, Nat.reduceMul, Nat.reduceEqDiff, Nat.reduceBEq, Nat.reduceLeDiff]; rfl) | (simp (disch := omega) only [go_sem, if_yes, if_no, ↓reduceIte, Nat.reduceAdd, Nat.reduceMul, Nat.reduceEqDiff, Nat.reduceBEq, Nat.reduceLeDiff]))), (by repeat' (first | exact trivial | refine And.intro ?_ ?_ | rfl | (simp (disch := omega) only [go_sem, if_yes, if_no, ↓reduceIte, Nat.reduceAdd, Nat.reduceMul, Nat.reduceEqDiff, Nat.reduceBEq, Nat.reduceLeDiff]; rfl) | (simp (disch := omega) only [go_sem, if_yes, if_no, ↓reduceIte, Nat.reduceAdd, Nat.reduceMul, Nat.reduceEqDiff, Nat.reduceBEq, Nat.reduceLeDiff]))), rfl, (by first | exact HOld.of _ (by omega) | exact HOld.put _ _ _ (by omega))⟩
end Go.Proofs.Ythjbfdfhblloiaa
