/- Contracts of functions that the claim reaches: what each call gives, told in our own logic. Conditions: those of each theorem. -/
import Derived.Test.YtbbkeakbomngoaaG11
import Derived.Test.YtbbkeakbomngoaaG12
set_option linter.all false
set_option linter.unusedSimpArgs false
set_option linter.unusedVariables false
namespace Go.Proofs.Ytbbkeakbomngoaa
open Go.Av
attribute [local irreducible] thenA blockA awp awpOps awpD awp1
set_option maxHeartbeats 8000000
set_option maxRecDepth 20000
/-! ### Each ticket wins once -/
/-- How often each ticket has won after i secrets. -/
def wonL (C : Int) (m i : Nat) : List Int := (List.range m).map fun j : Nat => if ((j : Int) - C) % (m : Int) < (i : Int) then 1 else 0
theorem wonL_len (C : Int) (m i : Nat) : (wonL C m i).length = m := by simp [wonL]
theorem wonL_get {C : Int} {m i j : Nat} (h : j < m) : (wonL C m i).getD j 0 = if ((j : Int) - C) % (m : Int) < (i : Int) then 1 else 0 := by
  simp [wonL, List.getD_eq_getElem?_getD, h]
theorem wonL_zero {C : Int} {m : Nat} : wonL C m 0 = List.replicate m 0 := by
  refine List.ext_getElem (by simp [wonL]) fun j h1 h2 => ?_
  simp only [wonL, List.getElem_map, List.getElem_range, List.getElem_replicate]
  have hm : (m : Int) ≠ 0 := by simp [wonL] at h1; omega
  have := Int.emod_nonneg ((j : Int) - C) hm
  rw [if_neg (by omega)]
theorem wonL_full {C : Int} {m j : Nat} (h : j < m) : (wonL C m m).getD j 0 = 1 := by
  rw [wonL_get h, if_pos (Int.emod_lt_of_pos _ (by omega))]
theorem wonL_step {C : Int} {m i : Nat} (hi : i < m) : (wonL C m i).getD ((C + i) % (m : Int)).toNat 0 = 0 ∧ (wonL C m i).set ((C + i) % (m : Int)).toNat 1 = wonL C m (i + 1) := by
  have hm : (m : Int) ≠ 0 := by omega
  have h0 := Int.emod_nonneg (C + i) hm
  have h1 := Int.emod_lt_of_pos (C + i) (by omega : (0 : Int) < m)
  generalize hn : ((C + i) % (m : Int)) = n at *
  obtain ⟨k, rfl⟩ : ∃ k : Nat, n = k := ⟨n.toNat, by omega⟩
  have hk : k < m := by omega
  have key : ((k : Int) - C) % (m : Int) = i := by
    rw [← hn, Int.sub_emod, Int.emod_emod_of_dvd _ (Int.dvd_refl _), ← Int.sub_emod]
    have : C + (i : Int) - C = i := by omega
    rw [this]
    exact Int.emod_eq_of_lt (by omega) (by omega)
  have uniq : ∀ j : Nat, j < m → ((j : Int) - C) % (m : Int) = i → j = k := by
    intro j hj e
    have : ((j : Int) - C - ((k : Int) - C)) % (m : Int) = 0 := by rw [Int.sub_emod, e, key]; simp
    have e2 : (j : Int) - C - ((k : Int) - C) = (j : Int) - k := by omega
    rw [e2] at this
    obtain ⟨q, hq⟩ := Int.dvd_of_emod_eq_zero this
    rcases Int.lt_trichotomy q 0 with hq0 | hq0 | hq0
    · have : (m : Int) * q ≤ (m : Int) * (-1) := Int.mul_le_mul_of_nonneg_left (by omega) (by omega)
      omega
    · subst hq0; omega
    · have : (m : Int) * 1 ≤ (m : Int) * q := Int.mul_le_mul_of_nonneg_left (by omega) (by omega)
      omega
  refine ⟨?_, ?_⟩
  · rw [Int.toNat_natCast, wonL_get hk, key, if_neg (by omega)]
  · rw [Int.toNat_natCast]
    refine List.ext_getElem (by simp [wonL]) fun j h1 h2 => ?_
    have hj : j < m := by simpa [wonL] using h2
    rw [List.getElem_set]
    simp only [wonL, List.getElem_map, List.getElem_range]
    by_cases e : k = j
    · subst e; rw [if_pos rfl, key, if_pos (by omega)]
    · rw [if_neg e]
      have hne : ¬ ((j : Int) - C) % (m : Int) = i := fun e' => e (uniq j hj e').symm
      have hnn := Int.emod_nonneg ((j : Int) - C) hm
      by_cases c : ((j : Int) - C) % (m : Int) < i
      · rw [if_pos c, if_pos (by omega)]
      · rw [if_neg c, if_neg (by omega)]
theorem sumF_set {l : List Int} {k : Nat} {v : Int} : ∀ {n : Nat}, n ≤ l.length → k < n → sumF (elt (l.set k v)) n = sumF (elt l) n - elt l k + v
  | 0, _, h => by omega
  | n + 1, hn, h => by
    have e : ∀ j, elt (l.set k v) j = if j = k ∧ k < l.length then v else elt l j := by
      intro j
      unfold elt
      simp only [List.getD_eq_getElem?_getD, List.getElem?_set]
      by_cases e : k = j
      · subst e
        by_cases c : k < l.length
        · simp [c]
        · simp [c]
      · have : ¬ j = k := fun h => e h.symm
        simp [e, this]
    have := sumF_one (F := elt (l.set k v)) (G := elt l) h (fun i _ hi => by rw [e i, if_neg (fun h => hi h.1)])
    rw [this, e k, if_pos ⟨rfl, by omega⟩]
    omega
/-- What the loop over holders keeps. -/
structure FrS where
  i : Int
  x : Int
  b1 : Nat × Nat
  b2 : Nat × Nat
  l1 : List Int
  l2 : List Int
  g : AH
structure FrI (b : Nat × Nat) (a : FrS) : Prop where
  i0 : 0 ≤ a.i
  len : a.l1.length = a.l2.length
  le : (a.l1.length : Int) + a.i ≤ 5
  pos : 0 < a.l1.length
  t0 : 1 ≤ elt a.l1 0
  ts : allIn 0 9 a.l1 = true
  ss : allIn 0 1000000000 a.l2 = true
  u : isU64 a.x
  d : a.g.at_ b = dr a.x
  bc : b.1 < a.g.clk
  g1 : a.g.at_ a.b1 = some ⟨1, a.l1.map iv⟩
  g2 : a.g.at_ a.b2 = some ⟨1, a.l2.map iv⟩
  n12 : ¬ a.b1 = a.b2
  n1 : ¬ a.b1 = b
  n2 : ¬ a.b2 = b
  c1 : a.b1.1 < a.g.clk
  c2 : a.b2.1 < a.g.clk
theorem allIn_app {lo hi : Int} {l : List Int} {r : Int} (h : allIn lo hi l = true) (hr : lo ≤ r ∧ r ≤ hi) : allIn lo hi (l ++ [r]) = true := by
  unfold allIn at *
  rw [List.all_append, h]
  simp [hr.1, hr.2]
theorem c33g (ts ss : List Int) (hl : ts.length ≤ 12) (he : drwE ts ss = 0) : Pure Try.prog 33 [.lst 1 (ts.map iv), .lst 1 (ss.map iv)] (fun v => ∃ k : Nat, k < ts.length ∧ sumF (elt ts) k ≤ (sumL ss).tmod (sumL ts) ∧ (sumL ss).tmod (sumL ts) < sumF (elt ts) (k + 1) ∧ v = .tup [.int .i64 ((sumL ss).tmod (sumL ts)), .int .i64 (k : Nat), .int .i64 0]) := by
  have e := (drwE_all he).2.2.1
  intro g
  refine (c33 ts ss (by omega) (by omega) g).mono fun v h' q => ⟨q.1, ?_⟩
  have q2 := q.2
  unfold drwR at q2
  rw [if_neg (by omega)] at q2
  exact q2
theorem sum_take {l : List Int} {k : Nat} (hk : k ≤ l.length) : sumL (l.take k) = sumF (elt l) k := by
  unfold sumL
  rw [List.length_take, Nat.min_eq_left hk]
  refine sumF_congr fun i hi => ?_
  unfold elt
  simp only [List.getD_eq_getElem?_getD]
  rw [List.getElem?_take_of_lt hi]
theorem allIn_set {lo hi : Int} {l : List Int} {k : Nat} {v : Int} (h : allIn lo hi l = true) (hv : lo ≤ v ∧ v ≤ hi) : allIn lo hi (l.set k v) = true := by
  refine List.all_eq_true.2 fun x hx => ?_
  rcases List.mem_or_eq_of_mem_set hx with hx | rfl
  · exact List.all_eq_true.1 h x hx
  · exact decide_eq_true hv
theorem hold_one {H' : AH} {wb : Nat × Nat} {k : Option Blk} {t : Nat} (h1 : H'.at_ wb = k) (h4 : t ≤ H'.clk) : HOld ((h00.tick t).put wb k) H' := by
  refine ⟨fun b k' hz => ?_, fun x r hr => (by cases hr), h4⟩
  simp only [go_sem] at hz
  by_cases e : b = wb
  · rw [if_pos e] at hz; rw [e, h1]; exact hz
  · rw [if_neg e] at hz; cases hz
theorem law9 (l : List Int) (hl : (l.length : Int) ≤ 9223372036854775807) (h : AH) : ACalls Try.prog 9 [.lst 1 (l.map iv)] h (fun v _ => v = .bool true) := by
  refine ACalls.of tab mixed Try.call9 Try.func9 rfl (fi := ⟨129, [], [35, 40, 1000007, 1000015], none, []⟩) rfl rfl (Nat.le_of_ble_eq_true rfl) (by decide) ?_
  unfold startA
  repeat' (first
      | refine st_seq_reg rfl (by first | (simp only [go_sem, List.length_map]; rfl) | rfl) (by first | (simp only [go_sem, List.length_map]; rfl) | rfl) ?_
      | refine st_reg rfl (by first | (simp only [go_sem, List.length_map]; rfl) | rfl) (by first | (simp only [go_sem, List.length_map]; rfl) | rfl) ?_
      | refine st_seq_draw rfl (by first | (simp only [go_sem, List.length_map]; rfl) | rfl) (by first | (simp only [go_sem, List.length_map]; rfl) | rfl) ?_
      | refine st_draw rfl (by first | (simp only [go_sem, List.length_map]; rfl) | rfl) (by first | (simp only [go_sem, List.length_map]; rfl) | rfl) ?_
      | refine st_op ?_
      | refine st_det rfl (by simp (disch := omega) only [go_sem, wr_i64, if_yes, if_no, ↓reduceIte, Nat.reduceAdd, Nat.reduceMul, Nat.reduceEqDiff, Nat.reduceBEq, Nat.reduceLeDiff, List.length_map]; rfl) ?_
      | refine st_dop rfl ?_
      | refine st_loc rfl (by simp (disch := omega) only [go_sem, wr_i64, if_yes, if_no, ↓reduceIte, Nat.reduceAdd, Nat.reduceMul, Nat.reduceEqDiff, Nat.reduceBEq, Nat.reduceLeDiff, List.length_map]; rfl) ?_
      | refine st_heap rfl (by simp (disch := omega) only [go_sem, wr_i64, if_yes, if_no, ↓reduceIte, Nat.reduceAdd, Nat.reduceMul, Nat.reduceEqDiff, Nat.reduceBEq, Nat.reduceLeDiff, List.length_map]; rfl) ?_
      | refine st_store (by simp (disch := omega) only [go_sem, wr_i64, if_yes, if_no, ↓reduceIte, Nat.reduceAdd, Nat.reduceMul, Nat.reduceEqDiff, Nat.reduceBEq, Nat.reduceLeDiff, List.length_map]; rfl) ?_
      | refine st_append (by simp (disch := omega) only [go_sem, wr_i64, if_yes, if_no, ↓reduceIte, Nat.reduceAdd, Nat.reduceMul, Nat.reduceEqDiff, Nat.reduceBEq, Nat.reduceLeDiff, List.length_map]; rfl) ?_
      | refine st_copy (by simp (disch := omega) only [go_sem, wr_i64, if_yes, if_no, ↓reduceIte, Nat.reduceAdd, Nat.reduceMul, Nat.reduceEqDiff, Nat.reduceBEq, Nat.reduceLeDiff, List.length_map]; rfl) ?_
      | (refine st_callf rfl rfl (c16 l hl _) ?_; rintro v h' ⟨b, x, n, rfl, hb1, hb2, hu0, rfl⟩)
      | (refine st_drum (by first | (simp (disch := omega) only [go_sem, List.length_map]; rfl) | rfl) rfl (c43' b 1 9 (by omega) (by omega)) (by first | (simp (disch := omega) only [go_sem, List.length_map]; rfl) | rfl) (by assumption) (by first | (simp only [go_sem, List.length_map]; rfl) | rfl) (by intro x' n; simp (disch := omega) only [go_sem]; rfl) ?_; rintro v x' n hu' ⟨r, rfl, hr⟩ hn)
      | (refine st_drum (by first | (simp (disch := omega) only [go_sem, List.length_map]; rfl) | rfl) rfl (c20' b 1000000000 (by omega)) (by first | (simp (disch := omega) only [go_sem, List.length_map]; rfl) | rfl) (by assumption) (by first | (simp only [go_sem, List.length_map]; rfl) | rfl) (by intro x' n; simp (disch := omega) only [go_sem]; rfl) ?_; rintro v x' n hu' ⟨r, rfl, hr⟩ hn)
      | (refine st_drum (by first | (simp (disch := omega) only [go_sem, List.length_map]; rfl) | rfl) rfl (c20' b 5 (by omega)) (by first | (simp (disch := omega) only [go_sem, List.length_map]; rfl) | rfl) (by assumption) (by first | (simp only [go_sem, List.length_map]; rfl) | rfl) (by intro x' n; simp (disch := omega) only [go_sem]; rfl) ?_; rintro v x' n hu' ⟨r, rfl, hr⟩ hn)
      | refine st_gT rfl rfl rfl ?_
      | refine st_gF rfl rfl rfl ?_
      | refine st_dgT rfl rfl rfl rfl ?_
      | refine st_dgF rfl rfl rfl ?_
      | (refine st_gS rfl rfl ?_ ?_ <;> intro hg <;> (try simp only [decide_eq_true_eq, decide_eq_false_iff_not, Bool.not_eq_true', Bool.not_eq_false'] at hg))
      | (refine st_dgS rfl rfl ?_ ?_ <;> intro hg <;> (try simp only [decide_eq_true_eq, decide_eq_false_iff_not, Bool.not_eq_true', Bool.not_eq_false'] at hg))
      | refine st_condT rfl ?_
      | refine st_condF rfl ?_
      | (refine st_condS rfl ?_ ?_ <;> intro hg <;> (try simp only [decide_eq_true_eq, decide_eq_false_iff_not, Bool.not_eq_true', Bool.not_eq_false'] at hg))
      | refine st_nil ?_
      | refine st_dnil ?_
      | refine st_tN ?_
      | refine st_seq ?_
      | refine st_block ?_
      | refine st_skip ?_
      | refine st_exit ?_
      | refine st_ret ?_
      | refine st_tE ?_
      | refine st_tR ?_
      | refine st_bN ?_
      | refine st_bR ?_
      | refine st_bH ?_
      | refine st_noN ?_
      | refine st_noR ?_
      | refine st_noE ?_
      | refine st_label ?_
      | refine st_scope tab mixed (by decide) ?_
      | refine st_bM rfl ?_)
  rename_i n0 xA nA uA rA hA mA xB nB uB rB hB mB
  have m1 : ¬ b = (n0, 22) := fun e => by rw [e] at hb2; dsimp only at hb2; omega
  have m2 : ¬ b = (n0, 25) := fun e => by rw [e] at hb2; dsimp only at hb2; omega
  have m3 : ¬ (n0, 22) = b := fun e => m1 e.symm
  have m4 : ¬ (n0, 25) = b := fun e => m2 e.symm
  refine st_loopH (α := FrS) tab mixed [] [] (by repeat (first | exact trivial | refine ⟨rfl, ?_⟩)) [] [] (by repeat (first | exact trivial | refine ⟨rfl, ?_⟩)) (fun a => [(6, .int .i64 a.i), (4, .slc a.b1 1 0 a.l1.length), (5, .slc a.b2 1 0 a.l2.length)]) [(0, _), (3, _)] (fun _ => []) [] (fun a => a.g) (fun a => FrI b a) (fun a => a.i.toNat) (by decide) ⟨r, x', (n0, 22), (n0, 25), [rA], [rB], _⟩ (by refine ⟨hr.1, rfl, by show (1 : Int) + r ≤ 5; omega, Nat.zero_lt_one, hA.1, ?_, ?_, hu', by simp only [go_sem, m1, m2, m3, m4, ↓reduceIte, Nat.reduceEqDiff, and_false] <;> rfl, by simp only [go_sem]; omega, by simp only [go_sem, m1, m2, m3, m4, ↓reduceIte, Nat.reduceEqDiff, and_false] <;> rfl, by simp only [go_sem, m1, m2, m3, m4, ↓reduceIte, Nat.reduceEqDiff, and_false] <;> rfl, ne_snd (by show 22 ≠ 25; decide), m3, m4, by simp only [go_sem]; omega, by simp only [go_sem]; omega⟩ <;> simp [allIn] <;> omega) (by (try simp only [go_sem]); repeat' (first | exact trivial | refine And.intro ?_ ?_ | rfl | (simp (disch := omega) only [go_sem, if_yes, if_no, ↓reduceIte, Nat.reduceAdd, Nat.reduceMul, Nat.reduceEqDiff, Nat.reduceBEq, Nat.reduceLeDiff]; rfl) | (simp (disch := omega) only [go_sem, if_yes, if_no, ↓reduceIte, Nat.reduceAdd, Nat.reduceMul, Nat.reduceEqDiff, Nat.reduceBEq, Nat.reduceLeDiff]))) (by (try simp only [go_sem]); repeat' (first | exact trivial | refine And.intro ?_ ?_ | rfl | (simp (disch := omega) only [go_sem, if_yes, if_no, ↓reduceIte, Nat.reduceAdd, Nat.reduceMul, Nat.reduceEqDiff, Nat.reduceBEq, Nat.reduceLeDiff]; rfl) | (simp (disch := omega) only [go_sem, if_yes, if_no, ↓reduceIte, Nat.reduceAdd, Nat.reduceMul, Nat.reduceEqDiff, Nat.reduceBEq, Nat.reduceLeDiff]))) (HOld.refl _) ?_
  rintro ⟨i, x, b1, b2, l1, l2, g⟩ c ⟨i0, len, le, pos, t0, ts, ss, hu0, hd, bc, g1, g2, n12, n1, n2, c1, c2⟩ hc
  dsimp only at i0 len le pos t0 ts ss hu0 hd bc g1 g2 n12 n1 n2 c1 c2 hc
  clear m1 m2 m3 m4
  by_cases hi : 0 < i
  · have n6 : ¬ b = (c + 1, 36) := fun e => by rw [e] at bc; dsimp only at bc; omega
    have n7 : ¬ b2 = (c + 1, 36) := fun e => by rw [e] at c2; dsimp only at c2; omega
    have n9 : ¬ b = (c + 1, 41) := fun e => by rw [e] at bc; dsimp only at bc; omega
    have m6 : ¬ (c + 1, 36) = b := fun e => n6 e.symm
    have m7 : ¬ (c + 1, 36) = b2 := fun e => n7 e.symm
    have m9 : ¬ (c + 1, 41) = b := fun e => n9 e.symm
    have n8 : ¬ b = b2 := fun e => n2 e.symm
    have n5 : ¬ b = b1 := fun e => n1 e.symm
    have n21 : ¬ b2 = b1 := fun e => n12 e.symm
    simp only [go_sem]
    repeat' (first
        | refine st_seq_reg rfl (by first | (simp only [go_sem, hd, big, List.length_map, g1, g2, n1, n2, n12, n21, n5, n6, n7, n8, n9, m6, m7, m9]; rfl) | rfl) (by first | (simp only [go_sem, hd, big, List.length_map, g1, g2, n1, n2, n12, n21, n5, n6, n7, n8, n9, m6, m7, m9]; rfl) | rfl) ?_
        | refine st_reg rfl (by first | (simp only [go_sem, hd, big, List.length_map, g1, g2, n1, n2, n12, n21, n5, n6, n7, n8, n9, m6, m7, m9]; rfl) | rfl) (by first | (simp only [go_sem, hd, big, List.length_map, g1, g2, n1, n2, n12, n21, n5, n6, n7, n8, n9, m6, m7, m9]; rfl) | rfl) ?_
        | refine st_seq_draw rfl (by first | (simp only [go_sem, hd, big, List.length_map, g1, g2, n1, n2, n12, n21, n5, n6, n7, n8, n9, m6, m7, m9]; rfl) | rfl) (by first | (simp only [go_sem, hd, big, List.length_map, g1, g2, n1, n2, n12, n21, n5, n6, n7, n8, n9, m6, m7, m9]; rfl) | rfl) ?_
        | refine st_draw rfl (by first | (simp only [go_sem, hd, big, List.length_map, g1, g2, n1, n2, n12, n21, n5, n6, n7, n8, n9, m6, m7, m9]; rfl) | rfl) (by first | (simp only [go_sem, hd, big, List.length_map, g1, g2, n1, n2, n12, n21, n5, n6, n7, n8, n9, m6, m7, m9]; rfl) | rfl) ?_
        | refine st_op ?_
        | refine st_det rfl (by simp (disch := omega) only [go_sem, wr_i64, if_yes, if_no, ↓reduceIte, Nat.reduceAdd, Nat.reduceMul, Nat.reduceEqDiff, Nat.reduceBEq, Nat.reduceLeDiff, hd, big, List.length_map, g1, g2, n1, n2, n12, n21, n5, n6, n7, n8, n9, m6, m7, m9]; rfl) ?_
        | refine st_dop rfl ?_
        | refine st_loc rfl (by simp (disch := omega) only [go_sem, wr_i64, if_yes, if_no, ↓reduceIte, Nat.reduceAdd, Nat.reduceMul, Nat.reduceEqDiff, Nat.reduceBEq, Nat.reduceLeDiff, hd, big, List.length_map, g1, g2, n1, n2, n12, n21, n5, n6, n7, n8, n9, m6, m7, m9]; rfl) ?_
        | refine st_heap rfl (by simp (disch := omega) only [go_sem, wr_i64, if_yes, if_no, ↓reduceIte, Nat.reduceAdd, Nat.reduceMul, Nat.reduceEqDiff, Nat.reduceBEq, Nat.reduceLeDiff, hd, big, List.length_map, g1, g2, n1, n2, n12, n21, n5, n6, n7, n8, n9, m6, m7, m9]; rfl) ?_
        | refine st_store (by simp (disch := omega) only [go_sem, wr_i64, if_yes, if_no, ↓reduceIte, Nat.reduceAdd, Nat.reduceMul, Nat.reduceEqDiff, Nat.reduceBEq, Nat.reduceLeDiff, hd, big, List.length_map, g1, g2, n1, n2, n12, n21, n5, n6, n7, n8, n9, m6, m7, m9]; rfl) ?_
        | refine st_append (by simp (disch := omega) only [go_sem, wr_i64, if_yes, if_no, ↓reduceIte, Nat.reduceAdd, Nat.reduceMul, Nat.reduceEqDiff, Nat.reduceBEq, Nat.reduceLeDiff, hd, big, List.length_map, g1, g2, n1, n2, n12, n21, n5, n6, n7, n8, n9, m6, m7, m9]; rfl) ?_
        | refine st_copy (by simp (disch := omega) only [go_sem, wr_i64, if_yes, if_no, ↓reduceIte, Nat.reduceAdd, Nat.reduceMul, Nat.reduceEqDiff, Nat.reduceBEq, Nat.reduceLeDiff, hd, big, List.length_map, g1, g2, n1, n2, n12, n21, n5, n6, n7, n8, n9, m6, m7, m9]; rfl) ?_
        | (refine st_drum (by first | (simp (disch := omega) only [go_sem, hd, big, List.length_map, g1, g2, n1, n2, n12, n21, n5, n6, n7, n8, n9, m6, m7, m9]; rfl) | rfl) rfl (c20' b 10 (by omega)) (by first | (simp (disch := omega) only [go_sem, hd, big, List.length_map, g1, g2, n1, n2, n12, n21, n5, n6, n7, n8, n9, m6, m7, m9]; rfl) | rfl) (by assumption) (by first | (simp only [go_sem, hd, big, List.length_map, g1, g2, n1, n2, n12, n21, n5, n6, n7, n8, n9, m6, m7, m9]; rfl) | rfl) (by intro x' n; simp (disch := omega) only [go_sem]; rfl) ?_; rintro v x' n hu' ⟨r, rfl, hr⟩ hn)
        | (refine st_drum (by first | (simp (disch := omega) only [go_sem, hd, big, List.length_map, g1, g2, n1, n2, n12, n21, n5, n6, n7, n8, n9, m6, m7, m9]; rfl) | rfl) rfl (c20' b 1000000000 (by omega)) (by first | (simp (disch := omega) only [go_sem, hd, big, List.length_map, g1, g2, n1, n2, n12, n21, n5, n6, n7, n8, n9, m6, m7, m9]; rfl) | rfl) (by assumption) (by first | (simp only [go_sem, hd, big, List.length_map, g1, g2, n1, n2, n12, n21, n5, n6, n7, n8, n9, m6, m7, m9]; rfl) | rfl) (by intro x' n; simp (disch := omega) only [go_sem]; rfl) ?_; rintro v x' n hu' ⟨r, rfl, hr⟩ hn)
        | refine st_gT rfl rfl rfl ?_
        | refine st_gF rfl rfl rfl ?_
        | refine st_dgT rfl rfl rfl rfl ?_
        | refine st_dgF rfl rfl rfl ?_
        | (refine st_gS rfl rfl ?_ ?_ <;> intro hg <;> (try simp only [decide_eq_true_eq, decide_eq_false_iff_not, Bool.not_eq_true', Bool.not_eq_false'] at hg))
        | (refine st_dgS rfl rfl ?_ ?_ <;> intro hg <;> (try simp only [decide_eq_true_eq, decide_eq_false_iff_not, Bool.not_eq_true', Bool.not_eq_false'] at hg))
        | refine st_condT rfl ?_
        | refine st_condF rfl ?_
        | (refine st_condS rfl ?_ ?_ <;> intro hg <;> (try simp only [decide_eq_true_eq, decide_eq_false_iff_not, Bool.not_eq_true', Bool.not_eq_false'] at hg))
        | refine st_nil ?_
        | refine st_dnil ?_
        | refine st_tN ?_
        | refine st_seq ?_
        | refine st_block ?_
        | refine st_skip ?_
        | refine st_exit ?_
        | refine st_ret ?_
        | refine st_tE ?_
        | refine st_tR ?_
        | refine st_bN ?_
        | refine st_bR ?_
        | refine st_bH ?_
        | refine st_noN ?_
        | refine st_noR ?_
        | refine st_noE ?_
        | refine st_label ?_
        | refine st_scope tab mixed (by decide) ?_
        | refine st_bM rfl ?_)
    · rename_i xA nA uA rA hA mA
      have ht0 : elt (l1 ++ [rA]) 0 = elt l1 0 := by unfold elt; simp only [List.getD_eq_getElem?_getD]; rw [List.getElem?_append_left pos]
      refine ⟨⟨i - 1, x', (c + 1, 36), (c + 1, 41), l1 ++ [rA], l2 ++ [r], _⟩, (by refine ⟨by show 0 ≤ i - 1; omega, by simp [len], by rw [List.length_append]; show ((l1.length + 1 : Nat) : Int) + (i - 1) ≤ 5; omega, by simp, by dsimp only; rw [ht0]; exact t0, allIn_app ts (by omega), allIn_app ss (by omega), hu', by simp only [go_sem, n6, n9, m6, m9, n7, n8, m7, ↓reduceIte, Nat.reduceEqDiff, and_false], by simp only [go_sem]; omega, by simp only [go_sem, n6, n9, m6, m9, n7, n8, m7, ↓reduceIte, Nat.reduceEqDiff, and_false]; rw [List.map_append, List.take_of_length_le (by simp)]; rfl, by simp only [go_sem, n6, n9, m6, m9, n7, n8, m7, ↓reduceIte, Nat.reduceEqDiff, and_false]; rw [List.map_append, List.take_of_length_le (by simp)]; rfl, ne_snd (by show 36 ≠ 41; decide), m6, m9, by simp only [go_sem]; omega, by simp only [go_sem]; omega⟩), by show (i - 1).toNat < i.toNat; omega, (by (try (simp only [List.length_append, List.length_cons, List.length_nil, Nat.zero_add, go_sem])); repeat' (first | exact trivial | refine And.intro ?_ ?_ | rfl | (simp (disch := omega) only [go_sem, if_yes, if_no, ↓reduceIte, Nat.reduceAdd, Nat.reduceMul, Nat.reduceEqDiff, Nat.reduceBEq, Nat.reduceLeDiff]; rfl) | (simp (disch := omega) only [go_sem, if_yes, if_no, ↓reduceIte, Nat.reduceAdd, Nat.reduceMul, Nat.reduceEqDiff, Nat.reduceBEq, Nat.reduceLeDiff]))), (by (try (simp only [List.length_append, List.length_cons, List.length_nil, Nat.zero_add, go_sem])); repeat' (first | exact trivial | refine And.intro ?_ ?_ | rfl | (simp (disch := omega) only [go_sem, if_yes, if_no, ↓reduceIte, Nat.reduceAdd, Nat.reduceMul, Nat.reduceEqDiff, Nat.reduceBEq, Nat.reduceLeDiff]; rfl) | (simp (disch := omega) only [go_sem, if_yes, if_no, ↓reduceIte, Nat.reduceAdd, Nat.reduceMul, Nat.reduceEqDiff, Nat.reduceBEq, Nat.reduceLeDiff]))), rfl, HOld.refl _⟩
    · exact absurd hi (by assumption)
  simp only [go_sem]
  repeat' (first
      | refine st_seq_reg rfl (by first | (simp only [go_sem]; rfl) | rfl) (by first | (simp only [go_sem]; rfl) | rfl) ?_
      | refine st_reg rfl (by first | (simp only [go_sem]; rfl) | rfl) (by first | (simp only [go_sem]; rfl) | rfl) ?_
      | refine st_seq_draw rfl (by first | (simp only [go_sem]; rfl) | rfl) (by first | (simp only [go_sem]; rfl) | rfl) ?_
      | refine st_draw rfl (by first | (simp only [go_sem]; rfl) | rfl) (by first | (simp only [go_sem]; rfl) | rfl) ?_
      | refine st_op ?_
      | refine st_det rfl (by simp (disch := omega) only [go_sem, wr_i64, if_yes, if_no, ↓reduceIte, Nat.reduceAdd, Nat.reduceMul, Nat.reduceEqDiff, Nat.reduceBEq, Nat.reduceLeDiff]; rfl) ?_
      | refine st_dop rfl ?_
      | refine st_loc rfl (by simp (disch := omega) only [go_sem, wr_i64, if_yes, if_no, ↓reduceIte, Nat.reduceAdd, Nat.reduceMul, Nat.reduceEqDiff, Nat.reduceBEq, Nat.reduceLeDiff]; rfl) ?_
      | refine st_heap rfl (by simp (disch := omega) only [go_sem, wr_i64, if_yes, if_no, ↓reduceIte, Nat.reduceAdd, Nat.reduceMul, Nat.reduceEqDiff, Nat.reduceBEq, Nat.reduceLeDiff]; rfl) ?_
      | refine st_store (by simp (disch := omega) only [go_sem, wr_i64, if_yes, if_no, ↓reduceIte, Nat.reduceAdd, Nat.reduceMul, Nat.reduceEqDiff, Nat.reduceBEq, Nat.reduceLeDiff]; rfl) ?_
      | refine st_append (by simp (disch := omega) only [go_sem, wr_i64, if_yes, if_no, ↓reduceIte, Nat.reduceAdd, Nat.reduceMul, Nat.reduceEqDiff, Nat.reduceBEq, Nat.reduceLeDiff]; rfl) ?_
      | refine st_copy (by simp (disch := omega) only [go_sem, wr_i64, if_yes, if_no, ↓reduceIte, Nat.reduceAdd, Nat.reduceMul, Nat.reduceEqDiff, Nat.reduceBEq, Nat.reduceLeDiff]; rfl) ?_
      | refine st_gT rfl rfl rfl ?_
      | refine st_gF rfl rfl rfl ?_
      | refine st_dgT rfl rfl rfl rfl ?_
      | refine st_dgF rfl rfl rfl ?_
      | (refine st_gS rfl rfl ?_ ?_ <;> intro hg <;> (try simp only [decide_eq_true_eq, decide_eq_false_iff_not, Bool.not_eq_true', Bool.not_eq_false'] at hg))
      | (refine st_dgS rfl rfl ?_ ?_ <;> intro hg <;> (try simp only [decide_eq_true_eq, decide_eq_false_iff_not, Bool.not_eq_true', Bool.not_eq_false'] at hg))
      | refine st_condT rfl ?_
      | refine st_condF rfl ?_
      | (refine st_condS rfl ?_ ?_ <;> intro hg <;> (try simp only [decide_eq_true_eq, decide_eq_false_iff_not, Bool.not_eq_true', Bool.not_eq_false'] at hg))
      | refine st_nil ?_
      | refine st_dnil ?_
      | refine st_tN ?_
      | refine st_seq ?_
      | refine st_block ?_
      | refine st_skip ?_
      | refine st_exit ?_
      | refine st_ret ?_
      | refine st_tE ?_
      | refine st_tR ?_
      | refine st_bN ?_
      | refine st_bR ?_
      | refine st_bH ?_
      | refine st_noN ?_
      | refine st_noR ?_
      | refine st_noE ?_
      | refine st_label ?_
      | refine st_scope tab mixed (by decide) ?_
      | refine st_bM rfl ?_)
  · exact absurd (by assumption) hi
  refine st_free ?_
  refine ASem.cutK 4 1 (l1.map iv) (.inr ⟨b1, by simp only [go_sem, ↓reduceIte, Nat.reduceEqDiff] <;> rfl, by simp only [go_sem]; exact g1⟩) fun H1 h1a h1b h1c => ?_
  have hn21 : ∀ m, AV.slc b1 1 0 l1.length ≠ .slc b2 1 0 m := fun m e => by injection e with e'; exact n12 e'
  refine ASem.cutK 5 1 (l2.map iv) (.inr ⟨b2, by simp only [go_sem, ↓reduceIte, Nat.reduceEqDiff] <;> rfl, ?_⟩) fun H2 h2a h2b h2c => ?_
  · rw [h1a b2 (fun m => by simp only [go_sem, ↓reduceIte, Nat.reduceEqDiff]; exact hn21 m)]; exact g2
  have hd2 : H2.at_ b = dr x := by
    rw [h2a b (fun m => by simp only [go_sem, ↓reduceIte, Nat.reduceEqDiff]; exact fun e => by injection e with e'; exact n2 e'),
      h1a b (fun m => by simp only [go_sem, ↓reduceIte, Nat.reduceEqDiff]; exact fun e => by injection e with e'; exact n1 e')]
    exact hd
  have hk2 : H2.clk = c + 1 := by rw [h2b, h1b]; rfl
  clear h1a h1b h1c h2a h2b h2c hn21
  have htot := sumL_bd (by decide) ts l1.length (Nat.le_refl _)
  have htot1 : 1 ≤ sumL l1 := by
    have h1 := sumL_mono (by decide) ts (j := l1.length) (i := 1) (by omega) (Nat.le_refl _)
    have h2 : sumF (elt l1) 1 = 0 + elt l1 0 := rfl
    have h3 : sumL l1 = sumF (elt l1) l1.length := rfl
    omega
  obtain ⟨m, hm⟩ : ∃ m : Nat, sumL l1 = m := ⟨(sumL l1).toNat, by omega⟩
  have hm' : sumF (elt l1) l1.length = m := hm
  have k36 := c36 l1 (by omega) (fun j hj => by have := allIn_elt ts j hj; omega)
  rw [hm] at k36 htot1
  rw [hm'] at htot
  refine st_run tab mixed (f2 := ⟨129, [], [35, 40], none, []⟩) rfl rfl (by decide) ?_
  repeat' (first
      | refine st_seq_reg rfl (by first | (simp only [go_sem, hd2, hk2, List.length_map]; rfl) | rfl) (by first | (simp only [go_sem, hd2, hk2, List.length_map]; rfl) | rfl) ?_
      | refine st_reg rfl (by first | (simp only [go_sem, hd2, hk2, List.length_map]; rfl) | rfl) (by first | (simp only [go_sem, hd2, hk2, List.length_map]; rfl) | rfl) ?_
      | refine st_seq_draw rfl (by first | (simp only [go_sem, hd2, hk2, List.length_map]; rfl) | rfl) (by first | (simp only [go_sem, hd2, hk2, List.length_map]; rfl) | rfl) ?_
      | refine st_draw rfl (by first | (simp only [go_sem, hd2, hk2, List.length_map]; rfl) | rfl) (by first | (simp only [go_sem, hd2, hk2, List.length_map]; rfl) | rfl) ?_
      | refine st_op ?_
      | refine st_det rfl (by simp (disch := omega) only [go_sem, wr_i64, if_yes, if_no, ↓reduceIte, Nat.reduceAdd, Nat.reduceMul, Nat.reduceEqDiff, Nat.reduceBEq, Nat.reduceLeDiff, hd2, hk2, List.length_map]; rfl) ?_
      | refine st_dop rfl ?_
      | refine st_loc rfl (by simp (disch := omega) only [go_sem, wr_i64, if_yes, if_no, ↓reduceIte, Nat.reduceAdd, Nat.reduceMul, Nat.reduceEqDiff, Nat.reduceBEq, Nat.reduceLeDiff, hd2, hk2, List.length_map]; rfl) ?_
      | refine st_heap rfl (by simp (disch := omega) only [go_sem, wr_i64, if_yes, if_no, ↓reduceIte, Nat.reduceAdd, Nat.reduceMul, Nat.reduceEqDiff, Nat.reduceBEq, Nat.reduceLeDiff, hd2, hk2, List.length_map]; rfl) ?_
      | refine st_store (by simp (disch := omega) only [go_sem, wr_i64, if_yes, if_no, ↓reduceIte, Nat.reduceAdd, Nat.reduceMul, Nat.reduceEqDiff, Nat.reduceBEq, Nat.reduceLeDiff, hd2, hk2, List.length_map]; rfl) ?_
      | refine st_append (by simp (disch := omega) only [go_sem, wr_i64, if_yes, if_no, ↓reduceIte, Nat.reduceAdd, Nat.reduceMul, Nat.reduceEqDiff, Nat.reduceBEq, Nat.reduceLeDiff, hd2, hk2, List.length_map]; rfl) ?_
      | refine st_copy (by simp (disch := omega) only [go_sem, wr_i64, if_yes, if_no, ↓reduceIte, Nat.reduceAdd, Nat.reduceMul, Nat.reduceEqDiff, Nat.reduceBEq, Nat.reduceLeDiff, hd2, hk2, List.length_map]; rfl) ?_
      | (refine st_pureE (by first | (simp (disch := omega) only [go_sem, hd2, hk2, List.length_map]; rfl) | rfl) rfl (k36) (by first | (simp only [go_sem, hd2, hk2, List.length_map]; rfl) | rfl) (by intro n; simp (disch := omega) only [go_sem]; rfl) ?_; intro n hn)
      | (refine st_drum (by first | (simp (disch := omega) only [go_sem, hd2, hk2, List.length_map]; rfl) | rfl) rfl (c20' b (l1.length : Nat) (by omega)) (by first | (simp (disch := omega) only [go_sem, hd2, hk2, List.length_map]; rfl) | rfl) (by assumption) (by first | (simp only [go_sem, hd2, hk2, List.length_map]; rfl) | rfl) (by intro x' n; simp (disch := omega) only [go_sem]; rfl) ?_; rintro v x' n hu' ⟨w, rfl, hw⟩ hn)
      | (refine st_drum (by first | (simp (disch := omega) only [go_sem, hd2, hk2, List.length_map]; rfl) | rfl) rfl (c43' b 0 (1000000000 - (m : Nat)) (by omega) (by omega)) (by first | (simp (disch := omega) only [go_sem, hd2, hk2, List.length_map]; rfl) | rfl) (by assumption) (by first | (simp only [go_sem, hd2, hk2, List.length_map]; rfl) | rfl) (by intro x' n; simp (disch := omega) only [go_sem]; rfl) ?_; rintro v x' n hu' ⟨q, rfl, hq⟩ hn)
      | refine st_gT rfl rfl rfl ?_
      | refine st_gF rfl rfl rfl ?_
      | refine st_dgT rfl rfl rfl rfl ?_
      | refine st_dgF rfl rfl rfl ?_
      | (refine st_gS rfl rfl ?_ ?_ <;> intro hg <;> (try simp only [decide_eq_true_eq, decide_eq_false_iff_not, Bool.not_eq_true', Bool.not_eq_false'] at hg))
      | (refine st_dgS rfl rfl ?_ ?_ <;> intro hg <;> (try simp only [decide_eq_true_eq, decide_eq_false_iff_not, Bool.not_eq_true', Bool.not_eq_false'] at hg))
      | refine st_condT rfl ?_
      | refine st_condF rfl ?_
      | (refine st_condS rfl ?_ ?_ <;> intro hg <;> (try simp only [decide_eq_true_eq, decide_eq_false_iff_not, Bool.not_eq_true', Bool.not_eq_false'] at hg))
      | refine st_nil ?_
      | refine st_dnil ?_
      | refine st_tN ?_
      | refine st_seq ?_
      | refine st_block ?_
      | refine st_skip ?_
      | refine st_exit ?_
      | refine st_ret ?_
      | refine st_tE ?_
      | refine st_tR ?_
      | refine st_bN ?_
      | refine st_bR ?_
      | refine st_bH ?_
      | refine st_noN ?_
      | refine st_noR ?_
      | refine st_noE ?_
      | refine st_label ?_
      | refine st_scope tab mixed (by decide) ?_
      | refine st_bM rfl ?_)
  obtain ⟨wn, rfl⟩ : ∃ wn : Nat, w = wn := ⟨w.toNat, by omega⟩
  have hwn : wn < l1.length := by omega
  have hwe := allIn_elt ss wn (by omega)
  have hsn : 0 ≤ sumL l2 := sumL_nn (by decide) ss l2.length (Nat.le_refl _)
  have hse : elt l2 wn ≤ sumL l2 := by
    have a1 := sumL_mono (by decide) ss (j := l2.length) (i := wn + 1) (by omega) (Nat.le_refl _)
    have a2 := sumL_nn (by decide) ss wn (by omega)
    have a3 : sumF (elt l2) (wn + 1) = sumF (elt l2) wn + elt l2 wn := rfl
    have a4 : sumL l2 = sumF (elt l2) l2.length := rfl
    omega
  have hsu : sumL l2 ≤ l2.length * 1000000000 := sumL_bd (by decide) ss l2.length (Nat.le_refl _)
  have hC : ∀ i : Nat, sumL (l2.set wn (q + (i : Nat))) = (sumL l2 - elt l2 wn + q) + (i : Nat) := fun i => by
    have := sumF_set (l := l2) (k := wn) (v := q + (i : Nat)) (n := l2.length) (Nat.le_refl _) (by omega)
    unfold sumL; rw [List.length_set, this]; omega
  have hC0 : 0 ≤ sumL l2 - elt l2 wn + q := by omega
  generalize hCC : sumL l2 - elt l2 wn + q = C at *
  refine st_loopH (α := Nat) tab mixed [] [] (by repeat (first | exact trivial | refine ⟨rfl, ?_⟩)) [] [] (by repeat (first | exact trivial | refine ⟨rfl, ?_⟩)) (fun i => [(11, .int .i64 (i : Nat))]) [(4, _), (5, _), (7, _), (8, _), (9, _), (10, _)] (fun _ => []) [] (fun i => (h00.tick (n + 1 + 1)).put (n, 53) (some ⟨1, (wonL C m i).map iv⟩)) (fun i => i ≤ m) (fun i => m - i) (by decide) 0 (Nat.zero_le _) (by (try simp only [go_sem]); repeat' (first | exact trivial | refine And.intro ?_ ?_ | rfl | (simp (disch := omega) only [go_sem, if_yes, if_no, ↓reduceIte, Nat.reduceAdd, Nat.reduceMul, Nat.reduceEqDiff, Nat.reduceBEq, Nat.reduceLeDiff]; rfl) | (simp (disch := omega) only [go_sem, if_yes, if_no, ↓reduceIte, Nat.reduceAdd, Nat.reduceMul, Nat.reduceEqDiff, Nat.reduceBEq, Nat.reduceLeDiff]))) (by (try simp only [go_sem]); repeat' (first | exact trivial | refine And.intro ?_ ?_ | rfl | (simp (disch := omega) only [go_sem, if_yes, if_no, ↓reduceIte, Nat.reduceAdd, Nat.reduceMul, Nat.reduceEqDiff, Nat.reduceBEq, Nat.reduceLeDiff]; rfl) | (simp (disch := omega) only [go_sem, if_yes, if_no, ↓reduceIte, Nat.reduceAdd, Nat.reduceMul, Nat.reduceEqDiff, Nat.reduceBEq, Nat.reduceLeDiff]))) (hold_one (by simp only [go_sem, ↓reduceIte]; rw [wonL_zero, List.map_replicate]; rfl) (by simp only [go_sem]; omega)) ?_
  intro i c2 i1 hc2
  simp only [go_sem] at hc2 ⊢
  have hwl := wonL_len C m i
  repeat' (first
      | refine st_seq_reg rfl (by first | (simp only [go_sem, List.length_map]; rfl) | rfl) (by first | (simp only [go_sem, List.length_map]; rfl) | rfl) ?_
      | refine st_reg rfl (by first | (simp only [go_sem, List.length_map]; rfl) | rfl) (by first | (simp only [go_sem, List.length_map]; rfl) | rfl) ?_
      | refine st_seq_draw rfl (by first | (simp only [go_sem, List.length_map]; rfl) | rfl) (by first | (simp only [go_sem, List.length_map]; rfl) | rfl) ?_
      | refine st_draw rfl (by first | (simp only [go_sem, List.length_map]; rfl) | rfl) (by first | (simp only [go_sem, List.length_map]; rfl) | rfl) ?_
      | refine st_op ?_
      | refine st_det rfl (by simp (disch := omega) only [go_sem, wr_i64, if_yes, if_no, ↓reduceIte, Nat.reduceAdd, Nat.reduceMul, Nat.reduceEqDiff, Nat.reduceBEq, Nat.reduceLeDiff, List.length_map]; rfl) ?_
      | refine st_dop rfl ?_
      | refine st_loc rfl (by simp (disch := omega) only [go_sem, wr_i64, if_yes, if_no, ↓reduceIte, Nat.reduceAdd, Nat.reduceMul, Nat.reduceEqDiff, Nat.reduceBEq, Nat.reduceLeDiff, List.length_map]; rfl) ?_
      | refine st_heap rfl (by simp (disch := omega) only [go_sem, wr_i64, if_yes, if_no, ↓reduceIte, Nat.reduceAdd, Nat.reduceMul, Nat.reduceEqDiff, Nat.reduceBEq, Nat.reduceLeDiff, List.length_map]; rfl) ?_
      | refine st_store (by simp (disch := omega) only [go_sem, wr_i64, if_yes, if_no, ↓reduceIte, Nat.reduceAdd, Nat.reduceMul, Nat.reduceEqDiff, Nat.reduceBEq, Nat.reduceLeDiff, List.length_map]; rfl) ?_
      | refine st_append (by simp (disch := omega) only [go_sem, wr_i64, if_yes, if_no, ↓reduceIte, Nat.reduceAdd, Nat.reduceMul, Nat.reduceEqDiff, Nat.reduceBEq, Nat.reduceLeDiff, List.length_map]; rfl) ?_
      | refine st_copy (by simp (disch := omega) only [go_sem, wr_i64, if_yes, if_no, ↓reduceIte, Nat.reduceAdd, Nat.reduceMul, Nat.reduceEqDiff, Nat.reduceBEq, Nat.reduceLeDiff, List.length_map]; rfl) ?_
      | (refine st_callf rfl rfl (c32h l2 (by omega) _) ?_; rintro v h' ⟨bb, n', rfl, hb3, hb4, rfl⟩)
      | refine st_gT rfl rfl rfl ?_
      | refine st_gF rfl rfl rfl ?_
      | refine st_dgT rfl rfl rfl rfl ?_
      | refine st_dgF rfl rfl rfl ?_
      | (refine st_gS rfl rfl ?_ ?_ <;> intro hg <;> (try simp only [decide_eq_true_eq, decide_eq_false_iff_not, Bool.not_eq_true', Bool.not_eq_false'] at hg))
      | (refine st_dgS rfl rfl ?_ ?_ <;> intro hg <;> (try simp only [decide_eq_true_eq, decide_eq_false_iff_not, Bool.not_eq_true', Bool.not_eq_false'] at hg))
      | refine st_condT rfl ?_
      | refine st_condF rfl ?_
      | (refine st_condS rfl ?_ ?_ <;> intro hg <;> (try simp only [decide_eq_true_eq, decide_eq_false_iff_not, Bool.not_eq_true', Bool.not_eq_false'] at hg))
      | refine st_nil ?_
      | refine st_dnil ?_
      | refine st_tN ?_
      | refine st_seq ?_
      | refine st_block ?_
      | refine st_skip ?_
      | refine st_exit ?_
      | refine st_ret ?_
      | refine st_tE ?_
      | refine st_tR ?_
      | refine st_bN ?_
      | refine st_bR ?_
      | refine st_bH ?_
      | refine st_noN ?_
      | refine st_noR ?_
      | refine st_noE ?_
      | refine st_label ?_
      | refine st_scope tab mixed (by decide) ?_
      | refine st_bM rfl ?_)
  · have him : i < m := by omega
    have h3c : c2 + 1 + 1 ≤ bb.1 := hb3
    have hbn : ¬ (n, 53) = bb := fun e => by have h3 : c2 + 1 + 1 ≤ bb.1 := hb3; rw [← e] at h3; dsimp only at h3; omega
    have hTd : (sumL (l2.set wn (q + (i : Nat)))).tmod (sumL l1) = (C + (i : Nat)) % (m : Int) := by
      rw [hC, hm, Int.tmod_eq_emod_of_nonneg (by omega)]
    have hT0 := Int.emod_nonneg (C + (i : Nat)) (by omega : (m : Int) ≠ 0)
    have hT1 := Int.emod_lt_of_pos (C + (i : Nat)) (by omega : (0 : Int) < (m : Int))
    obtain ⟨s1, s2⟩ := wonL_step (C := C) him
    have he : drwE l1 (l2.set wn (q + (i : Nat))) = 0 := by
      have a1 : allIn 0 1000 l1 = true := allIn_all fun j hj => by have := allIn_elt ts j hj; omega
      have a2 : allIn 0 1000000000 (l2.set wn (q + (i : Nat))) = true := allIn_set ss (by omega)
      unfold drwE
      rw [if_neg (by omega), if_neg (by simp [a1]), if_neg (by rw [List.length_set]; omega), if_neg (by simp [a2]), if_neg (by omega)]
    have k33 := c33g l1 (l2.set wn (q + (i : Nat))) (by omega) he
    rw [hTd] at k33
    generalize (C + (i : Nat)) % (m : Int) = T at *
    obtain ⟨tn, rfl⟩ : ∃ tn : Nat, T = tn := ⟨T.toNat, by omega⟩
    rw [Int.toNat_natCast] at s1 s2
    refine st_free ?_
    refine ASem.frzS (b := bb) (es := (l2.set wn (q + (i : Nat))).map iv) 12 1 l2.length (by simp only [go_sem, ↓reduceIte]; rfl) (by simp only [go_sem, ↓reduceIte, Nat.reduceEqDiff] <;> rfl) (by simp only [Nat.zero_add]; rw [List.map_set]; rfl) (by simp) ?_
    refine st_run tab mixed (f2 := ⟨129, [], [35, 40], none, []⟩) rfl rfl (by decide) ?_
    repeat' (first
        | refine st_seq_reg rfl (by first | (simp only [go_sem, hbn, s1, Nat.zero_add, List.length_map, hwl]; rfl) | rfl) (by first | (simp only [go_sem, hbn, s1, Nat.zero_add, List.length_map, hwl]; rfl) | rfl) ?_
        | refine st_reg rfl (by first | (simp only [go_sem, hbn, s1, Nat.zero_add, List.length_map, hwl]; rfl) | rfl) (by first | (simp only [go_sem, hbn, s1, Nat.zero_add, List.length_map, hwl]; rfl) | rfl) ?_
        | refine st_seq_draw rfl (by first | (simp only [go_sem, hbn, s1, Nat.zero_add, List.length_map, hwl]; rfl) | rfl) (by first | (simp only [go_sem, hbn, s1, Nat.zero_add, List.length_map, hwl]; rfl) | rfl) ?_
        | refine st_draw rfl (by first | (simp only [go_sem, hbn, s1, Nat.zero_add, List.length_map, hwl]; rfl) | rfl) (by first | (simp only [go_sem, hbn, s1, Nat.zero_add, List.length_map, hwl]; rfl) | rfl) ?_
        | refine st_op ?_
        | refine st_det rfl (by simp (disch := omega) only [go_sem, wr_i64, if_yes, if_no, ↓reduceIte, Nat.reduceAdd, Nat.reduceMul, Nat.reduceEqDiff, Nat.reduceBEq, Nat.reduceLeDiff, hbn, s1, Nat.zero_add, List.length_map, hwl]; rfl) ?_
        | refine st_dop rfl ?_
        | refine st_loc rfl (by simp (disch := omega) only [go_sem, wr_i64, if_yes, if_no, ↓reduceIte, Nat.reduceAdd, Nat.reduceMul, Nat.reduceEqDiff, Nat.reduceBEq, Nat.reduceLeDiff, hbn, s1, Nat.zero_add, List.length_map, hwl]; rfl) ?_
        | refine st_heap rfl (by simp (disch := omega) only [go_sem, wr_i64, if_yes, if_no, ↓reduceIte, Nat.reduceAdd, Nat.reduceMul, Nat.reduceEqDiff, Nat.reduceBEq, Nat.reduceLeDiff, hbn, s1, Nat.zero_add, List.length_map, hwl]; rfl) ?_
        | refine st_store (by simp (disch := omega) only [go_sem, wr_i64, if_yes, if_no, ↓reduceIte, Nat.reduceAdd, Nat.reduceMul, Nat.reduceEqDiff, Nat.reduceBEq, Nat.reduceLeDiff, hbn, s1, Nat.zero_add, List.length_map, hwl]; rfl) ?_
        | refine st_append (by simp (disch := omega) only [go_sem, wr_i64, if_yes, if_no, ↓reduceIte, Nat.reduceAdd, Nat.reduceMul, Nat.reduceEqDiff, Nat.reduceBEq, Nat.reduceLeDiff, hbn, s1, Nat.zero_add, List.length_map, hwl]; rfl) ?_
        | refine st_copy (by simp (disch := omega) only [go_sem, wr_i64, if_yes, if_no, ↓reduceIte, Nat.reduceAdd, Nat.reduceMul, Nat.reduceEqDiff, Nat.reduceBEq, Nat.reduceLeDiff, hbn, s1, Nat.zero_add, List.length_map, hwl]; rfl) ?_
        | (refine st_pure (by first | (simp (disch := omega) only [go_sem, hbn, s1, Nat.zero_add, List.length_map, hwl]; rfl) | rfl) rfl (k33) (by first | (simp only [go_sem, hbn, s1, Nat.zero_add, List.length_map, hwl]; rfl) | rfl) (by intro n; simp (disch := omega) only [go_sem]; rfl) ?_; rintro v n ⟨k, k1, k2, k3, rfl⟩ hn)
        | refine st_gT rfl rfl rfl ?_
        | refine st_gF rfl rfl rfl ?_
        | refine st_dgT rfl rfl rfl rfl ?_
        | refine st_dgF rfl rfl rfl ?_
        | (refine st_gS rfl rfl ?_ ?_ <;> intro hg <;> (try simp only [decide_eq_true_eq, decide_eq_false_iff_not, Bool.not_eq_true', Bool.not_eq_false'] at hg))
        | (refine st_dgS rfl rfl ?_ ?_ <;> intro hg <;> (try simp only [decide_eq_true_eq, decide_eq_false_iff_not, Bool.not_eq_true', Bool.not_eq_false'] at hg))
        | refine st_condT rfl ?_
        | refine st_condF rfl ?_
        | (refine st_condS rfl ?_ ?_ <;> intro hg <;> (try simp only [decide_eq_true_eq, decide_eq_false_iff_not, Bool.not_eq_true', Bool.not_eq_false'] at hg))
        | refine st_nil ?_
        | refine st_dnil ?_
        | refine st_tN ?_
        | refine st_seq ?_
        | refine st_block ?_
        | refine st_skip ?_
        | refine st_exit ?_
        | refine st_ret ?_
        | refine st_tE ?_
        | refine st_tR ?_
        | refine st_bN ?_
        | refine st_bR ?_
        | refine st_bH ?_
        | refine st_noN ?_
        | refine st_noR ?_
        | refine st_noE ?_
        | refine st_label ?_
        | refine st_scope tab mixed (by decide) ?_
        | refine st_bM rfl ?_)
    all_goals try (exfalso; omega)
    have k36t := c36 (l1.take k) (by rw [List.length_take]; omega) (fun j hj => by
      rw [List.length_take] at hj
      have e : elt (l1.take k) j = elt l1 j := by unfold elt; simp only [List.getD_eq_getElem?_getD]; rw [List.getElem?_take_of_lt (by omega)]
      have := allIn_elt ts j (by omega); omega)
    rw [sum_take (by omega), List.map_take] at k36t
    have hsk := sumL_bd (by decide) ts k (by omega)
    have hsk0 := sumL_nn (by decide) ts k (by omega)
    have hek := allIn_elt ts k (by omega)
    have hek' : l1.getD k 0 = elt l1 k := rfl
    have hsr : sumF (elt l1) (k + 1) = sumF (elt l1) k + elt l1 k := rfl
    repeat' (first
        | refine st_seq_reg rfl (by first | (simp only [go_sem, hek']; rfl) | rfl) (by first | (simp only [go_sem, hek']; rfl) | rfl) ?_
        | refine st_reg rfl (by first | (simp only [go_sem, hek']; rfl) | rfl) (by first | (simp only [go_sem, hek']; rfl) | rfl) ?_
        | refine st_seq_draw rfl (by first | (simp only [go_sem, hek']; rfl) | rfl) (by first | (simp only [go_sem, hek']; rfl) | rfl) ?_
        | refine st_draw rfl (by first | (simp only [go_sem, hek']; rfl) | rfl) (by first | (simp only [go_sem, hek']; rfl) | rfl) ?_
        | refine st_op ?_
        | refine st_det rfl (by simp (disch := omega) only [go_sem, wr_i64, if_yes, if_no, ↓reduceIte, Nat.reduceAdd, Nat.reduceMul, Nat.reduceEqDiff, Nat.reduceBEq, Nat.reduceLeDiff, hek']; rfl) ?_
        | refine st_dop rfl ?_
        | refine st_loc rfl (by simp (disch := omega) only [go_sem, wr_i64, if_yes, if_no, ↓reduceIte, Nat.reduceAdd, Nat.reduceMul, Nat.reduceEqDiff, Nat.reduceBEq, Nat.reduceLeDiff, hek']; rfl) ?_
        | refine st_heap rfl (by simp (disch := omega) only [go_sem, wr_i64, if_yes, if_no, ↓reduceIte, Nat.reduceAdd, Nat.reduceMul, Nat.reduceEqDiff, Nat.reduceBEq, Nat.reduceLeDiff, hek']; rfl) ?_
        | refine st_store (by simp (disch := omega) only [go_sem, wr_i64, if_yes, if_no, ↓reduceIte, Nat.reduceAdd, Nat.reduceMul, Nat.reduceEqDiff, Nat.reduceBEq, Nat.reduceLeDiff, hek']; rfl) ?_
        | refine st_append (by simp (disch := omega) only [go_sem, wr_i64, if_yes, if_no, ↓reduceIte, Nat.reduceAdd, Nat.reduceMul, Nat.reduceEqDiff, Nat.reduceBEq, Nat.reduceLeDiff, hek']; rfl) ?_
        | refine st_copy (by simp (disch := omega) only [go_sem, wr_i64, if_yes, if_no, ↓reduceIte, Nat.reduceAdd, Nat.reduceMul, Nat.reduceEqDiff, Nat.reduceBEq, Nat.reduceLeDiff, hek']; rfl) ?_
        | (refine st_pureE (by first | (simp (disch := omega) only [go_sem, hek']; rfl) | rfl) rfl (k36t) (by first | (simp only [go_sem, hek']; rfl) | rfl) (by intro n; simp (disch := omega) only [go_sem]; rfl) ?_; intro n hn)
        | refine st_gT rfl rfl rfl ?_
        | refine st_gF rfl rfl rfl ?_
        | refine st_dgT rfl rfl rfl rfl ?_
        | refine st_dgF rfl rfl rfl ?_
        | (refine st_gS rfl rfl ?_ ?_ <;> intro hg <;> (try simp only [decide_eq_true_eq, decide_eq_false_iff_not, Bool.not_eq_true', Bool.not_eq_false'] at hg))
        | (refine st_dgS rfl rfl ?_ ?_ <;> intro hg <;> (try simp only [decide_eq_true_eq, decide_eq_false_iff_not, Bool.not_eq_true', Bool.not_eq_false'] at hg))
        | refine st_condT rfl ?_
        | refine st_condF rfl ?_
        | (refine st_condS rfl ?_ ?_ <;> intro hg <;> (try simp only [decide_eq_true_eq, decide_eq_false_iff_not, Bool.not_eq_true', Bool.not_eq_false'] at hg))
        | refine st_nil ?_
        | refine st_dnil ?_
        | refine st_tN ?_
        | refine st_seq ?_
        | refine st_block ?_
        | refine st_skip ?_
        | refine st_exit ?_
        | refine st_ret ?_
        | refine st_tE ?_
        | refine st_tR ?_
        | refine st_bN ?_
        | refine st_bR ?_
        | refine st_bH ?_
        | refine st_noN ?_
        | refine st_noR ?_
        | refine st_noE ?_
        | refine st_label ?_
        | refine st_scope tab mixed (by decide) ?_
        | refine st_bM rfl ?_)
    all_goals try (exfalso; omega)
    refine ⟨i + 1, by show i + 1 ≤ m; omega, by show m - (i + 1) < m - i; omega, (by repeat' (first | exact trivial | refine And.intro ?_ ?_ | rfl | (simp (disch := omega) only [go_sem, if_yes, if_no, ↓reduceIte, Nat.reduceAdd, Nat.reduceMul, Nat.reduceEqDiff, Nat.reduceBEq, Nat.reduceLeDiff]; rfl) | (simp (disch := omega) only [go_sem, if_yes, if_no, ↓reduceIte, Nat.reduceAdd, Nat.reduceMul, Nat.reduceEqDiff, Nat.reduceBEq, Nat.reduceLeDiff]))), (by repeat' (first | exact trivial | refine And.intro ?_ ?_ | rfl | (simp (disch := omega) only [go_sem, if_yes, if_no, ↓reduceIte, Nat.reduceAdd, Nat.reduceMul, Nat.reduceEqDiff, Nat.reduceBEq, Nat.reduceLeDiff]; rfl) | (simp (disch := omega) only [go_sem, if_yes, if_no, ↓reduceIte, Nat.reduceAdd, Nat.reduceMul, Nat.reduceEqDiff, Nat.reduceBEq, Nat.reduceLeDiff]))), rfl, hold_one (by simp only [go_sem, hbn, ↓reduceIte]; rw [← s2, List.map_set]; rfl) (by simp only [go_sem]; omega)⟩
  · obtain rfl : i = m := by omega
    refine st_loopC (α := Nat) tab mixed [] [] (by repeat (first | exact trivial | refine ⟨rfl, ?_⟩)) [] [] (by repeat (first | exact trivial | refine ⟨rfl, ?_⟩)) (fun j => [(17, .int .i64 (j : Nat))]) [(7, _), (10, _)] (fun _ => []) [] (fun j => j ≤ i) (fun j => i - j) (by decide) 0 (Nat.zero_le _) (by (try simp only [go_sem]); repeat' (first | exact trivial | refine And.intro ?_ ?_ | rfl | (simp (disch := omega) only [go_sem, if_yes, if_no, ↓reduceIte, Nat.reduceAdd, Nat.reduceMul, Nat.reduceEqDiff, Nat.reduceBEq, Nat.reduceLeDiff]; rfl) | (simp (disch := omega) only [go_sem, if_yes, if_no, ↓reduceIte, Nat.reduceAdd, Nat.reduceMul, Nat.reduceEqDiff, Nat.reduceBEq, Nat.reduceLeDiff]))) (by (try simp only [go_sem]); repeat' (first | exact trivial | refine And.intro ?_ ?_ | rfl | (simp (disch := omega) only [go_sem, if_yes, if_no, ↓reduceIte, Nat.reduceAdd, Nat.reduceMul, Nat.reduceEqDiff, Nat.reduceBEq, Nat.reduceLeDiff]; rfl) | (simp (disch := omega) only [go_sem, if_yes, if_no, ↓reduceIte, Nat.reduceAdd, Nat.reduceMul, Nat.reduceEqDiff, Nat.reduceBEq, Nat.reduceLeDiff]))) (by first | (simp only [go_sem]; rfl) | rfl) (by intro n; simp only [go_sem]; rfl) ?_
    intro j c3 j1 hc3
    have hw1 := fun hj : j < i => wonL_full (C := C) hj
    simp only [go_sem] at hc3 ⊢
    repeat' (first
        | refine st_seq_reg rfl (by first | (simp only [go_sem, List.length_map, hwl, hw1, Nat.zero_add]; rfl) | rfl) (by first | (simp only [go_sem, List.length_map, hwl, hw1, Nat.zero_add]; rfl) | rfl) ?_
        | refine st_reg rfl (by first | (simp only [go_sem, List.length_map, hwl, hw1, Nat.zero_add]; rfl) | rfl) (by first | (simp only [go_sem, List.length_map, hwl, hw1, Nat.zero_add]; rfl) | rfl) ?_
        | refine st_seq_draw rfl (by first | (simp only [go_sem, List.length_map, hwl, hw1, Nat.zero_add]; rfl) | rfl) (by first | (simp only [go_sem, List.length_map, hwl, hw1, Nat.zero_add]; rfl) | rfl) ?_
        | refine st_draw rfl (by first | (simp only [go_sem, List.length_map, hwl, hw1, Nat.zero_add]; rfl) | rfl) (by first | (simp only [go_sem, List.length_map, hwl, hw1, Nat.zero_add]; rfl) | rfl) ?_
        | refine st_op ?_
        | refine st_det rfl (by simp (disch := omega) only [go_sem, wr_i64, if_yes, if_no, ↓reduceIte, Nat.reduceAdd, Nat.reduceMul, Nat.reduceEqDiff, Nat.reduceBEq, Nat.reduceLeDiff, List.length_map, hwl, hw1, Nat.zero_add]; rfl) ?_
        | refine st_dop rfl ?_
        | refine st_loc rfl (by simp (disch := omega) only [go_sem, wr_i64, if_yes, if_no, ↓reduceIte, Nat.reduceAdd, Nat.reduceMul, Nat.reduceEqDiff, Nat.reduceBEq, Nat.reduceLeDiff, List.length_map, hwl, hw1, Nat.zero_add]; rfl) ?_
        | refine st_heap rfl (by simp (disch := omega) only [go_sem, wr_i64, if_yes, if_no, ↓reduceIte, Nat.reduceAdd, Nat.reduceMul, Nat.reduceEqDiff, Nat.reduceBEq, Nat.reduceLeDiff, List.length_map, hwl, hw1, Nat.zero_add]; rfl) ?_
        | refine st_store (by simp (disch := omega) only [go_sem, wr_i64, if_yes, if_no, ↓reduceIte, Nat.reduceAdd, Nat.reduceMul, Nat.reduceEqDiff, Nat.reduceBEq, Nat.reduceLeDiff, List.length_map, hwl, hw1, Nat.zero_add]; rfl) ?_
        | refine st_append (by simp (disch := omega) only [go_sem, wr_i64, if_yes, if_no, ↓reduceIte, Nat.reduceAdd, Nat.reduceMul, Nat.reduceEqDiff, Nat.reduceBEq, Nat.reduceLeDiff, List.length_map, hwl, hw1, Nat.zero_add]; rfl) ?_
        | refine st_copy (by simp (disch := omega) only [go_sem, wr_i64, if_yes, if_no, ↓reduceIte, Nat.reduceAdd, Nat.reduceMul, Nat.reduceEqDiff, Nat.reduceBEq, Nat.reduceLeDiff, List.length_map, hwl, hw1, Nat.zero_add]; rfl) ?_
        | (refine st_pureE (by first | (simp (disch := omega) only [go_sem, List.length_map, hwl, hw1, Nat.zero_add]; rfl) | rfl) rfl (c15) (by first | (simp only [go_sem, List.length_map, hwl, hw1, Nat.zero_add]; rfl) | rfl) (by intro n; simp (disch := omega) only [go_sem]; rfl) ?_; intro n hn)
        | refine st_gT rfl rfl rfl ?_
        | refine st_gF rfl rfl rfl ?_
        | refine st_dgT rfl rfl rfl rfl ?_
        | refine st_dgF rfl rfl rfl ?_
        | (refine st_gS rfl rfl ?_ ?_ <;> intro hg <;> (try simp only [decide_eq_true_eq, decide_eq_false_iff_not, Bool.not_eq_true', Bool.not_eq_false'] at hg))
        | (refine st_dgS rfl rfl ?_ ?_ <;> intro hg <;> (try simp only [decide_eq_true_eq, decide_eq_false_iff_not, Bool.not_eq_true', Bool.not_eq_false'] at hg))
        | refine st_condT rfl ?_
        | refine st_condF rfl ?_
        | (refine st_condS rfl ?_ ?_ <;> intro hg <;> (try simp only [decide_eq_true_eq, decide_eq_false_iff_not, Bool.not_eq_true', Bool.not_eq_false'] at hg))
        | refine st_nil ?_
        | refine st_dnil ?_
        | refine st_tN ?_
        | refine st_seq ?_
        | refine st_block ?_
        | refine st_skip ?_
        | refine st_exit ?_
        | refine st_ret ?_
        | refine st_tE ?_
        | refine st_tR ?_
        | refine st_bN ?_
        | refine st_bR ?_
        | refine st_bH ?_
        | refine st_noN ?_
        | refine st_noR ?_
        | refine st_noE ?_
        | refine st_label ?_
        | refine st_scope tab mixed (by decide) ?_
        | refine st_bM rfl ?_)
    all_goals try (exfalso; omega)
    · refine ⟨j + 1, by show j + 1 ≤ i; omega, by show i - (j + 1) < i - j; omega, (by repeat' (first | exact trivial | refine And.intro ?_ ?_ | rfl | (simp (disch := omega) only [go_sem, if_yes, if_no, ↓reduceIte, Nat.reduceAdd, Nat.reduceMul, Nat.reduceEqDiff, Nat.reduceBEq, Nat.reduceLeDiff]; rfl) | (simp (disch := omega) only [go_sem, if_yes, if_no, ↓reduceIte, Nat.reduceAdd, Nat.reduceMul, Nat.reduceEqDiff, Nat.reduceBEq, Nat.reduceLeDiff]))), (by repeat' (first | exact trivial | refine And.intro ?_ ?_ | rfl | (simp (disch := omega) only [go_sem, if_yes, if_no, ↓reduceIte, Nat.reduceAdd, Nat.reduceMul, Nat.reduceEqDiff, Nat.reduceBEq, Nat.reduceLeDiff]; rfl) | (simp (disch := omega) only [go_sem, if_yes, if_no, ↓reduceIte, Nat.reduceAdd, Nat.reduceMul, Nat.reduceEqDiff, Nat.reduceBEq, Nat.reduceLeDiff]))), rfl, HOld.tick (by simp only [go_sem]; omega)⟩
    · simp (disch := omega) only [AEnd, Try.results9, aresK, fin, go_sem, ↓reduceIte, Nat.reduceEqDiff, Nat.reduceAdd, Nat.reduceLeDiff, if_yes, if_no, implies_true, true_and, and_true, List.reverse_cons, List.reverse_nil]
end Go.Proofs.Ytbbkeakbomngoaa
