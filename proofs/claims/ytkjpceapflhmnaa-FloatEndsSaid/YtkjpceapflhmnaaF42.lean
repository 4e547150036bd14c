/- Contracts of functions that the claim reaches: what each call gives, told in our own logic. Conditions: those of each theorem. -/
import Derived.Test.YtkjpceapflhmnaaF41
import Derived.Test.YtkjpceapflhmnaaF22
import Derived.Test.YtkjpceapflhmnaaF24
set_option linter.all false
set_option linter.unusedSimpArgs false
set_option linter.unusedVariables false
namespace Go.Proofs.Ytkjpceapflhmnaa
open Go.Av
attribute [local irreducible] thenA blockA awp awpOps awpD awp1
set_option maxHeartbeats 8000000
set_option maxRecDepth 20000
def agrB (v : Int) (p : Bool) : Bool := decide (v = 3) || (decide (v = 1) && p) || (decide (v = 2) && !p)
theorem agrB_of {v : Int} {p : Prop} [Decidable p] (h : Agr v p) : agrB v (decide p) = true := by
  unfold Agr at h
  unfold agrB
  rcases h with h | ⟨h, k⟩ | ⟨h, k⟩
  · simp [h]
  · simp [h, k]
  · simp [h, k]
theorem c57 (v : Int) (p : Bool) : Pure Try.prog 57 [.int .i64 v, .bool p] (fun x => x = .bool (agrB v p)) := by
  intro h
  refine ACalls.forget (ACalls.of tab mixed Try.call57 Try.func57 rfl (fi := ⟨22, [], [], none, []⟩) rfl rfl (Nat.le_of_ble_eq_true rfl) (by decide) ?_)
  unfold startA
  repeat' (first
      | refine st_seq_reg rfl (by first | (simp only [go_sem]; rfl) | rfl) (by first | (simp only [go_sem]; rfl) | rfl) ?_
      | refine st_reg rfl (by first | (simp only [go_sem]; rfl) | rfl) (by first | (simp only [go_sem]; rfl) | rfl) ?_
      | refine st_seq_draw rfl (by first | (simp only [go_sem]; rfl) | rfl) (by first | (simp only [go_sem]; rfl) | rfl) ?_
      | refine st_draw rfl (by first | (simp only [go_sem]; rfl) | rfl) (by first | (simp only [go_sem]; rfl) | rfl) ?_
      | refine st_op ?_
      | refine st_det rfl (by simp (disch := omega) only [go_sem, wr_i64, if_yes, if_no, ↓reduceIte, Nat.reduceAdd, Nat.reduceMul, Nat.reduceEqDiff, Nat.reduceBEq, Nat.reduceLeDiff]; rfl) ?_
      | refine st_dop rfl ?_
      | refine st_loc rfl (by simp (disch := omega) only [go_sem, wr_i64, if_yes, if_no, ↓reduceIte, Nat.reduceAdd, Nat.reduceMul, Nat.reduceEqDiff, Nat.reduceBEq, Nat.reduceLeDiff]; rfl) ?_
      | refine st_heap rfl (by simp (disch := omega) only [go_sem, wr_i64, if_yes, if_no, ↓reduceIte, Nat.reduceAdd, Nat.reduceMul, Nat.reduceEqDiff, Nat.reduceBEq, Nat.reduceLeDiff]; rfl) ?_
      | refine st_store (by simp (disch := omega) only [go_sem, wr_i64, if_yes, if_no, ↓reduceIte, Nat.reduceAdd, Nat.reduceMul, Nat.reduceEqDiff, Nat.reduceBEq, Nat.reduceLeDiff]; rfl) ?_
      | refine st_append (by simp (disch := omega) only [go_sem, wr_i64, if_yes, if_no, ↓reduceIte, Nat.reduceAdd, Nat.reduceMul, Nat.reduceEqDiff, Nat.reduceBEq, Nat.reduceLeDiff]; rfl) ?_
      | refine st_gT rfl rfl rfl ?_
      | refine st_gF rfl rfl rfl ?_
      | refine st_dgT rfl rfl rfl rfl ?_
      | refine st_dgF rfl rfl rfl ?_
      | (refine st_gS rfl rfl ?_ ?_ <;> intro hg <;> (try simp only [decide_eq_true_eq, decide_eq_false_iff_not, Bool.not_eq_true', Bool.not_eq_false'] at hg))
      | (refine st_dgS rfl rfl ?_ ?_ <;> intro hg <;> (try simp only [decide_eq_true_eq, decide_eq_false_iff_not, Bool.not_eq_true', Bool.not_eq_false'] at hg))
      | refine st_condT rfl ?_
      | refine st_condF rfl ?_
      | (refine st_condS rfl ?_ ?_ <;> intro hg <;> (try simp only [decide_eq_true_eq, decide_eq_false_iff_not, Bool.not_eq_true', Bool.not_eq_false'] at hg))
      | refine st_nil ?_
      | refine st_dnil ?_
      | refine st_tN ?_
      | refine st_seq ?_
      | refine st_block ?_
      | refine st_skip ?_
      | refine st_exit ?_
      | refine st_ret ?_
      | refine st_tE ?_
      | refine st_tR ?_
      | refine st_bN ?_
      | refine st_bR ?_
      | refine st_bH ?_
      | refine st_bM rfl ?_)
  all_goals
    simp (disch := omega) only [AEnd, Try.results57, aresK, fin, go_sem, ↓reduceIte, Nat.reduceEqDiff, Nat.reduceAdd, Nat.reduceLeDiff, if_yes, if_no, implies_true, true_and, and_true, List.reverse_cons, List.reverse_nil]
    try simp [agrB, *]
    try omega
theorem c54t (f : Fl) (ks ts : List Int) (hf : FlOk f) (hk : KsOk ks) (hl : ks.length ≤ f.loads.length) : Pure Try.prog 54 [f.av, tr ks ts] (fun v => v = .tup [.int .i64 (frT f ks), .int .i64 (reT f ks)]) := c54 f ks ts hf hk hl
theorem c55t (f : Fl) (ks ts : List Int) (hf : FlOk f) (hk : KsOk ks) : Pure Try.prog 55 [f.av, tr ks ts] (fun v => v = .int .i64 (toT f ks)) := c55 f ks ts hf hk
theorem c56t (f : Fl) (ks ts : List Int) (hl : ts.length ≤ 1000) : Pure Try.prog 56 [f.av, tr ks ts] (fun v => v = .int .i64 (taT f ts)) := c56 f ks ts hl
theorem c58 (f : Fl) (x : Hu) (ks ts : List Int) (hf : FlOk f) (hk : KsOk ks) (hl : ks.length ≤ f.loads.length) (ht : ts.length ≤ 1000) (hx : HuOk x) : Pure Try.prog 58 [f.av, x.av, tr ks ts] (fun v => v = .bool (decide (goesT f x ks ts))) := by
  have h1 := hf.len; have h2 := hf.axles; have h3 := hf.wid; have h4 := hf.turn
  have ha := hx.a; have hb := hx.b; have hc := hx.bend
  have s1 := mul_bd hx.b (A := 3000) (x := f.rear - f.front) (by omega)
  have e2 : uI (2 * x.a + f.wid) 2 = (2 * x.a + f.wid + 1) / 2 := upTwo
  intro h
  refine ACalls.forget (ACalls.of tab mixed Try.call58 Try.func58 rfl (fi := ⟨68, [], [3, 4, 5], none, [(3, [0, 0, 0, 4, 0, 16, 48, 0, 128, 496, 1008, 2044, 4095, 8191], [(0, true), (1, true), (2, false), (3, true), (4, false), (5, true), (6, false), (7, false), (8, true), (9, false), (10, false), (11, false), (12, false), (13, false)]), (5, [0, 0, 3, 0, 8, 31, 63], [(0, true), (1, true), (3, false), (4, true), (2, false), (5, false), (6, false)]), (8, [0, 0, 3, 0, 8, 31, 63, 127, 127, 383, 127, 1919, 4095, 8191, 16383, 32767, 32767, 98303, 32767, 491519, 1048575, 2097151, 4194303], [(0, true), (1, true), (3, false), (4, true), (2, false), (5, false), (6, false), (7, false), (8, false), (9, true), (10, false), (11, false), (12, false), (13, false), (14, false), (15, false), (16, false), (17, true), (18, false), (19, false), (20, false), (21, false), (22, false)])]⟩) rfl rfl (Nat.le_of_ble_eq_true rfl) (by decide) ?_)
  unfold startA
  simp only [go_sem]
  repeat' (first
      | refine st_seq_reg rfl (by first | (simp only [go_sem]; rfl) | rfl) (by first | (simp only [go_sem]; rfl) | rfl) ?_
      | refine st_reg rfl (by first | (simp only [go_sem]; rfl) | rfl) (by first | (simp only [go_sem]; rfl) | rfl) ?_
      | refine st_seq_draw rfl (by first | (simp only [go_sem]; rfl) | rfl) (by first | (simp only [go_sem]; rfl) | rfl) ?_
      | refine st_draw rfl (by first | (simp only [go_sem]; rfl) | rfl) (by first | (simp only [go_sem]; rfl) | rfl) ?_
      | refine st_op ?_
      | refine st_det rfl (by simp (disch := omega) only [go_sem, wr_i64, if_yes, if_no, ↓reduceIte, Nat.reduceAdd, Nat.reduceMul, Nat.reduceEqDiff, Nat.reduceBEq, Nat.reduceLeDiff]; rfl) ?_
      | refine st_dop rfl ?_
      | refine st_loc rfl (by simp (disch := omega) only [go_sem, wr_i64, if_yes, if_no, ↓reduceIte, Nat.reduceAdd, Nat.reduceMul, Nat.reduceEqDiff, Nat.reduceBEq, Nat.reduceLeDiff]; rfl) ?_
      | refine st_heap rfl (by simp (disch := omega) only [go_sem, wr_i64, if_yes, if_no, ↓reduceIte, Nat.reduceAdd, Nat.reduceMul, Nat.reduceEqDiff, Nat.reduceBEq, Nat.reduceLeDiff]; rfl) ?_
      | refine st_store (by simp (disch := omega) only [go_sem, wr_i64, if_yes, if_no, ↓reduceIte, Nat.reduceAdd, Nat.reduceMul, Nat.reduceEqDiff, Nat.reduceBEq, Nat.reduceLeDiff]; rfl) ?_
      | refine st_append (by simp (disch := omega) only [go_sem, wr_i64, if_yes, if_no, ↓reduceIte, Nat.reduceAdd, Nat.reduceMul, Nat.reduceEqDiff, Nat.reduceBEq, Nat.reduceLeDiff]; rfl) ?_
      | (refine st_pureE (by first | (simp (disch := omega) only [go_sem]; rfl) | rfl) rfl (c65 (2 * x.a + f.wid) 2 (by omega) (by omega)) (by first | (simp only [go_sem]; rfl) | rfl) (by intro n; simp (disch := omega) only [go_sem]; rfl) ?_; intro n hn)
      | (refine st_pureE (by first | (simp (disch := omega) only [go_sem]; rfl) | rfl) rfl (c20 f x (max f.turn (uI (2 * x.a + f.wid) 2)) hf (by omega) (by omega) (by omega)) (by first | (simp only [go_sem]; rfl) | rfl) (by intro n; simp (disch := omega) only [go_sem]; rfl) ?_; intro n hn)
      | (refine st_pureE (by first | (simp (disch := omega) only [go_sem]; rfl) | rfl) rfl (c56t f ks ts ht) (by first | (simp only [go_sem]; rfl) | rfl) (by intro n; simp (disch := omega) only [go_sem]; rfl) ?_; intro n hn)
      | (refine st_pureE (by first | (simp (disch := omega) only [go_sem]; rfl) | rfl) rfl (c54t f ks ts hf hk hl) (by first | (simp only [go_sem]; rfl) | rfl) (by intro n; simp (disch := omega) only [go_sem]; rfl) ?_; intro n hn)
      | (refine st_pureE (by first | (simp (disch := omega) only [go_sem]; rfl) | rfl) rfl (c55t f ks ts hf hk) (by first | (simp only [go_sem]; rfl) | rfl) (by intro n; simp (disch := omega) only [go_sem]; rfl) ?_; intro n hn)
      | refine st_gT rfl rfl rfl ?_
      | refine st_gF rfl rfl rfl ?_
      | refine st_dgT rfl rfl rfl rfl ?_
      | refine st_dgF rfl rfl rfl ?_
      | (refine st_gS rfl rfl ?_ ?_ <;> intro hg <;> (try simp only [decide_eq_true_eq, decide_eq_false_iff_not, Bool.not_eq_true', Bool.not_eq_false'] at hg))
      | (refine st_dgS rfl rfl ?_ ?_ <;> intro hg <;> (try simp only [decide_eq_true_eq, decide_eq_false_iff_not, Bool.not_eq_true', Bool.not_eq_false'] at hg))
      | refine st_condT rfl ?_
      | refine st_condF rfl ?_
      | (refine st_condS rfl ?_ ?_ <;> intro hg <;> (try simp only [decide_eq_true_eq, decide_eq_false_iff_not, Bool.not_eq_true', Bool.not_eq_false'] at hg))
      | refine st_nil ?_
      | refine st_dnil ?_
      | refine st_tN ?_
      | refine st_seq ?_
      | refine st_block ?_
      | refine st_skip ?_
      | refine st_exit ?_
      | refine st_ret ?_
      | refine st_tE ?_
      | refine st_tR ?_
      | refine st_bN ?_
      | refine st_bR ?_
      | refine st_bH ?_
      | refine st_bM rfl ?_)
  all_goals
    simp (disch := omega) only [AEnd, Try.results58, aresK, fin, go_sem, ↓reduceIte, Nat.reduceEqDiff, Nat.reduceAdd, Nat.reduceLeDiff, if_yes, if_no, implies_true, true_and, and_true, List.reverse_cons, List.reverse_nil]
    all_goals simp [goesT, *]
/-- Two slices are given away; the drum goes on. -/
theorem Drum.give2 {P : Program} {f : FuncId} {args : List AV} {b : Nat × Nat} {R : AV → Prop} (he : Enters P f)
    (H : ∀ h x, h.at_ b = dr x → isU64 x → b.1 < h.clk → (∀ b' k, h.at_ b' = some k → b'.1 < h.clk) → ACalls P f args h (fun v h' => (∀ b', b'.1 < h.clk → b' ≠ b → h'.at_ b' = h.at_ b') ∧ (∃ x', h'.at_ b = dr x' ∧ isU64 x') ∧ h'.lp = h.lp ∧
      ((∃ v', VLe v v' ∧ R v') ∨ ∃ b1 k1 b2 k2, h.clk ≤ b1.1 ∧ h.clk ≤ b2.1 ∧ b2 ≠ b1 ∧ h'.at_ b1 = some k1 ∧ h'.at_ b2 = some k2 ∧ R (frz b2 k2 (frz b1 k1 v))))) : Drum P f args b R := by
  refine Drum.give he fun h x hx hu hb => ACalls.old he fun hold => ?_
  refine ((H h x hx hu hb hold).mono (Q' := fun v h' => (∃ v', VLe v v' ∧ ((∀ b', b'.1 < h.clk → b' ≠ b → h'.at_ b' = h.at_ b') ∧ (∃ x', h'.at_ b = dr x' ∧ isU64 x') ∧ h'.lp = h.lp ∧ ((∃ v'', VLe v' v'' ∧ R v'') ∨ ∃ b2 k, h.clk ≤ b2.1 ∧ h'.at_ b2 = some k ∧ R (frz b2 k v')))) ∨ ∃ b1 k1, h'.at_ b1 = some k1 ∧ h.at_ b1 = none ∧
    ((∀ b', b'.1 < h.clk → b' ≠ b → (h'.put b1 none).at_ b' = h.at_ b') ∧ (∃ x', (h'.put b1 none).at_ b = dr x' ∧ isU64 x') ∧ (h'.put b1 none).lp = h.lp ∧ ((∃ v'', VLe (frz b1 k1 v) v'' ∧ R v'') ∨ ∃ b2 k, h.clk ≤ b2.1 ∧ (h'.put b1 none).at_ b2 = some k ∧ R (frz b2 k (frz b1 k1 v))))) ?_).give
  rintro v h' ⟨h1, ⟨x', h5, h6⟩, h2, h3 | ⟨b1, k1, b2, k2, g1, g2, g3, g4, g5, g6⟩⟩
  · obtain ⟨v', hv, hr⟩ := h3
    exact .inl ⟨v, VLe.refl v, h1, ⟨x', h5, h6⟩, h2, .inl ⟨v', hv, hr⟩⟩
  · refine .inr ⟨b1, k1, g4, ?_, fun b' hb' hne => ?_, ⟨x', ?_, h6⟩, h2, .inr ⟨b2, k2, g2, ?_, g6⟩⟩
    · cases e : h.at_ b1 with
      | none => rfl
      | some k' => exact absurd (hold b1 k' e) (by omega)
    · rw [put_ne _ _ (fun e => by rw [e] at hb'; omega)]; exact h1 b' hb' hne
    · rw [put_ne _ _ (fun e => by rw [e] at hb; omega)]; exact h5
    · rw [put_ne _ _ g3]; exact g5
theorem hold_same {h : AH} {m : Nat} {b : Nat × Nat} {x : Int} (hx : h.at_ b = dr x) : HOld ((h.tick m).put b (dr x)) (h.tick m) := by
  refine ⟨fun z k hz => ?_, fun _ _ e => e, Nat.le_refl _⟩
  simp only [AH.put, upd_apply, AH.tick] at hz ⊢
  by_cases e : z = b
  · subst e
    rw [hx]
    simpa using hz
  · simpa [e] using hz
def TrUp (l : List Ld) (i : Nat) (ks ts : List Int) : Prop := ks.length = i ∧ ts.length = i ∧ ∀ j, j < i → ((ld l j).lo ≤ ks.getD j 0 ∧ ks.getD j 0 ≤ (ld l j).hi) ∧ ((ld l j).tlo ≤ ts.getD j 0 ∧ ts.getD j 0 ≤ (ld l j).thi)
theorem TrUp.step {l : List Ld} {i : Nat} {ks ts : List Int} {r q : Int} (h : TrUp l i ks ts) (hr : (ld l i).lo ≤ r ∧ r ≤ (ld l i).hi) (hq : (ld l i).tlo ≤ q ∧ q ≤ (ld l i).thi) : TrUp l (i + 1) (ks ++ [r]) (ts ++ [q]) := by
  obtain ⟨h1, h2, h3⟩ := h
  refine ⟨by simp [h1], by simp [h2], fun j hj => ?_⟩
  by_cases e : j = i
  · subst e
    have e1 : (ks ++ [r]).getD j 0 = r := by simp [List.getD_eq_getElem?_getD, ← h1]
    have e2 : (ts ++ [q]).getD j 0 = q := by simp [List.getD_eq_getElem?_getD, ← h2]
    rw [e1, e2]; exact ⟨hr, hq⟩
  · have e1 : (ks ++ [r]).getD j 0 = ks.getD j 0 := by simp only [List.getD_eq_getElem?_getD]; rw [List.getElem?_append_left (by omega)]
    have e2 : (ts ++ [q]).getD j 0 = ts.getD j 0 := by simp only [List.getD_eq_getElem?_getD]; rw [List.getElem?_append_left (by omega)]
    rw [e1, e2]; exact h3 j (by omega)
theorem TrUp.done {l : List Ld} {ks ts : List Int} (h : TrUp l l.length ks ts) : TrIn l ks ts := ⟨h.1, h.2.1, fun j hj => (h.2.2 j hj).1, fun j hj => (h.2.2 j hj).2⟩
theorem trKs {f : Fl} {n : Int} {ks ts : List Int} (hf : FlGood f n) (hn : n ≤ 20) (h : TrIn f.loads ks ts) : KsOk ks ∧ ks.length ≤ f.loads.length ∧ ts.length ≤ 1000 := by
  have hm := hf.many
  have h1 := h.kl; have h2 := h.tl
  refine ⟨⟨by omega, fun i hi => ?_⟩, by omega, by omega⟩
  have hx := (hf.loads _ (ld_mem (l := f.loads) (i := i) (by omega))).kilos
  have hk := h.k i (by omega)
  omega
theorem hold7 {h : AH} {m m' : Nat} {b j1 j2 : Nat × Nat} {d d' : Option Blk} {y1 y2 z1 z2 : List (List AV)} (hn : m ≤ m') (n1 : ¬ j1 = b) (n2 : ¬ j2 = b) (n3 : ¬ j1 = j2) (hy : y1 = z1) (hy2 : y2 = z2) :
    HOld ((((h.tick m).put j1 (some ⟨1, y1⟩)).put j2 (some ⟨1, y2⟩)).put b d') (((((h.tick m').put b d).put j1 (some ⟨1, z1⟩)).put b d').put j2 (some ⟨1, z2⟩)) := by
  subst hy hy2
  refine ⟨fun z k' hz => ?_, fun _ _ e => e, hn⟩
  simp only [AH.put, upd_apply, AH.tick] at hz ⊢
  have n1' : ¬ b = j1 := fun e => n1 e.symm
  have n2' : ¬ b = j2 := fun e => n2 e.symm
  by_cases e : z = j2
  · subst e; simpa [n2] using hz
  · by_cases e2 : z = b
    · subst e2; simpa [e, n1'] using hz
    · by_cases e3 : z = j1
      · subst e3; simpa [e, e2] using hz
      · simpa [e, e2, e3] using hz
theorem hold8 {h : AH} {m m' : Nat} {b b1 b2 j1 j2 : Nat × Nat} {d d' x1 x2 : Option Blk} {y1 y2 z1 z2 : List (List AV)} (hn : m ≤ m') (n1 : ¬ j1 = b) (n2 : ¬ j2 = b) (n3 : ¬ j1 = j2) (n4 : ¬ j1 = b2) (n6 : ¬ b2 = b) (hb1 : h.at_ b1 = none) (hb2 : h.at_ b2 = none) (hy : y1 = z1) (hy2 : y2 = z2) :
    HOld ((((h.tick m).put j1 (some ⟨1, y1⟩)).put j2 (some ⟨1, y2⟩)).put b d') (((((((((h.tick m').put b1 x1).put b2 x2).put b d).put b1 none).put j1 (some ⟨1, z1⟩)).put b d').put b2 none).put j2 (some ⟨1, z2⟩)) := by
  subst hy hy2
  refine ⟨fun z k' hz => ?_, fun _ _ e => e, hn⟩
  simp only [AH.put, upd_apply, AH.tick] at hz ⊢
  have n6' : ¬ b = b2 := fun e => n6 e.symm
  by_cases e : z = j2
  · subst e; simpa [n2] using hz
  · by_cases e2 : z = b
    · subst e2; simpa [e, n6'] using hz
    · by_cases e3 : z = j1
      · subst e3; simpa [e, e2, n4] using hz
      · by_cases e4 : z = b1
        · subst e4; simp [e, e2, e3, hb1] at hz
        · by_cases e5 : z = b2
          · subst e5; simp [e, e2, e3, hb2] at hz
          · simpa [e, e2, e3, e4, e5] using hz
/-- What the loop over loads keeps. -/
structure TrS where
  i : Nat
  x : Int
  t : Nat
  b1 : Nat × Nat
  b2 : Nat × Nat
  ks : List Int
  ts : List Int
def TrS.s1 (a : TrS) : AV := if a.i = 0 then .nils else .slc a.b1 1 0 a.i
def TrS.s2 (a : TrS) : AV := if a.i = 0 then .nils else .slc a.b2 1 0 a.i
def TrS.hp (h : AH) (b : Nat × Nat) (a : TrS) : AH := if a.i = 0 then (h.tick a.t).put b (dr a.x) else (((h.tick a.t).put a.b1 (some ⟨1, a.ks.map iv⟩)).put a.b2 (some ⟨1, a.ts.map iv⟩)).put b (dr a.x)
@[go_sem] theorem TrS.s1_z (x : Int) (t : Nat) (b1 b2 : Nat × Nat) (ks ts : List Int) : TrS.s1 ⟨0, x, t, b1, b2, ks, ts⟩ = .nils := rfl
@[go_sem] theorem TrS.s2_z (x : Int) (t : Nat) (b1 b2 : Nat × Nat) (ks ts : List Int) : TrS.s2 ⟨0, x, t, b1, b2, ks, ts⟩ = .nils := rfl
@[go_sem] theorem TrS.s1_s (i : Nat) (x : Int) (t : Nat) (b1 b2 : Nat × Nat) (ks ts : List Int) : TrS.s1 ⟨i + 1, x, t, b1, b2, ks, ts⟩ = .slc b1 1 0 (i + 1) := by simp [TrS.s1]
@[go_sem] theorem TrS.s2_s (i : Nat) (x : Int) (t : Nat) (b1 b2 : Nat × Nat) (ks ts : List Int) : TrS.s2 ⟨i + 1, x, t, b1, b2, ks, ts⟩ = .slc b2 1 0 (i + 1) := by simp [TrS.s2]
theorem c53 (b : Nat × Nat) (f : Fl) (n : Int) (hf : FlGood f n) (hn : n ≤ 20) : Drum Try.prog 53 [.ptr b 0 0, f.av] b (fun v => ∃ ks ts, v = .agg [.lst 1 (ks.map iv), .lst 1 (ts.map iv)] ∧ TrIn f.loads ks ts) := by
  have hfl : f.loads.length ≤ 20 := by have := hf.many; omega
  refine Drum.give2 Try.call53 fun h x hx hu hb hold => ?_
  refine ACalls.of tab mixed Try.call53 Try.func53 rfl (fi := ⟨41, [4, 5], [3, 24, 36], none, [(5, [0, 1, 0, 0, 8, 0, 56, 120, 248, 508, 1020, 2047, 0, 4096, 0, 0, 32768, 0, 229376, 491520, 1015808, 2084863, 4182015, 8388607, 16383, 33554431, 67108863, 134217727], [(0, false), (1, true), (2, false), (3, false), (4, true), (5, false), (6, false), (7, false), (8, true), (12, false), (13, true), (14, false), (15, false), (16, true), (17, false), (18, false), (19, false), (20, true), (9, false), (10, false), (11, false), (24, false), (21, false), (22, false), (23, false), (25, false), (26, false), (27, false)])]⟩) rfl rfl (Nat.le_of_ble_eq_true rfl) (by decide) ?_
  unfold startA
  simp only [go_sem]
  repeat' (first
      | refine st_seq_reg rfl (by first | (simp only [go_sem]; rfl) | rfl) (by first | (simp only [go_sem]; rfl) | rfl) ?_
      | refine st_reg rfl (by first | (simp only [go_sem]; rfl) | rfl) (by first | (simp only [go_sem]; rfl) | rfl) ?_
      | refine st_seq_draw rfl (by first | (simp only [go_sem]; rfl) | rfl) (by first | (simp only [go_sem]; rfl) | rfl) ?_
      | refine st_draw rfl (by first | (simp only [go_sem]; rfl) | rfl) (by first | (simp only [go_sem]; rfl) | rfl) ?_
      | refine st_op ?_
      | refine st_det rfl (by simp (disch := omega) only [go_sem, wr_i64, if_yes, if_no, ↓reduceIte, Nat.reduceAdd, Nat.reduceMul, Nat.reduceEqDiff, Nat.reduceBEq, Nat.reduceLeDiff]; rfl) ?_
      | refine st_dop rfl ?_
      | refine st_loc rfl (by simp (disch := omega) only [go_sem, wr_i64, if_yes, if_no, ↓reduceIte, Nat.reduceAdd, Nat.reduceMul, Nat.reduceEqDiff, Nat.reduceBEq, Nat.reduceLeDiff]; rfl) ?_
      | refine st_heap rfl (by simp (disch := omega) only [go_sem, wr_i64, if_yes, if_no, ↓reduceIte, Nat.reduceAdd, Nat.reduceMul, Nat.reduceEqDiff, Nat.reduceBEq, Nat.reduceLeDiff]; rfl) ?_
      | refine st_store (by simp (disch := omega) only [go_sem, wr_i64, if_yes, if_no, ↓reduceIte, Nat.reduceAdd, Nat.reduceMul, Nat.reduceEqDiff, Nat.reduceBEq, Nat.reduceLeDiff]; rfl) ?_
      | refine st_append (by simp (disch := omega) only [go_sem, wr_i64, if_yes, if_no, ↓reduceIte, Nat.reduceAdd, Nat.reduceMul, Nat.reduceEqDiff, Nat.reduceBEq, Nat.reduceLeDiff]; rfl) ?_
      | refine st_gT rfl rfl rfl ?_
      | refine st_gF rfl rfl rfl ?_
      | refine st_dgT rfl rfl rfl rfl ?_
      | refine st_dgF rfl rfl rfl ?_
      | (refine st_gS rfl rfl ?_ ?_ <;> intro hg <;> (try simp only [decide_eq_true_eq, decide_eq_false_iff_not, Bool.not_eq_true', Bool.not_eq_false'] at hg))
      | (refine st_dgS rfl rfl ?_ ?_ <;> intro hg <;> (try simp only [decide_eq_true_eq, decide_eq_false_iff_not, Bool.not_eq_true', Bool.not_eq_false'] at hg))
      | refine st_condT rfl ?_
      | refine st_condF rfl ?_
      | (refine st_condS rfl ?_ ?_ <;> intro hg <;> (try simp only [decide_eq_true_eq, decide_eq_false_iff_not, Bool.not_eq_true', Bool.not_eq_false'] at hg))
      | refine st_nil ?_
      | refine st_dnil ?_
      | refine st_tN ?_
      | refine st_seq ?_
      | refine st_block ?_
      | refine st_skip ?_
      | refine st_exit ?_
      | refine st_ret ?_
      | refine st_tE ?_
      | refine st_tR ?_
      | refine st_bN ?_
      | refine st_bR ?_
      | refine st_bH ?_
      | refine st_bM rfl ?_)
  refine st_loopH (α := TrS) tab mixed [5] [_] (by repeat (first | exact trivial | refine ⟨rfl, ?_⟩)) [4] [_] (by repeat (first | exact trivial | refine ⟨rfl, ?_⟩)) (fun a => [(6, .int .i64 (a.i : Nat))]) [(0, _), (3, _), (4, _), (5, _)] (fun a => [[a.s1, a.s2]]) [_] (TrS.hp h b) (fun a => a.i ≤ f.loads.length ∧ h.clk + 1 + 1 + 1 ≤ a.t ∧ isU64 a.x ∧ TrUp f.loads a.i a.ks a.ts ∧ (0 < a.i → h.clk ≤ a.b1.1 ∧ a.b1.1 < a.t ∧ h.clk ≤ a.b2.1 ∧ a.b2.1 < a.t ∧ ¬ a.b1 = a.b2)) (fun a => f.loads.length - a.i) (by decide) ⟨0, x, h.clk + 1 + 1 + 1, (0, 0), (0, 0), [], []⟩ ⟨Nat.zero_le _, Nat.le_refl _, hu, ⟨rfl, rfl, fun i hi => absurd hi (Nat.not_lt_zero _)⟩, fun h => absurd h (Nat.lt_irrefl _)⟩ (by (try simp only [go_sem]); repeat' (first | exact trivial | refine And.intro ?_ ?_ | rfl | (simp (disch := omega) only [go_sem, if_yes, if_no, ↓reduceIte, Nat.reduceAdd, Nat.reduceMul, Nat.reduceEqDiff, Nat.reduceBEq, Nat.reduceLeDiff]; rfl) | (simp (disch := omega) only [go_sem, if_yes, if_no, ↓reduceIte, Nat.reduceAdd, Nat.reduceMul, Nat.reduceEqDiff, Nat.reduceBEq, Nat.reduceLeDiff]))) (by (try simp only [go_sem]); repeat' (first | exact trivial | refine And.intro ?_ ?_ | rfl | (simp (disch := omega) only [go_sem, if_yes, if_no, ↓reduceIte, Nat.reduceAdd, Nat.reduceMul, Nat.reduceEqDiff, Nat.reduceBEq, Nat.reduceLeDiff]; rfl) | (simp (disch := omega) only [go_sem, if_yes, if_no, ↓reduceIte, Nat.reduceAdd, Nat.reduceMul, Nat.reduceEqDiff, Nat.reduceBEq, Nat.reduceLeDiff]))) (hold_same hx) ?_
  rintro ⟨i, x0, t, b1, b2, ks, ts⟩ c ⟨i1, i2, i3, i4, i5⟩ hc
  dsimp only at i1 i2 i3 i4 i5
  have hno : ∀ b : Nat × Nat, h.clk ≤ b.1 → h.at_ b = none := by
    intro b hb
    cases e' : h.at_ b with
    | none => rfl
    | some k => exact absurd (hold b k e') (by omega)
  have hld : i < f.loads.length → LdGood f (ld f.loads i) := fun h => hf.loads _ (ld_mem h)
  have hlo : i < f.loads.length → 0 ≤ (ld f.loads i).lo ∧ (ld f.loads i).lo ≤ (ld f.loads i).hi ∧ (ld f.loads i).hi ≤ 900 := fun h => (hld h).kilos
  have htlo : i < f.loads.length → 0 ≤ (ld f.loads i).tlo ∧ (ld f.loads i).tlo ≤ (ld f.loads i).thi ∧ (ld f.loads i).thi ≤ 700 := fun h => (hld h).top
  by_cases e : i = 0
  · subst e
    obtain rfl : ks = [] := List.length_eq_zero_iff.1 i4.1
    obtain rfl : ts = [] := List.length_eq_zero_iff.1 i4.2.1
    have e2 : TrS.hp h b ⟨0, x0, t, b1, b2, [], []⟩ = (h.tick t).put b (dr x0) := rfl
    rw [e2] at hc
    simp only [go_sem] at hc
    simp only [e2, go_sem]
    repeat' (first
        | refine st_seq_reg rfl (by first | (simp only [go_sem, big]; rfl) | rfl) (by first | (simp only [go_sem, big]; rfl) | rfl) ?_
        | refine st_reg rfl (by first | (simp only [go_sem, big]; rfl) | rfl) (by first | (simp only [go_sem, big]; rfl) | rfl) ?_
        | refine st_seq_draw rfl (by first | (simp only [go_sem, big]; rfl) | rfl) (by first | (simp only [go_sem, big]; rfl) | rfl) ?_
        | refine st_draw rfl (by first | (simp only [go_sem, big]; rfl) | rfl) (by first | (simp only [go_sem, big]; rfl) | rfl) ?_
        | refine st_op ?_
        | refine st_det rfl (by simp (disch := omega) only [go_sem, wr_i64, if_yes, if_no, ↓reduceIte, Nat.reduceAdd, Nat.reduceMul, Nat.reduceEqDiff, Nat.reduceBEq, Nat.reduceLeDiff, big]; rfl) ?_
        | refine st_dop rfl ?_
        | refine st_loc rfl (by simp (disch := omega) only [go_sem, wr_i64, if_yes, if_no, ↓reduceIte, Nat.reduceAdd, Nat.reduceMul, Nat.reduceEqDiff, Nat.reduceBEq, Nat.reduceLeDiff, big]; rfl) ?_
        | refine st_heap rfl (by simp (disch := omega) only [go_sem, wr_i64, if_yes, if_no, ↓reduceIte, Nat.reduceAdd, Nat.reduceMul, Nat.reduceEqDiff, Nat.reduceBEq, Nat.reduceLeDiff, big]; rfl) ?_
        | refine st_store (by simp (disch := omega) only [go_sem, wr_i64, if_yes, if_no, ↓reduceIte, Nat.reduceAdd, Nat.reduceMul, Nat.reduceEqDiff, Nat.reduceBEq, Nat.reduceLeDiff, big]; rfl) ?_
        | refine st_append (by simp (disch := omega) only [go_sem, wr_i64, if_yes, if_no, ↓reduceIte, Nat.reduceAdd, Nat.reduceMul, Nat.reduceEqDiff, Nat.reduceBEq, Nat.reduceLeDiff, big]; rfl) ?_
        | (refine st_drum (by first | (simp (disch := omega) only [go_sem, big]; rfl) | rfl) rfl (c42 b (ld f.loads 0).lo (ld f.loads 0).hi (by have := hlo (by omega); omega) (by have := hlo (by omega); omega)) (by first | (simp (disch := omega) only [go_sem, big]; rfl) | rfl) (by assumption) (by first | (simp only [go_sem, big]; rfl) | rfl) (by intro x' n; simp (disch := omega) only [go_sem]; rfl) ?_; rintro v x' n hu' ⟨r, rfl, hr⟩ hn)
        | (refine st_drum (by first | (simp (disch := omega) only [go_sem, big]; rfl) | rfl) rfl (c42 b (ld f.loads 0).tlo (ld f.loads 0).thi (by have := htlo (by omega); omega) (by have := htlo (by omega); omega)) (by first | (simp (disch := omega) only [go_sem, big]; rfl) | rfl) (by assumption) (by first | (simp only [go_sem, big]; rfl) | rfl) (by intro x' n; simp (disch := omega) only [go_sem]; rfl) ?_; rintro v x' n hu' ⟨q, rfl, hq⟩ hn)
        | refine st_gT rfl rfl rfl ?_
        | refine st_gF rfl rfl rfl ?_
        | refine st_dgT rfl rfl rfl rfl ?_
        | refine st_dgF rfl rfl rfl ?_
        | (refine st_gS rfl rfl ?_ ?_ <;> intro hg <;> (try simp only [decide_eq_true_eq, decide_eq_false_iff_not, Bool.not_eq_true', Bool.not_eq_false'] at hg))
        | (refine st_dgS rfl rfl ?_ ?_ <;> intro hg <;> (try simp only [decide_eq_true_eq, decide_eq_false_iff_not, Bool.not_eq_true', Bool.not_eq_false'] at hg))
        | refine st_condT rfl ?_
        | refine st_condF rfl ?_
        | (refine st_condS rfl ?_ ?_ <;> intro hg <;> (try simp only [decide_eq_true_eq, decide_eq_false_iff_not, Bool.not_eq_true', Bool.not_eq_false'] at hg))
        | refine st_nil ?_
        | refine st_dnil ?_
        | refine st_tN ?_
        | refine st_seq ?_
        | refine st_block ?_
        | refine st_skip ?_
        | refine st_exit ?_
        | refine st_ret ?_
        | refine st_tE ?_
        | refine st_tR ?_
        | refine st_bN ?_
        | refine st_bR ?_
        | refine st_bH ?_
        | refine st_bM rfl ?_)
    · refine ⟨⟨0 + 1, x', n + 1, (c + 1, 25), (c + 1, 37), [r], [q]⟩, ⟨by show 0 + 1 ≤ _; omega, by show _ ≤ n + 1; omega, hu', i4.step (by have := hlo (by omega); omega) (by have := htlo (by omega); omega), fun _ => ⟨by show h.clk ≤ c + 1; omega, by show c + 1 < n + 1; omega, by show h.clk ≤ c + 1; omega, by show c + 1 < n + 1; omega, fun e => by cases e⟩⟩, by show f.loads.length - (0 + 1) < f.loads.length - 0; omega, (by repeat' (first | exact trivial | refine And.intro ?_ ?_ | rfl | (simp (disch := omega) only [go_sem, if_yes, if_no, ↓reduceIte, Nat.reduceAdd, Nat.reduceMul, Nat.reduceEqDiff, Nat.reduceBEq, Nat.reduceLeDiff]; rfl) | (simp (disch := omega) only [go_sem, if_yes, if_no, ↓reduceIte, Nat.reduceAdd, Nat.reduceMul, Nat.reduceEqDiff, Nat.reduceBEq, Nat.reduceLeDiff]))), (by repeat' (first | exact trivial | refine And.intro ?_ ?_ | rfl | (simp (disch := omega) only [go_sem, if_yes, if_no, ↓reduceIte, Nat.reduceAdd, Nat.reduceMul, Nat.reduceEqDiff, Nat.reduceBEq, Nat.reduceLeDiff]; rfl) | (simp (disch := omega) only [go_sem, if_yes, if_no, ↓reduceIte, Nat.reduceAdd, Nat.reduceMul, Nat.reduceEqDiff, Nat.reduceBEq, Nat.reduceLeDiff]))), rfl, by rw [TrS.hp, if_neg (Nat.succ_ne_zero _)]; exact hold7 (Nat.le_refl _) (fun e => by rw [← e] at hb; exact absurd hb (by show ¬ c + 1 < h.clk; omega)) (fun e => by rw [← e] at hb; exact absurd hb (by show ¬ c + 1 < h.clk; omega)) (fun e => by cases e) rfl rfl⟩
    · simp (disch := omega) only [AEnd, Try.results53, aresK, fin, go_sem, ↓reduceIte, Nat.reduceEqDiff, Nat.reduceAdd, Nat.reduceLeDiff, if_yes, if_no, implies_true, true_and, and_true, List.reverse_cons, List.reverse_nil]
      have e0 : f.loads = [] := List.length_eq_zero_iff.1 (by omega)
      refine ⟨fun b' _ h2 => if_neg h2, ⟨_, rfl, i3⟩, .inl ⟨tr [] [], VLe.agg (by simp only [VLes]; exact ⟨_, _, rfl, VLe.nils 1, _, _, rfl, VLe.nils 1, rfl⟩) rfl, [], [], rfl, ?_⟩⟩
      rw [e0]; exact TrUp.done ⟨rfl, rfl, fun j hj => absurd hj (Nat.not_lt_zero _)⟩
  · obtain ⟨g1, g2, g3, g4, g5⟩ := i5 (by omega)
    have e1 : TrS.s1 ⟨i, x0, t, b1, b2, ks, ts⟩ = .slc b1 1 0 i := if_neg e
    have e1' : TrS.s2 ⟨i, x0, t, b1, b2, ks, ts⟩ = .slc b2 1 0 i := if_neg e
    have e2 : TrS.hp h b ⟨i, x0, t, b1, b2, ks, ts⟩ = (((h.tick t).put b1 (some ⟨1, ks.map iv⟩)).put b2 (some ⟨1, ts.map iv⟩)).put b (dr x0) := if_neg e
    rw [e2] at hc
    simp only [go_sem] at hc
    have n1 : ¬ b1 = b := fun e => by rw [e] at g1; omega
    have n1' : ¬ b = b1 := fun e => n1 e.symm
    have n2 : ¬ b2 = b := fun e => by rw [e] at g3; omega
    have n2' : ¬ b = b2 := fun e => n2 e.symm
    have n3 : ¬ b2 = b1 := fun e => g5 e.symm
    have n5 : ¬ b1 = (c + 1, 25) := fun e => by rw [e] at g2; exact absurd g2 (by show ¬ c + 1 < t; omega)
    have n7 : ¬ b2 = (c + 1, 25) := fun e => by rw [e] at g4; exact absurd g4 (by show ¬ c + 1 < t; omega)
    have l1 := i4.1
    have l2 := i4.2.1
    simp only [e1, e1', e2, go_sem]
    repeat' (first
        | refine st_seq_reg rfl (by first | (simp only [go_sem, big, g5, n1, n1', n2, n2', n3, n5, n7, List.length_map, l1, l2]; rfl) | rfl) (by first | (simp only [go_sem, big, g5, n1, n1', n2, n2', n3, n5, n7, List.length_map, l1, l2]; rfl) | rfl) ?_
        | refine st_reg rfl (by first | (simp only [go_sem, big, g5, n1, n1', n2, n2', n3, n5, n7, List.length_map, l1, l2]; rfl) | rfl) (by first | (simp only [go_sem, big, g5, n1, n1', n2, n2', n3, n5, n7, List.length_map, l1, l2]; rfl) | rfl) ?_
        | refine st_seq_draw rfl (by first | (simp only [go_sem, big, g5, n1, n1', n2, n2', n3, n5, n7, List.length_map, l1, l2]; rfl) | rfl) (by first | (simp only [go_sem, big, g5, n1, n1', n2, n2', n3, n5, n7, List.length_map, l1, l2]; rfl) | rfl) ?_
        | refine st_draw rfl (by first | (simp only [go_sem, big, g5, n1, n1', n2, n2', n3, n5, n7, List.length_map, l1, l2]; rfl) | rfl) (by first | (simp only [go_sem, big, g5, n1, n1', n2, n2', n3, n5, n7, List.length_map, l1, l2]; rfl) | rfl) ?_
        | refine st_op ?_
        | refine st_det rfl (by simp (disch := omega) only [go_sem, wr_i64, if_yes, if_no, ↓reduceIte, Nat.reduceAdd, Nat.reduceMul, Nat.reduceEqDiff, Nat.reduceBEq, Nat.reduceLeDiff, big, g5, n1, n1', n2, n2', n3, n5, n7, List.length_map, l1, l2]; rfl) ?_
        | refine st_dop rfl ?_
        | refine st_loc rfl (by simp (disch := omega) only [go_sem, wr_i64, if_yes, if_no, ↓reduceIte, Nat.reduceAdd, Nat.reduceMul, Nat.reduceEqDiff, Nat.reduceBEq, Nat.reduceLeDiff, big, g5, n1, n1', n2, n2', n3, n5, n7, List.length_map, l1, l2]; rfl) ?_
        | refine st_heap rfl (by simp (disch := omega) only [go_sem, wr_i64, if_yes, if_no, ↓reduceIte, Nat.reduceAdd, Nat.reduceMul, Nat.reduceEqDiff, Nat.reduceBEq, Nat.reduceLeDiff, big, g5, n1, n1', n2, n2', n3, n5, n7, List.length_map, l1, l2]; rfl) ?_
        | refine st_store (by simp (disch := omega) only [go_sem, wr_i64, if_yes, if_no, ↓reduceIte, Nat.reduceAdd, Nat.reduceMul, Nat.reduceEqDiff, Nat.reduceBEq, Nat.reduceLeDiff, big, g5, n1, n1', n2, n2', n3, n5, n7, List.length_map, l1, l2]; rfl) ?_
        | refine st_append (by simp (disch := omega) only [go_sem, wr_i64, if_yes, if_no, ↓reduceIte, Nat.reduceAdd, Nat.reduceMul, Nat.reduceEqDiff, Nat.reduceBEq, Nat.reduceLeDiff, big, g5, n1, n1', n2, n2', n3, n5, n7, List.length_map, l1, l2]; rfl) ?_
        | (refine st_drum (by first | (simp (disch := omega) only [go_sem, big, g5, n1, n1', n2, n2', n3, n5, n7, List.length_map, l1, l2]; rfl) | rfl) rfl (c42 b (ld f.loads i).lo (ld f.loads i).hi (by have := hlo (by omega); omega) (by have := hlo (by omega); omega)) (by first | (simp (disch := omega) only [go_sem, big, g5, n1, n1', n2, n2', n3, n5, n7, List.length_map, l1, l2]; rfl) | rfl) (by assumption) (by first | (simp only [go_sem, big, g5, n1, n1', n2, n2', n3, n5, n7, List.length_map, l1, l2]; rfl) | rfl) (by intro x' n; simp (disch := omega) only [go_sem]; rfl) ?_; rintro v x' n hu' ⟨r, rfl, hr⟩ hn)
        | (refine st_drum (by first | (simp (disch := omega) only [go_sem, big, g5, n1, n1', n2, n2', n3, n5, n7, List.length_map, l1, l2]; rfl) | rfl) rfl (c42 b (ld f.loads i).tlo (ld f.loads i).thi (by have := htlo (by omega); omega) (by have := htlo (by omega); omega)) (by first | (simp (disch := omega) only [go_sem, big, g5, n1, n1', n2, n2', n3, n5, n7, List.length_map, l1, l2]; rfl) | rfl) (by assumption) (by first | (simp only [go_sem, big, g5, n1, n1', n2, n2', n3, n5, n7, List.length_map, l1, l2]; rfl) | rfl) (by intro x' n; simp (disch := omega) only [go_sem]; rfl) ?_; rintro v x' n hu' ⟨q, rfl, hq⟩ hn)
        | refine st_gT rfl rfl rfl ?_
        | refine st_gF rfl rfl rfl ?_
        | refine st_dgT rfl rfl rfl rfl ?_
        | refine st_dgF rfl rfl rfl ?_
        | (refine st_gS rfl rfl ?_ ?_ <;> intro hg <;> (try simp only [decide_eq_true_eq, decide_eq_false_iff_not, Bool.not_eq_true', Bool.not_eq_false'] at hg))
        | (refine st_dgS rfl rfl ?_ ?_ <;> intro hg <;> (try simp only [decide_eq_true_eq, decide_eq_false_iff_not, Bool.not_eq_true', Bool.not_eq_false'] at hg))
        | refine st_condT rfl ?_
        | refine st_condF rfl ?_
        | (refine st_condS rfl ?_ ?_ <;> intro hg <;> (try simp only [decide_eq_true_eq, decide_eq_false_iff_not, Bool.not_eq_true', Bool.not_eq_false'] at hg))
        | refine st_nil ?_
        | refine st_dnil ?_
        | refine st_tN ?_
        | refine st_seq ?_
        | refine st_block ?_
        | refine st_skip ?_
        | refine st_exit ?_
        | refine st_ret ?_
        | refine st_tE ?_
        | refine st_tR ?_
        | refine st_bN ?_
        | refine st_bR ?_
        | refine st_bH ?_
        | refine st_bM rfl ?_)
    · refine ⟨⟨i + 1, x', n + 1, (c + 1, 25), (c + 1, 37), ks ++ [r], ts ++ [q]⟩, ⟨by show i + 1 ≤ _; omega, by show _ ≤ n + 1; omega, hu', i4.step (by have := hlo (by omega); omega) (by have := htlo (by omega); omega), fun _ => ⟨by show h.clk ≤ c + 1; omega, by show c + 1 < n + 1; omega, by show h.clk ≤ c + 1; omega, by show c + 1 < n + 1; omega, fun e => by cases e⟩⟩, by show f.loads.length - (i + 1) < f.loads.length - i; omega, (by repeat' (first | exact trivial | refine And.intro ?_ ?_ | rfl | (simp (disch := omega) only [go_sem, if_yes, if_no, ↓reduceIte, Nat.reduceAdd, Nat.reduceMul, Nat.reduceEqDiff, Nat.reduceBEq, Nat.reduceLeDiff]; rfl) | (simp (disch := omega) only [go_sem, if_yes, if_no, ↓reduceIte, Nat.reduceAdd, Nat.reduceMul, Nat.reduceEqDiff, Nat.reduceBEq, Nat.reduceLeDiff]))), (by repeat' (first | exact trivial | refine And.intro ?_ ?_ | rfl | (simp (disch := omega) only [go_sem, if_yes, if_no, ↓reduceIte, Nat.reduceAdd, Nat.reduceMul, Nat.reduceEqDiff, Nat.reduceBEq, Nat.reduceLeDiff]; rfl) | (simp (disch := omega) only [go_sem, if_yes, if_no, ↓reduceIte, Nat.reduceAdd, Nat.reduceMul, Nat.reduceEqDiff, Nat.reduceBEq, Nat.reduceLeDiff]))), rfl, by rw [TrS.hp, if_neg (Nat.succ_ne_zero _)]; exact hold8 (Nat.le_refl _) (fun e => by rw [← e] at hb; exact absurd hb (by show ¬ c + 1 < h.clk; omega)) (fun e => by rw [← e] at hb; exact absurd hb (by show ¬ c + 1 < h.clk; omega)) (fun e => by cases e) (fun e => by rw [← e] at g4; exact absurd g4 (by show ¬ c + 1 < t; omega)) n2 (hno _ g1) (hno _ g3) (by rw [List.map_append, List.take_of_length_le (by simp [l1])]; rfl) (by rw [List.map_append, List.take_of_length_le (by simp [l2])]; rfl)⟩
    · simp (disch := omega) only [AEnd, Try.results53, aresK, fin, go_sem, ↓reduceIte, Nat.reduceEqDiff, Nat.reduceAdd, Nat.reduceLeDiff, if_yes, if_no, implies_true, true_and, and_true, List.reverse_cons, List.reverse_nil]
      obtain rfl : i = f.loads.length := by omega
      refine ⟨fun b' hb' hne => ?_, ⟨_, rfl, i3⟩, .inr ⟨b1, ⟨1, ks.map iv⟩, b2, ⟨1, ts.map iv⟩, g1, g3, n3, ?_, ?_, ks, ts, ?_, i4.done⟩⟩
      · rw [if_neg hne, if_neg (fun e => by rw [e] at hb'; omega), if_neg (fun e => by rw [e] at hb'; omega)]
      · rw [if_neg n1, if_neg g5, if_pos rfl]
      · rw [if_neg n2, if_pos rfl]
      · simp [frz, frzs, n3, frz_iv, List.take_of_length_le, l1, l2]
end Go.Proofs.Ytkjpceapflhmnaa
