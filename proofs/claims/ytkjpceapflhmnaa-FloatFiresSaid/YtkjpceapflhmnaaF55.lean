/- Contracts of functions that the claim reaches: what each call gives, told in our own logic. Conditions: those of each theorem. -/
import Derived.Test.YtkjpceapflhmnaaF54
import Derived.Test.YtkjpceapflhmnaaF20
set_option linter.all false
set_option linter.unusedSimpArgs false
set_option linter.unusedVariables false
namespace Go.Proofs.Ytkjpceapflhmnaa
open Go.Av
attribute [local irreducible] thenA blockA awp awpOps awpD awp1
set_option maxHeartbeats 8000000
set_option maxRecDepth 20000
/-! ### The reference's Fire -/
structure NrS where
  i : Nat
  L : List (Nat × Nat)
  t : Nat
  ob : Option (Nat × Nat)
def NrS.sl (a : NrS) : AV := match a.ob with
  | none => .nils
  | some b => .slc b 2 0 a.L.length
def NrS.hp (h : AH) (a : NrS) : AH := match a.ob with
  | none => h.tick a.t
  | some b => (h.tick a.t).put b (some ⟨2, a.L.map nr⟩)
@[go_sem] theorem NrS.sl_n (i : Nat) (L : List (Nat × Nat)) (t : Nat) : NrS.sl ⟨i, L, t, none⟩ = .nils := rfl
@[go_sem] theorem NrS.sl_s (i : Nat) (L : List (Nat × Nat)) (t : Nat) (b : Nat × Nat) : NrS.sl ⟨i, L, t, some b⟩ = .slc b 2 0 L.length := rfl
@[go_sem] theorem NrS.hp_n (h : AH) (i : Nat) (L : List (Nat × Nat)) (t : Nat) : NrS.hp h ⟨i, L, t, none⟩ = h.tick t := rfl
@[go_sem] theorem NrS.hp_s (h : AH) (i : Nat) (L : List (Nat × Nat)) (t : Nat) (b : Nat × Nat) : NrS.hp h ⟨i, L, t, some b⟩ = (h.tick t).put b (some ⟨2, L.map nr⟩) := rfl
def NrS.ok (h : AH) (a : NrS) : Prop := h.clk + 1 ≤ a.t ∧ (a.ob = none → a.L = []) ∧ ∀ b, a.ob = some b → h.clk ≤ b.1 ∧ b.1 < a.t
theorem NrS.ok_n {h : AH} {i t : Nat} (ht : h.clk + 1 ≤ t) : NrS.ok h ⟨i, [], t, none⟩ := ⟨ht, fun _ => rfl, fun b e => by cases e⟩
theorem NrS.ok_s {h : AH} {i t : Nat} {L : List (Nat × Nat)} {b : Nat × Nat} (ht : h.clk + 1 ≤ t) (h1 : h.clk ≤ b.1) (h2 : b.1 < t) : NrS.ok h ⟨i, L, t, some b⟩ := ⟨ht, fun e => (by cases e), fun b' e => by cases e; exact ⟨h1, h2⟩⟩
theorem hold9e {e : Nat} {h : AH} {m m' : Nat} {bb id : Nat × Nat} {y z : List (List AV)} (hn : m ≤ m') (hb : h.at_ bb = none) (hy : y = z) : HOld ((h.tick m).put id (some ⟨e, y⟩)) (((h.tick m').put bb none).put id (some ⟨e, z⟩)) := by
  subst hy
  refine ⟨fun w k' hz => ?_, fun _ _ e => e, hn⟩
  simp only [AH.put, upd_apply, AH.tick] at hz ⊢
  by_cases e : w = id
  · simpa [e] using hz
  · by_cases e2 : w = bb
    · subst e2; simp [e, hb] at hz
    · simpa [e, e2] using hz
theorem c67 (f : Fl) (ap : Int) : Pure Try.prog 67 [f.av, .int .i64 ap] (fun v => v = .tup [.lst 2 ((fireL f ap).map nr), .int .i64 (fireS f ap), .int .i64 (fireE f ap)]) := by
  refine Pure.give Try.call67 fun h hold => ?_
  refine ACalls.of tab mixed Try.call67 Try.func67 rfl (fi := ⟨97, [], [2, 93], none, [(19, [0, 1, 0, 7, 15, 31, 0, 64, 0, 448, 960, 1984, 4095, 8191], [(0, false), (1, true), (2, false), (3, false), (4, false), (5, true), (6, false), (7, true), (8, false), (9, false), (10, false), (11, true), (12, false), (13, false)])]⟩) rfl rfl (Nat.le_of_ble_eq_true rfl) (by decide) ?_
  unfold startA
  simp only [go_sem]
  repeat' (first
      | refine st_seq_reg rfl (by first | (simp only [go_sem]; rfl) | rfl) (by first | (simp only [go_sem]; rfl) | rfl) ?_
      | refine st_reg rfl (by first | (simp only [go_sem]; rfl) | rfl) (by first | (simp only [go_sem]; rfl) | rfl) ?_
      | refine st_seq_draw rfl (by first | (simp only [go_sem]; rfl) | rfl) (by first | (simp only [go_sem]; rfl) | rfl) ?_
      | refine st_draw rfl (by first | (simp only [go_sem]; rfl) | rfl) (by first | (simp only [go_sem]; rfl) | rfl) ?_
      | refine st_op ?_
      | refine st_det rfl (by simp (disch := omega) only [go_sem, wr_i64, if_yes, if_no, ↓reduceIte, Nat.reduceAdd, Nat.reduceMul, Nat.reduceEqDiff, Nat.reduceBEq, Nat.reduceLeDiff]; rfl) ?_
      | refine st_dop rfl ?_
      | refine st_loc rfl (by simp (disch := omega) only [go_sem, wr_i64, if_yes, if_no, ↓reduceIte, Nat.reduceAdd, Nat.reduceMul, Nat.reduceEqDiff, Nat.reduceBEq, Nat.reduceLeDiff]; rfl) ?_
      | refine st_heap rfl (by simp (disch := omega) only [go_sem, wr_i64, if_yes, if_no, ↓reduceIte, Nat.reduceAdd, Nat.reduceMul, Nat.reduceEqDiff, Nat.reduceBEq, Nat.reduceLeDiff]; rfl) ?_
      | refine st_store (by simp (disch := omega) only [go_sem, wr_i64, if_yes, if_no, ↓reduceIte, Nat.reduceAdd, Nat.reduceMul, Nat.reduceEqDiff, Nat.reduceBEq, Nat.reduceLeDiff]; rfl) ?_
      | refine st_append (by simp (disch := omega) only [go_sem, wr_i64, if_yes, if_no, ↓reduceIte, Nat.reduceAdd, Nat.reduceMul, Nat.reduceEqDiff, Nat.reduceBEq, Nat.reduceLeDiff]; rfl) ?_
      | (refine st_pureE (by first | (simp (disch := omega) only [go_sem]; rfl) | rfl) rfl (c52 f) (by first | (simp only [go_sem]; rfl) | rfl) (by intro n; simp (disch := omega) only [go_sem]; rfl) ?_; intro n hn)
      | (refine st_pureE (by first | (simp (disch := omega) only [go_sem]; rfl) | rfl) rfl (c86 _ _ _) (by first | (simp only [go_sem]; rfl) | rfl) (by intro n; simp (disch := omega) only [go_sem]; rfl) ?_; intro n hn)
      | refine st_gT rfl rfl rfl ?_
      | refine st_gF rfl rfl rfl ?_
      | refine st_dgT rfl rfl rfl rfl ?_
      | refine st_dgF rfl rfl rfl ?_
      | (refine st_gS rfl rfl ?_ ?_ <;> intro hg <;> (try simp only [decide_eq_true_eq, decide_eq_false_iff_not, Bool.not_eq_true', Bool.not_eq_false'] at hg))
      | (refine st_dgS rfl rfl ?_ ?_ <;> intro hg <;> (try simp only [decide_eq_true_eq, decide_eq_false_iff_not, Bool.not_eq_true', Bool.not_eq_false'] at hg))
      | refine st_condT rfl ?_
      | refine st_condF rfl ?_
      | (refine st_condS rfl ?_ ?_ <;> intro hg <;> (try simp only [decide_eq_true_eq, decide_eq_false_iff_not, Bool.not_eq_true', Bool.not_eq_false'] at hg))
      | refine st_nil ?_
      | refine st_dnil ?_
      | refine st_tN ?_
      | refine st_seq ?_
      | refine st_block ?_
      | refine st_skip ?_
      | refine st_exit ?_
      | refine st_ret ?_
      | refine st_tE ?_
      | refine st_tR ?_
      | refine st_bN ?_
      | refine st_bR ?_
      | refine st_bH ?_
      | refine st_bM rfl ?_)
  · simp (disch := omega) only [AEnd, Try.results67, aresK, fin, go_sem, ↓reduceIte, Nat.reduceEqDiff, Nat.reduceAdd, Nat.reduceLeDiff, if_yes, if_no, implies_true, true_and, and_true, List.reverse_cons, List.reverse_nil]
    refine .inl ⟨.tup [.lst 2 [], .int .i64 0, .int .i64 (chkE f)], VLe.tup (by simp only [VLes]; exact ⟨_, _, rfl, VLe.nils 2, _, _, rfl, VLe.refl _, _, _, rfl, VLe.refl _, rfl⟩), ?_⟩
    have e : fireE f ap = chkE f := if_pos hg
    unfold fireL fireS
    rw [e, if_neg hg, if_neg hg]; rfl
  · simp (disch := omega) only [AEnd, Try.results67, aresK, fin, go_sem, ↓reduceIte, Nat.reduceEqDiff, Nat.reduceAdd, Nat.reduceLeDiff, if_yes, if_no, implies_true, true_and, and_true, List.reverse_cons, List.reverse_nil]
    have e : fireE f ap = 2 := by unfold fireE; rw [if_neg (by omega), if_pos hg]
    refine .inl ⟨.tup [.lst 2 [], .int .i64 0, .int .i64 2], VLe.tup (by simp only [VLes]; exact ⟨_, _, rfl, VLe.nils 2, _, _, rfl, VLe.refl _, _, _, rfl, VLe.refl _, rfl⟩), ?_⟩
    unfold fireL fireS
    rw [e, if_neg (by decide), if_neg (by decide)]; rfl
  have h0 : chkE f = 0 := by omega
  have hE : fireE f ap = 0 := by unfold fireE; rw [if_neg (by omega), if_neg (by omega)]
  have hW := chkWatts h0
  have hf := chkOk h0
  have hl0 := hf.loads.1
  have hl : f.loads.length ≤ 1000 := by omega
  have pb := pow_bd hW
  refine st_loopH (α := NrS) tab mixed [] [] (by repeat (first | exact trivial | refine ⟨rfl, ?_⟩)) [] [] (by repeat (first | exact trivial | refine ⟨rfl, ?_⟩)) (fun a => [(10, .int .i64 (a.i : Nat)), (8, a.sl), (9, .int .i64 (powUp f.loads a.i - lampUp f.loads a.i))]) [(1, _), (2, _)] (fun _ => []) [] (NrS.hp h) (fun a => a.i ≤ f.loads.length ∧ a.L = nearUp f.loads ap a.i ∧ a.ok h) (fun a => f.loads.length - a.i) (by decide) ⟨0, [], h.clk + 1, none⟩ ⟨Nat.zero_le _, rfl, NrS.ok_n (Nat.le_refl _)⟩ (by (try simp only [go_sem]); repeat' (first | exact trivial | refine And.intro ?_ ?_ | rfl | (simp (disch := omega) only [go_sem, if_yes, if_no, ↓reduceIte, Nat.reduceAdd, Nat.reduceMul, Nat.reduceEqDiff, Nat.reduceBEq, Nat.reduceLeDiff]; rfl) | (simp (disch := omega) only [go_sem, if_yes, if_no, ↓reduceIte, Nat.reduceAdd, Nat.reduceMul, Nat.reduceEqDiff, Nat.reduceBEq, Nat.reduceLeDiff]))) (by (try simp only [go_sem]); repeat' (first | exact trivial | refine And.intro ?_ ?_ | rfl | (simp (disch := omega) only [go_sem, if_yes, if_no, ↓reduceIte, Nat.reduceAdd, Nat.reduceMul, Nat.reduceEqDiff, Nat.reduceBEq, Nat.reduceLeDiff]; rfl) | (simp (disch := omega) only [go_sem, if_yes, if_no, ↓reduceIte, Nat.reduceAdd, Nat.reduceMul, Nat.reduceEqDiff, Nat.reduceBEq, Nat.reduceLeDiff]))) (HOld.tick (by simp only [go_sem]; omega)) ?_
  rintro ⟨i, L, t, ob⟩ c ⟨i1, i2, i3⟩ hc
  dsimp only at i1 i2
  have q0 := pb i i1
  have hw : i < f.loads.length → 0 ≤ (ld f.loads i).watts ∧ (ld f.loads i).watts ≤ 1000000 := fun h => hW _ (ld_mem h)
  have hx : i < f.loads.length → 0 ≤ (ld f.loads i).at_ ∧ (ld f.loads i).at_ ≤ 3000 := fun h => ⟨(hf.loads.2 _ (ld_mem h)).1, (hf.loads.2 _ (ld_mem h)).2.1⟩
  have e1 : powUp f.loads (i + 1) = powUp f.loads i + (if (ld f.loads i).kind = 2 then (ld f.loads i).watts else 0) := rfl
  have e2 : lampUp f.loads (i + 1) = lampUp f.loads i + (if (ld f.loads i).kind = 3 then (ld f.loads i).watts else 0) := rfl
  have e3 : nearUp f.loads ap (i + 1) = nearUp f.loads ap i ++ (if (ld f.loads i).kind = 2 then nearRow f.loads ap i f.loads.length else []) := rfl
  have s3 : (ld f.loads i).kind = 3 → powUp f.loads (i + 1) - lampUp f.loads (i + 1) = powUp f.loads i - lampUp f.loads i - (ld f.loads i).watts := fun h => by rw [e1, e2, if_neg (by omega), if_pos h]; omega
  have s2 : (ld f.loads i).kind = 2 → powUp f.loads (i + 1) - lampUp f.loads (i + 1) = powUp f.loads i - lampUp f.loads i + (ld f.loads i).watts := fun h => by rw [e1, e2, if_pos h, if_neg (by omega)]; omega
  have s0 : ¬ (ld f.loads i).kind = 3 → ¬ (ld f.loads i).kind = 2 → powUp f.loads (i + 1) - lampUp f.loads (i + 1) = powUp f.loads i - lampUp f.loads i := fun h h' => by rw [e1, e2, if_neg h', if_neg h]; omega
  have it := i3.1
  dsimp only at it
  cases ob with
  | none =>
    simp only [go_sem] at hc
    simp only [go_sem]
    repeat' (first
        | refine st_seq_reg rfl (by first | (simp only [go_sem, List.length_map]; rfl) | rfl) (by first | (simp only [go_sem, List.length_map]; rfl) | rfl) ?_
        | refine st_reg rfl (by first | (simp only [go_sem, List.length_map]; rfl) | rfl) (by first | (simp only [go_sem, List.length_map]; rfl) | rfl) ?_
        | refine st_seq_draw rfl (by first | (simp only [go_sem, List.length_map]; rfl) | rfl) (by first | (simp only [go_sem, List.length_map]; rfl) | rfl) ?_
        | refine st_draw rfl (by first | (simp only [go_sem, List.length_map]; rfl) | rfl) (by first | (simp only [go_sem, List.length_map]; rfl) | rfl) ?_
        | refine st_op ?_
        | refine st_det rfl (by simp (disch := omega) only [go_sem, wr_i64, if_yes, if_no, ↓reduceIte, Nat.reduceAdd, Nat.reduceMul, Nat.reduceEqDiff, Nat.reduceBEq, Nat.reduceLeDiff, List.length_map]; rfl) ?_
        | refine st_dop rfl ?_
        | refine st_loc rfl (by simp (disch := omega) only [go_sem, wr_i64, if_yes, if_no, ↓reduceIte, Nat.reduceAdd, Nat.reduceMul, Nat.reduceEqDiff, Nat.reduceBEq, Nat.reduceLeDiff, List.length_map]; rfl) ?_
        | refine st_heap rfl (by simp (disch := omega) only [go_sem, wr_i64, if_yes, if_no, ↓reduceIte, Nat.reduceAdd, Nat.reduceMul, Nat.reduceEqDiff, Nat.reduceBEq, Nat.reduceLeDiff, List.length_map]; rfl) ?_
        | refine st_store (by simp (disch := omega) only [go_sem, wr_i64, if_yes, if_no, ↓reduceIte, Nat.reduceAdd, Nat.reduceMul, Nat.reduceEqDiff, Nat.reduceBEq, Nat.reduceLeDiff, List.length_map]; rfl) ?_
        | refine st_append (by simp (disch := omega) only [go_sem, wr_i64, if_yes, if_no, ↓reduceIte, Nat.reduceAdd, Nat.reduceMul, Nat.reduceEqDiff, Nat.reduceBEq, Nat.reduceLeDiff, List.length_map]; rfl) ?_
        | refine st_gT rfl rfl rfl ?_
        | refine st_gF rfl rfl rfl ?_
        | refine st_dgT rfl rfl rfl rfl ?_
        | refine st_dgF rfl rfl rfl ?_
        | (refine st_gS rfl rfl ?_ ?_ <;> intro hg <;> (try simp only [decide_eq_true_eq, decide_eq_false_iff_not, Bool.not_eq_true', Bool.not_eq_false'] at hg))
        | (refine st_dgS rfl rfl ?_ ?_ <;> intro hg <;> (try simp only [decide_eq_true_eq, decide_eq_false_iff_not, Bool.not_eq_true', Bool.not_eq_false'] at hg))
        | refine st_condT rfl ?_
        | refine st_condF rfl ?_
        | (refine st_condS rfl ?_ ?_ <;> intro hg <;> (try simp only [decide_eq_true_eq, decide_eq_false_iff_not, Bool.not_eq_true', Bool.not_eq_false'] at hg))
        | refine st_nil ?_
        | refine st_dnil ?_
        | refine st_tN ?_
        | refine st_seq ?_
        | refine st_block ?_
        | refine st_skip ?_
        | refine st_exit ?_
        | refine st_ret ?_
        | refine st_tE ?_
        | refine st_tR ?_
        | refine st_bN ?_
        | refine st_bR ?_
        | refine st_bH ?_
        | refine st_bM rfl ?_)
    · refine ⟨⟨i + 1, L, t, none⟩, ⟨by show i + 1 ≤ _; omega, by show L = _; rw [e3, if_neg (by omega), List.append_nil]; exact i2, i3⟩, by show f.loads.length - (i + 1) < f.loads.length - i; omega, (by (try (try simp only [s3 hg])); repeat' (first | exact trivial | refine And.intro ?_ ?_ | rfl | (simp (disch := omega) only [go_sem, if_yes, if_no, ↓reduceIte, Nat.reduceAdd, Nat.reduceMul, Nat.reduceEqDiff, Nat.reduceBEq, Nat.reduceLeDiff]; rfl) | (simp (disch := omega) only [go_sem, if_yes, if_no, ↓reduceIte, Nat.reduceAdd, Nat.reduceMul, Nat.reduceEqDiff, Nat.reduceBEq, Nat.reduceLeDiff]))), (by (try (try simp only [s3 hg])); repeat' (first | exact trivial | refine And.intro ?_ ?_ | rfl | (simp (disch := omega) only [go_sem, if_yes, if_no, ↓reduceIte, Nat.reduceAdd, Nat.reduceMul, Nat.reduceEqDiff, Nat.reduceBEq, Nat.reduceLeDiff]; rfl) | (simp (disch := omega) only [go_sem, if_yes, if_no, ↓reduceIte, Nat.reduceAdd, Nat.reduceMul, Nat.reduceEqDiff, Nat.reduceBEq, Nat.reduceLeDiff]))), rfl, HOld.of _ (by show t ≤ _; omega)⟩
    · have hk2 := hg
      refine st_loopH (α := NrS) tab mixed [] [] (by repeat (first | exact trivial | refine ⟨rfl, ?_⟩)) [] [] (by repeat (first | exact trivial | refine ⟨rfl, ?_⟩)) (fun a => [(11, .int .i64 (a.i : Nat)), (8, a.sl)]) [(1, _), (2, _), (9, _), (10, _)] (fun _ => []) [] (NrS.hp h) (fun a => a.i ≤ f.loads.length ∧ a.L = nearUp f.loads ap i ++ nearRow f.loads ap i a.i ∧ a.ok h) (fun a => f.loads.length - a.i) (by decide) ⟨0, L, t, none⟩ ⟨Nat.zero_le _, by show L = _; rw [show nearRow f.loads ap i 0 = [] from rfl, List.append_nil]; exact i2, i3⟩ (by (try simp only [go_sem]); repeat' (first | exact trivial | refine And.intro ?_ ?_ | rfl | (simp (disch := omega) only [go_sem, if_yes, if_no, ↓reduceIte, Nat.reduceAdd, Nat.reduceMul, Nat.reduceEqDiff, Nat.reduceBEq, Nat.reduceLeDiff]; rfl) | (simp (disch := omega) only [go_sem, if_yes, if_no, ↓reduceIte, Nat.reduceAdd, Nat.reduceMul, Nat.reduceEqDiff, Nat.reduceBEq, Nat.reduceLeDiff]))) (by (try simp only [go_sem]); repeat' (first | exact trivial | refine And.intro ?_ ?_ | rfl | (simp (disch := omega) only [go_sem, if_yes, if_no, ↓reduceIte, Nat.reduceAdd, Nat.reduceMul, Nat.reduceEqDiff, Nat.reduceBEq, Nat.reduceLeDiff]; rfl) | (simp (disch := omega) only [go_sem, if_yes, if_no, ↓reduceIte, Nat.reduceAdd, Nat.reduceMul, Nat.reduceEqDiff, Nat.reduceBEq, Nat.reduceLeDiff]))) (HOld.of _ (by show t ≤ _; omega)) ?_
      rintro ⟨k, L2, t2, ob2⟩ c2 ⟨k1, k2, k3⟩ hc2
      dsimp only at k1 k2
      have hL : L2.length ≤ 1000 := by
        have a1 := nearUp_len (ap := ap) hl0 i
        have a2 := nearRow_len f.loads ap i k
        rw [k2, List.length_append]; omega
      have hy : k < f.loads.length → 0 ≤ (ld f.loads k).at_ ∧ (ld f.loads k).at_ ≤ 3000 := fun h => ⟨(hf.loads.2 _ (ld_mem h)).1, (hf.loads.2 _ (ld_mem h)).2.1⟩
      have hx' := hx (by omega)
      have n1 : ¬ isNear f.loads ap i k → nearUp f.loads ap i ++ nearRow f.loads ap i (k + 1) = nearUp f.loads ap i ++ nearRow f.loads ap i k := fun hg => by
        show _ ++ (nearRow f.loads ap i k ++ _) = _; rw [if_neg hg, List.append_nil]
      have n2 : isNear f.loads ap i k → nearUp f.loads ap i ++ nearRow f.loads ap i (k + 1) = (nearUp f.loads ap i ++ nearRow f.loads ap i k) ++ [(i, k)] := fun hg => by
        show _ ++ (nearRow f.loads ap i k ++ _) = _; rw [if_pos hg, List.append_assoc]
      have kt := k3.1
      dsimp only at kt
      cases ob2 with
      | none =>
        obtain rfl : L2 = [] := k3.2.1 rfl
        simp only [go_sem] at hc2
        simp only [go_sem]
        repeat' (first
            | refine st_seq_reg rfl (by first | (simp only [go_sem, big, List.length_map]; rfl) | rfl) (by first | (simp only [go_sem, big, List.length_map]; rfl) | rfl) ?_
            | refine st_reg rfl (by first | (simp only [go_sem, big, List.length_map]; rfl) | rfl) (by first | (simp only [go_sem, big, List.length_map]; rfl) | rfl) ?_
            | refine st_seq_draw rfl (by first | (simp only [go_sem, big, List.length_map]; rfl) | rfl) (by first | (simp only [go_sem, big, List.length_map]; rfl) | rfl) ?_
            | refine st_draw rfl (by first | (simp only [go_sem, big, List.length_map]; rfl) | rfl) (by first | (simp only [go_sem, big, List.length_map]; rfl) | rfl) ?_
            | refine st_op ?_
            | refine st_det rfl (by simp (disch := omega) only [go_sem, wr_i64, if_yes, if_no, ↓reduceIte, Nat.reduceAdd, Nat.reduceMul, Nat.reduceEqDiff, Nat.reduceBEq, Nat.reduceLeDiff, big, List.length_map]; rfl) ?_
            | refine st_dop rfl ?_
            | refine st_loc rfl (by simp (disch := omega) only [go_sem, wr_i64, if_yes, if_no, ↓reduceIte, Nat.reduceAdd, Nat.reduceMul, Nat.reduceEqDiff, Nat.reduceBEq, Nat.reduceLeDiff, big, List.length_map]; rfl) ?_
            | refine st_heap rfl (by simp (disch := omega) only [go_sem, wr_i64, if_yes, if_no, ↓reduceIte, Nat.reduceAdd, Nat.reduceMul, Nat.reduceEqDiff, Nat.reduceBEq, Nat.reduceLeDiff, big, List.length_map]; rfl) ?_
            | refine st_store (by simp (disch := omega) only [go_sem, wr_i64, if_yes, if_no, ↓reduceIte, Nat.reduceAdd, Nat.reduceMul, Nat.reduceEqDiff, Nat.reduceBEq, Nat.reduceLeDiff, big, List.length_map]; rfl) ?_
            | refine st_append (by simp (disch := omega) only [go_sem, wr_i64, if_yes, if_no, ↓reduceIte, Nat.reduceAdd, Nat.reduceMul, Nat.reduceEqDiff, Nat.reduceBEq, Nat.reduceLeDiff, big, List.length_map]; rfl) ?_
            | refine st_gT rfl rfl rfl ?_
            | refine st_gF rfl rfl rfl ?_
            | refine st_dgT rfl rfl rfl rfl ?_
            | refine st_dgF rfl rfl rfl ?_
            | (refine st_gS rfl rfl ?_ ?_ <;> intro hg <;> (try simp only [decide_eq_true_eq, decide_eq_false_iff_not, Bool.not_eq_true', Bool.not_eq_false'] at hg))
            | (refine st_dgS rfl rfl ?_ ?_ <;> intro hg <;> (try simp only [decide_eq_true_eq, decide_eq_false_iff_not, Bool.not_eq_true', Bool.not_eq_false'] at hg))
            | refine st_condT rfl ?_
            | refine st_condF rfl ?_
            | (refine st_condS rfl ?_ ?_ <;> intro hg <;> (try simp only [decide_eq_true_eq, decide_eq_false_iff_not, Bool.not_eq_true', Bool.not_eq_false'] at hg))
            | refine st_nil ?_
            | refine st_dnil ?_
            | refine st_tN ?_
            | refine st_seq ?_
            | refine st_block ?_
            | refine st_skip ?_
            | refine st_exit ?_
            | refine st_ret ?_
            | refine st_tE ?_
            | refine st_tR ?_
            | refine st_bN ?_
            | refine st_bR ?_
            | refine st_bH ?_
            | refine st_bM rfl ?_)
        · refine ⟨⟨k + 1, [(i, k)], c2 + 1 + 1 + 1 + 1 + 1, some (c2 + 1 + 1 + 1, 94)⟩, ⟨by show k + 1 ≤ _; omega, by show [(i, k)] = _; rw [n2 ⟨by omega, by omega⟩, ← k2]; rfl, NrS.ok_s (by omega) (by show h.clk ≤ c2 + 1 + 1 + 1; omega) (by show c2 + 1 + 1 + 1 < c2 + 1 + 1 + 1 + 1 + 1; omega)⟩, by show f.loads.length - (k + 1) < f.loads.length - k; omega, (by repeat' (first | exact trivial | refine And.intro ?_ ?_ | rfl | (simp (disch := omega) only [go_sem, if_yes, if_no, ↓reduceIte, Nat.reduceAdd, Nat.reduceMul, Nat.reduceEqDiff, Nat.reduceBEq, Nat.reduceLeDiff]; rfl) | (simp (disch := omega) only [go_sem, if_yes, if_no, ↓reduceIte, Nat.reduceAdd, Nat.reduceMul, Nat.reduceEqDiff, Nat.reduceBEq, Nat.reduceLeDiff]))), (by repeat' (first | exact trivial | refine And.intro ?_ ?_ | rfl | (simp (disch := omega) only [go_sem, if_yes, if_no, ↓reduceIte, Nat.reduceAdd, Nat.reduceMul, Nat.reduceEqDiff, Nat.reduceBEq, Nat.reduceLeDiff]; rfl) | (simp (disch := omega) only [go_sem, if_yes, if_no, ↓reduceIte, Nat.reduceAdd, Nat.reduceMul, Nat.reduceEqDiff, Nat.reduceBEq, Nat.reduceLeDiff]))), rfl, HOld.refl _⟩
        · refine ⟨⟨k + 1, [], t2, none⟩, ⟨by show k + 1 ≤ _; omega, by show [] = _; rw [n1 (fun e => by have e1 := e.1; have e2 := e.2; omega)]; exact k2, k3⟩, by show f.loads.length - (k + 1) < f.loads.length - k; omega, (by repeat' (first | exact trivial | refine And.intro ?_ ?_ | rfl | (simp (disch := omega) only [go_sem, if_yes, if_no, ↓reduceIte, Nat.reduceAdd, Nat.reduceMul, Nat.reduceEqDiff, Nat.reduceBEq, Nat.reduceLeDiff]; rfl) | (simp (disch := omega) only [go_sem, if_yes, if_no, ↓reduceIte, Nat.reduceAdd, Nat.reduceMul, Nat.reduceEqDiff, Nat.reduceBEq, Nat.reduceLeDiff]))), (by repeat' (first | exact trivial | refine And.intro ?_ ?_ | rfl | (simp (disch := omega) only [go_sem, if_yes, if_no, ↓reduceIte, Nat.reduceAdd, Nat.reduceMul, Nat.reduceEqDiff, Nat.reduceBEq, Nat.reduceLeDiff]; rfl) | (simp (disch := omega) only [go_sem, if_yes, if_no, ↓reduceIte, Nat.reduceAdd, Nat.reduceMul, Nat.reduceEqDiff, Nat.reduceBEq, Nat.reduceLeDiff]))), rfl, HOld.of _ (by show t2 ≤ _; omega)⟩
        · refine ⟨⟨k + 1, [], t2, none⟩, ⟨by show k + 1 ≤ _; omega, by show [] = _; rw [n1 (fun e => by have e1 := e.1; have e2 := e.2; omega)]; exact k2, k3⟩, by show f.loads.length - (k + 1) < f.loads.length - k; omega, (by repeat' (first | exact trivial | refine And.intro ?_ ?_ | rfl | (simp (disch := omega) only [go_sem, if_yes, if_no, ↓reduceIte, Nat.reduceAdd, Nat.reduceMul, Nat.reduceEqDiff, Nat.reduceBEq, Nat.reduceLeDiff]; rfl) | (simp (disch := omega) only [go_sem, if_yes, if_no, ↓reduceIte, Nat.reduceAdd, Nat.reduceMul, Nat.reduceEqDiff, Nat.reduceBEq, Nat.reduceLeDiff]))), (by repeat' (first | exact trivial | refine And.intro ?_ ?_ | rfl | (simp (disch := omega) only [go_sem, if_yes, if_no, ↓reduceIte, Nat.reduceAdd, Nat.reduceMul, Nat.reduceEqDiff, Nat.reduceBEq, Nat.reduceLeDiff]; rfl) | (simp (disch := omega) only [go_sem, if_yes, if_no, ↓reduceIte, Nat.reduceAdd, Nat.reduceMul, Nat.reduceEqDiff, Nat.reduceBEq, Nat.reduceLeDiff]))), rfl, HOld.of _ (by show t2 ≤ _; omega)⟩
        · obtain rfl : k = f.loads.length := by omega
          refine ⟨⟨i + 1, [], t2, none⟩, ⟨by show i + 1 ≤ _; omega, by show [] = _; rw [e3, if_pos hk2]; exact k2, k3⟩, by show f.loads.length - (i + 1) < f.loads.length - i; omega, (by (try (try simp only [s2 hk2])); repeat' (first | exact trivial | refine And.intro ?_ ?_ | rfl | (simp (disch := omega) only [go_sem, if_yes, if_no, ↓reduceIte, Nat.reduceAdd, Nat.reduceMul, Nat.reduceEqDiff, Nat.reduceBEq, Nat.reduceLeDiff]; rfl) | (simp (disch := omega) only [go_sem, if_yes, if_no, ↓reduceIte, Nat.reduceAdd, Nat.reduceMul, Nat.reduceEqDiff, Nat.reduceBEq, Nat.reduceLeDiff]))), (by (try (try simp only [s2 hk2])); repeat' (first | exact trivial | refine And.intro ?_ ?_ | rfl | (simp (disch := omega) only [go_sem, if_yes, if_no, ↓reduceIte, Nat.reduceAdd, Nat.reduceMul, Nat.reduceEqDiff, Nat.reduceBEq, Nat.reduceLeDiff]; rfl) | (simp (disch := omega) only [go_sem, if_yes, if_no, ↓reduceIte, Nat.reduceAdd, Nat.reduceMul, Nat.reduceEqDiff, Nat.reduceBEq, Nat.reduceLeDiff]))), rfl, HOld.of _ (by show t2 ≤ _; omega)⟩
      | some b2 =>
        obtain ⟨kb1, kb2⟩ := k3.2.2 b2 rfl
        dsimp only at kb2
        have hno : h.at_ b2 = none := by
          cases e' : h.at_ b2 with
          | none => rfl
          | some kk => exact absurd (hold b2 kk e') (by omega)
        simp only [go_sem] at hc2
        simp only [go_sem]
        repeat' (first
            | refine st_seq_reg rfl (by first | (simp only [go_sem, big, List.length_map]; rfl) | rfl) (by first | (simp only [go_sem, big, List.length_map]; rfl) | rfl) ?_
            | refine st_reg rfl (by first | (simp only [go_sem, big, List.length_map]; rfl) | rfl) (by first | (simp only [go_sem, big, List.length_map]; rfl) | rfl) ?_
            | refine st_seq_draw rfl (by first | (simp only [go_sem, big, List.length_map]; rfl) | rfl) (by first | (simp only [go_sem, big, List.length_map]; rfl) | rfl) ?_
            | refine st_draw rfl (by first | (simp only [go_sem, big, List.length_map]; rfl) | rfl) (by first | (simp only [go_sem, big, List.length_map]; rfl) | rfl) ?_
            | refine st_op ?_
            | refine st_det rfl (by simp (disch := omega) only [go_sem, wr_i64, if_yes, if_no, ↓reduceIte, Nat.reduceAdd, Nat.reduceMul, Nat.reduceEqDiff, Nat.reduceBEq, Nat.reduceLeDiff, big, List.length_map]; rfl) ?_
            | refine st_dop rfl ?_
            | refine st_loc rfl (by simp (disch := omega) only [go_sem, wr_i64, if_yes, if_no, ↓reduceIte, Nat.reduceAdd, Nat.reduceMul, Nat.reduceEqDiff, Nat.reduceBEq, Nat.reduceLeDiff, big, List.length_map]; rfl) ?_
            | refine st_heap rfl (by simp (disch := omega) only [go_sem, wr_i64, if_yes, if_no, ↓reduceIte, Nat.reduceAdd, Nat.reduceMul, Nat.reduceEqDiff, Nat.reduceBEq, Nat.reduceLeDiff, big, List.length_map]; rfl) ?_
            | refine st_store (by simp (disch := omega) only [go_sem, wr_i64, if_yes, if_no, ↓reduceIte, Nat.reduceAdd, Nat.reduceMul, Nat.reduceEqDiff, Nat.reduceBEq, Nat.reduceLeDiff, big, List.length_map]; rfl) ?_
            | refine st_append (by simp (disch := omega) only [go_sem, wr_i64, if_yes, if_no, ↓reduceIte, Nat.reduceAdd, Nat.reduceMul, Nat.reduceEqDiff, Nat.reduceBEq, Nat.reduceLeDiff, big, List.length_map]; rfl) ?_
            | refine st_gT rfl rfl rfl ?_
            | refine st_gF rfl rfl rfl ?_
            | refine st_dgT rfl rfl rfl rfl ?_
            | refine st_dgF rfl rfl rfl ?_
            | (refine st_gS rfl rfl ?_ ?_ <;> intro hg <;> (try simp only [decide_eq_true_eq, decide_eq_false_iff_not, Bool.not_eq_true', Bool.not_eq_false'] at hg))
            | (refine st_dgS rfl rfl ?_ ?_ <;> intro hg <;> (try simp only [decide_eq_true_eq, decide_eq_false_iff_not, Bool.not_eq_true', Bool.not_eq_false'] at hg))
            | refine st_condT rfl ?_
            | refine st_condF rfl ?_
            | (refine st_condS rfl ?_ ?_ <;> intro hg <;> (try simp only [decide_eq_true_eq, decide_eq_false_iff_not, Bool.not_eq_true', Bool.not_eq_false'] at hg))
            | refine st_nil ?_
            | refine st_dnil ?_
            | refine st_tN ?_
            | refine st_seq ?_
            | refine st_block ?_
            | refine st_skip ?_
            | refine st_exit ?_
            | refine st_ret ?_
            | refine st_tE ?_
            | refine st_tR ?_
            | refine st_bN ?_
            | refine st_bR ?_
            | refine st_bH ?_
            | refine st_bM rfl ?_)
        · refine ⟨⟨k + 1, L2 ++ [(i, k)], c2 + 1 + 1 + 1 + 1 + 1, some (c2 + 1 + 1 + 1, 94)⟩, ⟨by show k + 1 ≤ _; omega, by show L2 ++ [(i, k)] = _; rw [n2 ⟨by omega, by omega⟩, ← k2], NrS.ok_s (by omega) (by show h.clk ≤ c2 + 1 + 1 + 1; omega) (by show c2 + 1 + 1 + 1 < c2 + 1 + 1 + 1 + 1 + 1; omega)⟩, by show f.loads.length - (k + 1) < f.loads.length - k; omega, (by (try (try simp only [go_sem, List.length_append, len_one])); repeat' (first | exact trivial | refine And.intro ?_ ?_ | rfl | (simp (disch := omega) only [go_sem, if_yes, if_no, ↓reduceIte, Nat.reduceAdd, Nat.reduceMul, Nat.reduceEqDiff, Nat.reduceBEq, Nat.reduceLeDiff]; rfl) | (simp (disch := omega) only [go_sem, if_yes, if_no, ↓reduceIte, Nat.reduceAdd, Nat.reduceMul, Nat.reduceEqDiff, Nat.reduceBEq, Nat.reduceLeDiff]))), (by (try (try simp only [go_sem, List.length_append, len_one])); repeat' (first | exact trivial | refine And.intro ?_ ?_ | rfl | (simp (disch := omega) only [go_sem, if_yes, if_no, ↓reduceIte, Nat.reduceAdd, Nat.reduceMul, Nat.reduceEqDiff, Nat.reduceBEq, Nat.reduceLeDiff]; rfl) | (simp (disch := omega) only [go_sem, if_yes, if_no, ↓reduceIte, Nat.reduceAdd, Nat.reduceMul, Nat.reduceEqDiff, Nat.reduceBEq, Nat.reduceLeDiff]))), rfl, hold9e (Nat.le_refl _) hno (by rw [List.map_append, List.take_of_length_le (by simp)]; rfl)⟩
        · refine ⟨⟨k + 1, L2, t2, some b2⟩, ⟨by show k + 1 ≤ _; omega, by show L2 = _; rw [n1 (fun e => by have e1 := e.1; have e2 := e.2; omega)]; exact k2, k3⟩, by show f.loads.length - (k + 1) < f.loads.length - k; omega, (by repeat' (first | exact trivial | refine And.intro ?_ ?_ | rfl | (simp (disch := omega) only [go_sem, if_yes, if_no, ↓reduceIte, Nat.reduceAdd, Nat.reduceMul, Nat.reduceEqDiff, Nat.reduceBEq, Nat.reduceLeDiff]; rfl) | (simp (disch := omega) only [go_sem, if_yes, if_no, ↓reduceIte, Nat.reduceAdd, Nat.reduceMul, Nat.reduceEqDiff, Nat.reduceBEq, Nat.reduceLeDiff]))), (by repeat' (first | exact trivial | refine And.intro ?_ ?_ | rfl | (simp (disch := omega) only [go_sem, if_yes, if_no, ↓reduceIte, Nat.reduceAdd, Nat.reduceMul, Nat.reduceEqDiff, Nat.reduceBEq, Nat.reduceLeDiff]; rfl) | (simp (disch := omega) only [go_sem, if_yes, if_no, ↓reduceIte, Nat.reduceAdd, Nat.reduceMul, Nat.reduceEqDiff, Nat.reduceBEq, Nat.reduceLeDiff]))), rfl, HOld.put _ _ _ (by show t2 ≤ _; omega)⟩
        · refine ⟨⟨k + 1, L2, t2, some b2⟩, ⟨by show k + 1 ≤ _; omega, by show L2 = _; rw [n1 (fun e => by have e1 := e.1; have e2 := e.2; omega)]; exact k2, k3⟩, by show f.loads.length - (k + 1) < f.loads.length - k; omega, (by repeat' (first | exact trivial | refine And.intro ?_ ?_ | rfl | (simp (disch := omega) only [go_sem, if_yes, if_no, ↓reduceIte, Nat.reduceAdd, Nat.reduceMul, Nat.reduceEqDiff, Nat.reduceBEq, Nat.reduceLeDiff]; rfl) | (simp (disch := omega) only [go_sem, if_yes, if_no, ↓reduceIte, Nat.reduceAdd, Nat.reduceMul, Nat.reduceEqDiff, Nat.reduceBEq, Nat.reduceLeDiff]))), (by repeat' (first | exact trivial | refine And.intro ?_ ?_ | rfl | (simp (disch := omega) only [go_sem, if_yes, if_no, ↓reduceIte, Nat.reduceAdd, Nat.reduceMul, Nat.reduceEqDiff, Nat.reduceBEq, Nat.reduceLeDiff]; rfl) | (simp (disch := omega) only [go_sem, if_yes, if_no, ↓reduceIte, Nat.reduceAdd, Nat.reduceMul, Nat.reduceEqDiff, Nat.reduceBEq, Nat.reduceLeDiff]))), rfl, HOld.put _ _ _ (by show t2 ≤ _; omega)⟩
        · obtain rfl : k = f.loads.length := by omega
          refine ⟨⟨i + 1, L2, t2, some b2⟩, ⟨by show i + 1 ≤ _; omega, by show L2 = _; rw [e3, if_pos hk2]; exact k2, k3⟩, by show f.loads.length - (i + 1) < f.loads.length - i; omega, (by (try (try simp only [s2 hk2])); repeat' (first | exact trivial | refine And.intro ?_ ?_ | rfl | (simp (disch := omega) only [go_sem, if_yes, if_no, ↓reduceIte, Nat.reduceAdd, Nat.reduceMul, Nat.reduceEqDiff, Nat.reduceBEq, Nat.reduceLeDiff]; rfl) | (simp (disch := omega) only [go_sem, if_yes, if_no, ↓reduceIte, Nat.reduceAdd, Nat.reduceMul, Nat.reduceEqDiff, Nat.reduceBEq, Nat.reduceLeDiff]))), (by (try (try simp only [s2 hk2])); repeat' (first | exact trivial | refine And.intro ?_ ?_ | rfl | (simp (disch := omega) only [go_sem, if_yes, if_no, ↓reduceIte, Nat.reduceAdd, Nat.reduceMul, Nat.reduceEqDiff, Nat.reduceBEq, Nat.reduceLeDiff]; rfl) | (simp (disch := omega) only [go_sem, if_yes, if_no, ↓reduceIte, Nat.reduceAdd, Nat.reduceMul, Nat.reduceEqDiff, Nat.reduceBEq, Nat.reduceLeDiff]))), rfl, HOld.put _ _ _ (by show t2 ≤ _; omega)⟩
    · refine ⟨⟨i + 1, L, t, none⟩, ⟨by show i + 1 ≤ _; omega, by show L = _; rw [e3, if_neg hg, List.append_nil]; exact i2, i3⟩, by show f.loads.length - (i + 1) < f.loads.length - i; omega, (by (try (try simp only [s0 (by assumption) hg])); repeat' (first | exact trivial | refine And.intro ?_ ?_ | rfl | (simp (disch := omega) only [go_sem, if_yes, if_no, ↓reduceIte, Nat.reduceAdd, Nat.reduceMul, Nat.reduceEqDiff, Nat.reduceBEq, Nat.reduceLeDiff]; rfl) | (simp (disch := omega) only [go_sem, if_yes, if_no, ↓reduceIte, Nat.reduceAdd, Nat.reduceMul, Nat.reduceEqDiff, Nat.reduceBEq, Nat.reduceLeDiff]))), (by (try (try simp only [s0 (by assumption) hg])); repeat' (first | exact trivial | refine And.intro ?_ ?_ | rfl | (simp (disch := omega) only [go_sem, if_yes, if_no, ↓reduceIte, Nat.reduceAdd, Nat.reduceMul, Nat.reduceEqDiff, Nat.reduceBEq, Nat.reduceLeDiff]; rfl) | (simp (disch := omega) only [go_sem, if_yes, if_no, ↓reduceIte, Nat.reduceAdd, Nat.reduceMul, Nat.reduceEqDiff, Nat.reduceBEq, Nat.reduceLeDiff]))), rfl, HOld.of _ (by show t ≤ _; omega)⟩
    · simp (disch := omega) only [AEnd, Try.results67, aresK, fin, go_sem, ↓reduceIte, Nat.reduceEqDiff, Nat.reduceAdd, Nat.reduceLeDiff, if_yes, if_no, implies_true, true_and, and_true, List.reverse_cons, List.reverse_nil]
      obtain rfl : i = f.loads.length := by omega
      have hvL : fireL f ap = L := by unfold fireL; rw [if_pos hE, i2]
      have hv : fireS f ap = powUp f.loads f.loads.length - lampUp f.loads f.loads.length := if_pos hE
      obtain rfl : L = [] := i3.2.1 rfl
      exact .inl ⟨.tup [.lst 2 [], .int .i64 (powUp f.loads f.loads.length - lampUp f.loads f.loads.length), .int .i64 0], VLe.tup (by simp only [VLes]; exact ⟨_, _, rfl, VLe.nils 2, _, _, rfl, VLe.refl _, _, _, rfl, VLe.refl _, rfl⟩), by rw [hvL, hv, hE]; rfl⟩
  | some bb =>
    simp only [go_sem] at hc
    simp only [go_sem]
    repeat' (first
        | refine st_seq_reg rfl (by first | (simp only [go_sem, List.length_map]; rfl) | rfl) (by first | (simp only [go_sem, List.length_map]; rfl) | rfl) ?_
        | refine st_reg rfl (by first | (simp only [go_sem, List.length_map]; rfl) | rfl) (by first | (simp only [go_sem, List.length_map]; rfl) | rfl) ?_
        | refine st_seq_draw rfl (by first | (simp only [go_sem, List.length_map]; rfl) | rfl) (by first | (simp only [go_sem, List.length_map]; rfl) | rfl) ?_
        | refine st_draw rfl (by first | (simp only [go_sem, List.length_map]; rfl) | rfl) (by first | (simp only [go_sem, List.length_map]; rfl) | rfl) ?_
        | refine st_op ?_
        | refine st_det rfl (by simp (disch := omega) only [go_sem, wr_i64, if_yes, if_no, ↓reduceIte, Nat.reduceAdd, Nat.reduceMul, Nat.reduceEqDiff, Nat.reduceBEq, Nat.reduceLeDiff, List.length_map]; rfl) ?_
        | refine st_dop rfl ?_
        | refine st_loc rfl (by simp (disch := omega) only [go_sem, wr_i64, if_yes, if_no, ↓reduceIte, Nat.reduceAdd, Nat.reduceMul, Nat.reduceEqDiff, Nat.reduceBEq, Nat.reduceLeDiff, List.length_map]; rfl) ?_
        | refine st_heap rfl (by simp (disch := omega) only [go_sem, wr_i64, if_yes, if_no, ↓reduceIte, Nat.reduceAdd, Nat.reduceMul, Nat.reduceEqDiff, Nat.reduceBEq, Nat.reduceLeDiff, List.length_map]; rfl) ?_
        | refine st_store (by simp (disch := omega) only [go_sem, wr_i64, if_yes, if_no, ↓reduceIte, Nat.reduceAdd, Nat.reduceMul, Nat.reduceEqDiff, Nat.reduceBEq, Nat.reduceLeDiff, List.length_map]; rfl) ?_
        | refine st_append (by simp (disch := omega) only [go_sem, wr_i64, if_yes, if_no, ↓reduceIte, Nat.reduceAdd, Nat.reduceMul, Nat.reduceEqDiff, Nat.reduceBEq, Nat.reduceLeDiff, List.length_map]; rfl) ?_
        | refine st_gT rfl rfl rfl ?_
        | refine st_gF rfl rfl rfl ?_
        | refine st_dgT rfl rfl rfl rfl ?_
        | refine st_dgF rfl rfl rfl ?_
        | (refine st_gS rfl rfl ?_ ?_ <;> intro hg <;> (try simp only [decide_eq_true_eq, decide_eq_false_iff_not, Bool.not_eq_true', Bool.not_eq_false'] at hg))
        | (refine st_dgS rfl rfl ?_ ?_ <;> intro hg <;> (try simp only [decide_eq_true_eq, decide_eq_false_iff_not, Bool.not_eq_true', Bool.not_eq_false'] at hg))
        | refine st_condT rfl ?_
        | refine st_condF rfl ?_
        | (refine st_condS rfl ?_ ?_ <;> intro hg <;> (try simp only [decide_eq_true_eq, decide_eq_false_iff_not, Bool.not_eq_true', Bool.not_eq_false'] at hg))
        | refine st_nil ?_
        | refine st_dnil ?_
        | refine st_tN ?_
        | refine st_seq ?_
        | refine st_block ?_
        | refine st_skip ?_
        | refine st_exit ?_
        | refine st_ret ?_
        | refine st_tE ?_
        | refine st_tR ?_
        | refine st_bN ?_
        | refine st_bR ?_
        | refine st_bH ?_
        | refine st_bM rfl ?_)
    · refine ⟨⟨i + 1, L, t, some bb⟩, ⟨by show i + 1 ≤ _; omega, by show L = _; rw [e3, if_neg (by omega), List.append_nil]; exact i2, i3⟩, by show f.loads.length - (i + 1) < f.loads.length - i; omega, (by (try (try simp only [s3 hg])); repeat' (first | exact trivial | refine And.intro ?_ ?_ | rfl | (simp (disch := omega) only [go_sem, if_yes, if_no, ↓reduceIte, Nat.reduceAdd, Nat.reduceMul, Nat.reduceEqDiff, Nat.reduceBEq, Nat.reduceLeDiff]; rfl) | (simp (disch := omega) only [go_sem, if_yes, if_no, ↓reduceIte, Nat.reduceAdd, Nat.reduceMul, Nat.reduceEqDiff, Nat.reduceBEq, Nat.reduceLeDiff]))), (by (try (try simp only [s3 hg])); repeat' (first | exact trivial | refine And.intro ?_ ?_ | rfl | (simp (disch := omega) only [go_sem, if_yes, if_no, ↓reduceIte, Nat.reduceAdd, Nat.reduceMul, Nat.reduceEqDiff, Nat.reduceBEq, Nat.reduceLeDiff]; rfl) | (simp (disch := omega) only [go_sem, if_yes, if_no, ↓reduceIte, Nat.reduceAdd, Nat.reduceMul, Nat.reduceEqDiff, Nat.reduceBEq, Nat.reduceLeDiff]))), rfl, HOld.put _ _ _ (by show t ≤ _; omega)⟩
    · have hk2 := hg
      refine st_loopH (α := NrS) tab mixed [] [] (by repeat (first | exact trivial | refine ⟨rfl, ?_⟩)) [] [] (by repeat (first | exact trivial | refine ⟨rfl, ?_⟩)) (fun a => [(11, .int .i64 (a.i : Nat)), (8, a.sl)]) [(1, _), (2, _), (9, _), (10, _)] (fun _ => []) [] (NrS.hp h) (fun a => a.i ≤ f.loads.length ∧ a.L = nearUp f.loads ap i ++ nearRow f.loads ap i a.i ∧ a.ok h) (fun a => f.loads.length - a.i) (by decide) ⟨0, L, t, some bb⟩ ⟨Nat.zero_le _, by show L = _; rw [show nearRow f.loads ap i 0 = [] from rfl, List.append_nil]; exact i2, i3⟩ (by (try simp only [go_sem]); repeat' (first | exact trivial | refine And.intro ?_ ?_ | rfl | (simp (disch := omega) only [go_sem, if_yes, if_no, ↓reduceIte, Nat.reduceAdd, Nat.reduceMul, Nat.reduceEqDiff, Nat.reduceBEq, Nat.reduceLeDiff]; rfl) | (simp (disch := omega) only [go_sem, if_yes, if_no, ↓reduceIte, Nat.reduceAdd, Nat.reduceMul, Nat.reduceEqDiff, Nat.reduceBEq, Nat.reduceLeDiff]))) (by (try simp only [go_sem]); repeat' (first | exact trivial | refine And.intro ?_ ?_ | rfl | (simp (disch := omega) only [go_sem, if_yes, if_no, ↓reduceIte, Nat.reduceAdd, Nat.reduceMul, Nat.reduceEqDiff, Nat.reduceBEq, Nat.reduceLeDiff]; rfl) | (simp (disch := omega) only [go_sem, if_yes, if_no, ↓reduceIte, Nat.reduceAdd, Nat.reduceMul, Nat.reduceEqDiff, Nat.reduceBEq, Nat.reduceLeDiff]))) (HOld.put _ _ _ (by show t ≤ _; omega)) ?_
      rintro ⟨k, L2, t2, ob2⟩ c2 ⟨k1, k2, k3⟩ hc2
      dsimp only at k1 k2
      have hL : L2.length ≤ 1000 := by
        have a1 := nearUp_len (ap := ap) hl0 i
        have a2 := nearRow_len f.loads ap i k
        rw [k2, List.length_append]; omega
      have hy : k < f.loads.length → 0 ≤ (ld f.loads k).at_ ∧ (ld f.loads k).at_ ≤ 3000 := fun h => ⟨(hf.loads.2 _ (ld_mem h)).1, (hf.loads.2 _ (ld_mem h)).2.1⟩
      have hx' := hx (by omega)
      have n1 : ¬ isNear f.loads ap i k → nearUp f.loads ap i ++ nearRow f.loads ap i (k + 1) = nearUp f.loads ap i ++ nearRow f.loads ap i k := fun hg => by
        show _ ++ (nearRow f.loads ap i k ++ _) = _; rw [if_neg hg, List.append_nil]
      have n2 : isNear f.loads ap i k → nearUp f.loads ap i ++ nearRow f.loads ap i (k + 1) = (nearUp f.loads ap i ++ nearRow f.loads ap i k) ++ [(i, k)] := fun hg => by
        show _ ++ (nearRow f.loads ap i k ++ _) = _; rw [if_pos hg, List.append_assoc]
      have kt := k3.1
      dsimp only at kt
      cases ob2 with
      | none =>
        obtain rfl : L2 = [] := k3.2.1 rfl
        simp only [go_sem] at hc2
        simp only [go_sem]
        repeat' (first
            | refine st_seq_reg rfl (by first | (simp only [go_sem, big, List.length_map]; rfl) | rfl) (by first | (simp only [go_sem, big, List.length_map]; rfl) | rfl) ?_
            | refine st_reg rfl (by first | (simp only [go_sem, big, List.length_map]; rfl) | rfl) (by first | (simp only [go_sem, big, List.length_map]; rfl) | rfl) ?_
            | refine st_seq_draw rfl (by first | (simp only [go_sem, big, List.length_map]; rfl) | rfl) (by first | (simp only [go_sem, big, List.length_map]; rfl) | rfl) ?_
            | refine st_draw rfl (by first | (simp only [go_sem, big, List.length_map]; rfl) | rfl) (by first | (simp only [go_sem, big, List.length_map]; rfl) | rfl) ?_
            | refine st_op ?_
            | refine st_det rfl (by simp (disch := omega) only [go_sem, wr_i64, if_yes, if_no, ↓reduceIte, Nat.reduceAdd, Nat.reduceMul, Nat.reduceEqDiff, Nat.reduceBEq, Nat.reduceLeDiff, big, List.length_map]; rfl) ?_
            | refine st_dop rfl ?_
            | refine st_loc rfl (by simp (disch := omega) only [go_sem, wr_i64, if_yes, if_no, ↓reduceIte, Nat.reduceAdd, Nat.reduceMul, Nat.reduceEqDiff, Nat.reduceBEq, Nat.reduceLeDiff, big, List.length_map]; rfl) ?_
            | refine st_heap rfl (by simp (disch := omega) only [go_sem, wr_i64, if_yes, if_no, ↓reduceIte, Nat.reduceAdd, Nat.reduceMul, Nat.reduceEqDiff, Nat.reduceBEq, Nat.reduceLeDiff, big, List.length_map]; rfl) ?_
            | refine st_store (by simp (disch := omega) only [go_sem, wr_i64, if_yes, if_no, ↓reduceIte, Nat.reduceAdd, Nat.reduceMul, Nat.reduceEqDiff, Nat.reduceBEq, Nat.reduceLeDiff, big, List.length_map]; rfl) ?_
            | refine st_append (by simp (disch := omega) only [go_sem, wr_i64, if_yes, if_no, ↓reduceIte, Nat.reduceAdd, Nat.reduceMul, Nat.reduceEqDiff, Nat.reduceBEq, Nat.reduceLeDiff, big, List.length_map]; rfl) ?_
            | refine st_gT rfl rfl rfl ?_
            | refine st_gF rfl rfl rfl ?_
            | refine st_dgT rfl rfl rfl rfl ?_
            | refine st_dgF rfl rfl rfl ?_
            | (refine st_gS rfl rfl ?_ ?_ <;> intro hg <;> (try simp only [decide_eq_true_eq, decide_eq_false_iff_not, Bool.not_eq_true', Bool.not_eq_false'] at hg))
            | (refine st_dgS rfl rfl ?_ ?_ <;> intro hg <;> (try simp only [decide_eq_true_eq, decide_eq_false_iff_not, Bool.not_eq_true', Bool.not_eq_false'] at hg))
            | refine st_condT rfl ?_
            | refine st_condF rfl ?_
            | (refine st_condS rfl ?_ ?_ <;> intro hg <;> (try simp only [decide_eq_true_eq, decide_eq_false_iff_not, Bool.not_eq_true', Bool.not_eq_false'] at hg))
            | refine st_nil ?_
            | refine st_dnil ?_
            | refine st_tN ?_
            | refine st_seq ?_
            | refine st_block ?_
            | refine st_skip ?_
            | refine st_exit ?_
            | refine st_ret ?_
            | refine st_tE ?_
            | refine st_tR ?_
            | refine st_bN ?_
            | refine st_bR ?_
            | refine st_bH ?_
            | refine st_bM rfl ?_)
        · refine ⟨⟨k + 1, [(i, k)], c2 + 1 + 1 + 1 + 1 + 1, some (c2 + 1 + 1 + 1, 94)⟩, ⟨by show k + 1 ≤ _; omega, by show [(i, k)] = _; rw [n2 ⟨by omega, by omega⟩, ← k2]; rfl, NrS.ok_s (by omega) (by show h.clk ≤ c2 + 1 + 1 + 1; omega) (by show c2 + 1 + 1 + 1 < c2 + 1 + 1 + 1 + 1 + 1; omega)⟩, by show f.loads.length - (k + 1) < f.loads.length - k; omega, (by repeat' (first | exact trivial | refine And.intro ?_ ?_ | rfl | (simp (disch := omega) only [go_sem, if_yes, if_no, ↓reduceIte, Nat.reduceAdd, Nat.reduceMul, Nat.reduceEqDiff, Nat.reduceBEq, Nat.reduceLeDiff]; rfl) | (simp (disch := omega) only [go_sem, if_yes, if_no, ↓reduceIte, Nat.reduceAdd, Nat.reduceMul, Nat.reduceEqDiff, Nat.reduceBEq, Nat.reduceLeDiff]))), (by repeat' (first | exact trivial | refine And.intro ?_ ?_ | rfl | (simp (disch := omega) only [go_sem, if_yes, if_no, ↓reduceIte, Nat.reduceAdd, Nat.reduceMul, Nat.reduceEqDiff, Nat.reduceBEq, Nat.reduceLeDiff]; rfl) | (simp (disch := omega) only [go_sem, if_yes, if_no, ↓reduceIte, Nat.reduceAdd, Nat.reduceMul, Nat.reduceEqDiff, Nat.reduceBEq, Nat.reduceLeDiff]))), rfl, HOld.refl _⟩
        · refine ⟨⟨k + 1, [], t2, none⟩, ⟨by show k + 1 ≤ _; omega, by show [] = _; rw [n1 (fun e => by have e1 := e.1; have e2 := e.2; omega)]; exact k2, k3⟩, by show f.loads.length - (k + 1) < f.loads.length - k; omega, (by repeat' (first | exact trivial | refine And.intro ?_ ?_ | rfl | (simp (disch := omega) only [go_sem, if_yes, if_no, ↓reduceIte, Nat.reduceAdd, Nat.reduceMul, Nat.reduceEqDiff, Nat.reduceBEq, Nat.reduceLeDiff]; rfl) | (simp (disch := omega) only [go_sem, if_yes, if_no, ↓reduceIte, Nat.reduceAdd, Nat.reduceMul, Nat.reduceEqDiff, Nat.reduceBEq, Nat.reduceLeDiff]))), (by repeat' (first | exact trivial | refine And.intro ?_ ?_ | rfl | (simp (disch := omega) only [go_sem, if_yes, if_no, ↓reduceIte, Nat.reduceAdd, Nat.reduceMul, Nat.reduceEqDiff, Nat.reduceBEq, Nat.reduceLeDiff]; rfl) | (simp (disch := omega) only [go_sem, if_yes, if_no, ↓reduceIte, Nat.reduceAdd, Nat.reduceMul, Nat.reduceEqDiff, Nat.reduceBEq, Nat.reduceLeDiff]))), rfl, HOld.of _ (by show t2 ≤ _; omega)⟩
        · refine ⟨⟨k + 1, [], t2, none⟩, ⟨by show k + 1 ≤ _; omega, by show [] = _; rw [n1 (fun e => by have e1 := e.1; have e2 := e.2; omega)]; exact k2, k3⟩, by show f.loads.length - (k + 1) < f.loads.length - k; omega, (by repeat' (first | exact trivial | refine And.intro ?_ ?_ | rfl | (simp (disch := omega) only [go_sem, if_yes, if_no, ↓reduceIte, Nat.reduceAdd, Nat.reduceMul, Nat.reduceEqDiff, Nat.reduceBEq, Nat.reduceLeDiff]; rfl) | (simp (disch := omega) only [go_sem, if_yes, if_no, ↓reduceIte, Nat.reduceAdd, Nat.reduceMul, Nat.reduceEqDiff, Nat.reduceBEq, Nat.reduceLeDiff]))), (by repeat' (first | exact trivial | refine And.intro ?_ ?_ | rfl | (simp (disch := omega) only [go_sem, if_yes, if_no, ↓reduceIte, Nat.reduceAdd, Nat.reduceMul, Nat.reduceEqDiff, Nat.reduceBEq, Nat.reduceLeDiff]; rfl) | (simp (disch := omega) only [go_sem, if_yes, if_no, ↓reduceIte, Nat.reduceAdd, Nat.reduceMul, Nat.reduceEqDiff, Nat.reduceBEq, Nat.reduceLeDiff]))), rfl, HOld.of _ (by show t2 ≤ _; omega)⟩
        · obtain rfl : k = f.loads.length := by omega
          refine ⟨⟨i + 1, [], t2, none⟩, ⟨by show i + 1 ≤ _; omega, by show [] = _; rw [e3, if_pos hk2]; exact k2, k3⟩, by show f.loads.length - (i + 1) < f.loads.length - i; omega, (by (try (try simp only [s2 hk2])); repeat' (first | exact trivial | refine And.intro ?_ ?_ | rfl | (simp (disch := omega) only [go_sem, if_yes, if_no, ↓reduceIte, Nat.reduceAdd, Nat.reduceMul, Nat.reduceEqDiff, Nat.reduceBEq, Nat.reduceLeDiff]; rfl) | (simp (disch := omega) only [go_sem, if_yes, if_no, ↓reduceIte, Nat.reduceAdd, Nat.reduceMul, Nat.reduceEqDiff, Nat.reduceBEq, Nat.reduceLeDiff]))), (by (try (try simp only [s2 hk2])); repeat' (first | exact trivial | refine And.intro ?_ ?_ | rfl | (simp (disch := omega) only [go_sem, if_yes, if_no, ↓reduceIte, Nat.reduceAdd, Nat.reduceMul, Nat.reduceEqDiff, Nat.reduceBEq, Nat.reduceLeDiff]; rfl) | (simp (disch := omega) only [go_sem, if_yes, if_no, ↓reduceIte, Nat.reduceAdd, Nat.reduceMul, Nat.reduceEqDiff, Nat.reduceBEq, Nat.reduceLeDiff]))), rfl, HOld.of _ (by show t2 ≤ _; omega)⟩
      | some b2 =>
        obtain ⟨kb1, kb2⟩ := k3.2.2 b2 rfl
        dsimp only at kb2
        have hno : h.at_ b2 = none := by
          cases e' : h.at_ b2 with
          | none => rfl
          | some kk => exact absurd (hold b2 kk e') (by omega)
        simp only [go_sem] at hc2
        simp only [go_sem]
        repeat' (first
            | refine st_seq_reg rfl (by first | (simp only [go_sem, big, List.length_map]; rfl) | rfl) (by first | (simp only [go_sem, big, List.length_map]; rfl) | rfl) ?_
            | refine st_reg rfl (by first | (simp only [go_sem, big, List.length_map]; rfl) | rfl) (by first | (simp only [go_sem, big, List.length_map]; rfl) | rfl) ?_
            | refine st_seq_draw rfl (by first | (simp only [go_sem, big, List.length_map]; rfl) | rfl) (by first | (simp only [go_sem, big, List.length_map]; rfl) | rfl) ?_
            | refine st_draw rfl (by first | (simp only [go_sem, big, List.length_map]; rfl) | rfl) (by first | (simp only [go_sem, big, List.length_map]; rfl) | rfl) ?_
            | refine st_op ?_
            | refine st_det rfl (by simp (disch := omega) only [go_sem, wr_i64, if_yes, if_no, ↓reduceIte, Nat.reduceAdd, Nat.reduceMul, Nat.reduceEqDiff, Nat.reduceBEq, Nat.reduceLeDiff, big, List.length_map]; rfl) ?_
            | refine st_dop rfl ?_
            | refine st_loc rfl (by simp (disch := omega) only [go_sem, wr_i64, if_yes, if_no, ↓reduceIte, Nat.reduceAdd, Nat.reduceMul, Nat.reduceEqDiff, Nat.reduceBEq, Nat.reduceLeDiff, big, List.length_map]; rfl) ?_
            | refine st_heap rfl (by simp (disch := omega) only [go_sem, wr_i64, if_yes, if_no, ↓reduceIte, Nat.reduceAdd, Nat.reduceMul, Nat.reduceEqDiff, Nat.reduceBEq, Nat.reduceLeDiff, big, List.length_map]; rfl) ?_
            | refine st_store (by simp (disch := omega) only [go_sem, wr_i64, if_yes, if_no, ↓reduceIte, Nat.reduceAdd, Nat.reduceMul, Nat.reduceEqDiff, Nat.reduceBEq, Nat.reduceLeDiff, big, List.length_map]; rfl) ?_
            | refine st_append (by simp (disch := omega) only [go_sem, wr_i64, if_yes, if_no, ↓reduceIte, Nat.reduceAdd, Nat.reduceMul, Nat.reduceEqDiff, Nat.reduceBEq, Nat.reduceLeDiff, big, List.length_map]; rfl) ?_
            | refine st_gT rfl rfl rfl ?_
            | refine st_gF rfl rfl rfl ?_
            | refine st_dgT rfl rfl rfl rfl ?_
            | refine st_dgF rfl rfl rfl ?_
            | (refine st_gS rfl rfl ?_ ?_ <;> intro hg <;> (try simp only [decide_eq_true_eq, decide_eq_false_iff_not, Bool.not_eq_true', Bool.not_eq_false'] at hg))
            | (refine st_dgS rfl rfl ?_ ?_ <;> intro hg <;> (try simp only [decide_eq_true_eq, decide_eq_false_iff_not, Bool.not_eq_true', Bool.not_eq_false'] at hg))
            | refine st_condT rfl ?_
            | refine st_condF rfl ?_
            | (refine st_condS rfl ?_ ?_ <;> intro hg <;> (try simp only [decide_eq_true_eq, decide_eq_false_iff_not, Bool.not_eq_true', Bool.not_eq_false'] at hg))
            | refine st_nil ?_
            | refine st_dnil ?_
            | refine st_tN ?_
            | refine st_seq ?_
            | refine st_block ?_
            | refine st_skip ?_
            | refine st_exit ?_
            | refine st_ret ?_
            | refine st_tE ?_
            | refine st_tR ?_
            | refine st_bN ?_
            | refine st_bR ?_
            | refine st_bH ?_
            | refine st_bM rfl ?_)
        · refine ⟨⟨k + 1, L2 ++ [(i, k)], c2 + 1 + 1 + 1 + 1 + 1, some (c2 + 1 + 1 + 1, 94)⟩, ⟨by show k + 1 ≤ _; omega, by show L2 ++ [(i, k)] = _; rw [n2 ⟨by omega, by omega⟩, ← k2], NrS.ok_s (by omega) (by show h.clk ≤ c2 + 1 + 1 + 1; omega) (by show c2 + 1 + 1 + 1 < c2 + 1 + 1 + 1 + 1 + 1; omega)⟩, by show f.loads.length - (k + 1) < f.loads.length - k; omega, (by (try (try simp only [go_sem, List.length_append, len_one])); repeat' (first | exact trivial | refine And.intro ?_ ?_ | rfl | (simp (disch := omega) only [go_sem, if_yes, if_no, ↓reduceIte, Nat.reduceAdd, Nat.reduceMul, Nat.reduceEqDiff, Nat.reduceBEq, Nat.reduceLeDiff]; rfl) | (simp (disch := omega) only [go_sem, if_yes, if_no, ↓reduceIte, Nat.reduceAdd, Nat.reduceMul, Nat.reduceEqDiff, Nat.reduceBEq, Nat.reduceLeDiff]))), (by (try (try simp only [go_sem, List.length_append, len_one])); repeat' (first | exact trivial | refine And.intro ?_ ?_ | rfl | (simp (disch := omega) only [go_sem, if_yes, if_no, ↓reduceIte, Nat.reduceAdd, Nat.reduceMul, Nat.reduceEqDiff, Nat.reduceBEq, Nat.reduceLeDiff]; rfl) | (simp (disch := omega) only [go_sem, if_yes, if_no, ↓reduceIte, Nat.reduceAdd, Nat.reduceMul, Nat.reduceEqDiff, Nat.reduceBEq, Nat.reduceLeDiff]))), rfl, hold9e (Nat.le_refl _) hno (by rw [List.map_append, List.take_of_length_le (by simp)]; rfl)⟩
        · refine ⟨⟨k + 1, L2, t2, some b2⟩, ⟨by show k + 1 ≤ _; omega, by show L2 = _; rw [n1 (fun e => by have e1 := e.1; have e2 := e.2; omega)]; exact k2, k3⟩, by show f.loads.length - (k + 1) < f.loads.length - k; omega, (by repeat' (first | exact trivial | refine And.intro ?_ ?_ | rfl | (simp (disch := omega) only [go_sem, if_yes, if_no, ↓reduceIte, Nat.reduceAdd, Nat.reduceMul, Nat.reduceEqDiff, Nat.reduceBEq, Nat.reduceLeDiff]; rfl) | (simp (disch := omega) only [go_sem, if_yes, if_no, ↓reduceIte, Nat.reduceAdd, Nat.reduceMul, Nat.reduceEqDiff, Nat.reduceBEq, Nat.reduceLeDiff]))), (by repeat' (first | exact trivial | refine And.intro ?_ ?_ | rfl | (simp (disch := omega) only [go_sem, if_yes, if_no, ↓reduceIte, Nat.reduceAdd, Nat.reduceMul, Nat.reduceEqDiff, Nat.reduceBEq, Nat.reduceLeDiff]; rfl) | (simp (disch := omega) only [go_sem, if_yes, if_no, ↓reduceIte, Nat.reduceAdd, Nat.reduceMul, Nat.reduceEqDiff, Nat.reduceBEq, Nat.reduceLeDiff]))), rfl, HOld.put _ _ _ (by show t2 ≤ _; omega)⟩
        · refine ⟨⟨k + 1, L2, t2, some b2⟩, ⟨by show k + 1 ≤ _; omega, by show L2 = _; rw [n1 (fun e => by have e1 := e.1; have e2 := e.2; omega)]; exact k2, k3⟩, by show f.loads.length - (k + 1) < f.loads.length - k; omega, (by repeat' (first | exact trivial | refine And.intro ?_ ?_ | rfl | (simp (disch := omega) only [go_sem, if_yes, if_no, ↓reduceIte, Nat.reduceAdd, Nat.reduceMul, Nat.reduceEqDiff, Nat.reduceBEq, Nat.reduceLeDiff]; rfl) | (simp (disch := omega) only [go_sem, if_yes, if_no, ↓reduceIte, Nat.reduceAdd, Nat.reduceMul, Nat.reduceEqDiff, Nat.reduceBEq, Nat.reduceLeDiff]))), (by repeat' (first | exact trivial | refine And.intro ?_ ?_ | rfl | (simp (disch := omega) only [go_sem, if_yes, if_no, ↓reduceIte, Nat.reduceAdd, Nat.reduceMul, Nat.reduceEqDiff, Nat.reduceBEq, Nat.reduceLeDiff]; rfl) | (simp (disch := omega) only [go_sem, if_yes, if_no, ↓reduceIte, Nat.reduceAdd, Nat.reduceMul, Nat.reduceEqDiff, Nat.reduceBEq, Nat.reduceLeDiff]))), rfl, HOld.put _ _ _ (by show t2 ≤ _; omega)⟩
        · obtain rfl : k = f.loads.length := by omega
          refine ⟨⟨i + 1, L2, t2, some b2⟩, ⟨by show i + 1 ≤ _; omega, by show L2 = _; rw [e3, if_pos hk2]; exact k2, k3⟩, by show f.loads.length - (i + 1) < f.loads.length - i; omega, (by (try (try simp only [s2 hk2])); repeat' (first | exact trivial | refine And.intro ?_ ?_ | rfl | (simp (disch := omega) only [go_sem, if_yes, if_no, ↓reduceIte, Nat.reduceAdd, Nat.reduceMul, Nat.reduceEqDiff, Nat.reduceBEq, Nat.reduceLeDiff]; rfl) | (simp (disch := omega) only [go_sem, if_yes, if_no, ↓reduceIte, Nat.reduceAdd, Nat.reduceMul, Nat.reduceEqDiff, Nat.reduceBEq, Nat.reduceLeDiff]))), (by (try (try simp only [s2 hk2])); repeat' (first | exact trivial | refine And.intro ?_ ?_ | rfl | (simp (disch := omega) only [go_sem, if_yes, if_no, ↓reduceIte, Nat.reduceAdd, Nat.reduceMul, Nat.reduceEqDiff, Nat.reduceBEq, Nat.reduceLeDiff]; rfl) | (simp (disch := omega) only [go_sem, if_yes, if_no, ↓reduceIte, Nat.reduceAdd, Nat.reduceMul, Nat.reduceEqDiff, Nat.reduceBEq, Nat.reduceLeDiff]))), rfl, HOld.put _ _ _ (by show t2 ≤ _; omega)⟩
    · refine ⟨⟨i + 1, L, t, some bb⟩, ⟨by show i + 1 ≤ _; omega, by show L = _; rw [e3, if_neg hg, List.append_nil]; exact i2, i3⟩, by show f.loads.length - (i + 1) < f.loads.length - i; omega, (by (try (try simp only [s0 (by assumption) hg])); repeat' (first | exact trivial | refine And.intro ?_ ?_ | rfl | (simp (disch := omega) only [go_sem, if_yes, if_no, ↓reduceIte, Nat.reduceAdd, Nat.reduceMul, Nat.reduceEqDiff, Nat.reduceBEq, Nat.reduceLeDiff]; rfl) | (simp (disch := omega) only [go_sem, if_yes, if_no, ↓reduceIte, Nat.reduceAdd, Nat.reduceMul, Nat.reduceEqDiff, Nat.reduceBEq, Nat.reduceLeDiff]))), (by (try (try simp only [s0 (by assumption) hg])); repeat' (first | exact trivial | refine And.intro ?_ ?_ | rfl | (simp (disch := omega) only [go_sem, if_yes, if_no, ↓reduceIte, Nat.reduceAdd, Nat.reduceMul, Nat.reduceEqDiff, Nat.reduceBEq, Nat.reduceLeDiff]; rfl) | (simp (disch := omega) only [go_sem, if_yes, if_no, ↓reduceIte, Nat.reduceAdd, Nat.reduceMul, Nat.reduceEqDiff, Nat.reduceBEq, Nat.reduceLeDiff]))), rfl, HOld.put _ _ _ (by show t ≤ _; omega)⟩
    · simp (disch := omega) only [AEnd, Try.results67, aresK, fin, go_sem, ↓reduceIte, Nat.reduceEqDiff, Nat.reduceAdd, Nat.reduceLeDiff, if_yes, if_no, implies_true, true_and, and_true, List.reverse_cons, List.reverse_nil]
      obtain rfl : i = f.loads.length := by omega
      have hvL : fireL f ap = L := by unfold fireL; rw [if_pos hE, i2]
      have hv : fireS f ap = powUp f.loads f.loads.length - lampUp f.loads f.loads.length := if_pos hE
      obtain ⟨kb1, kb2⟩ := i3.2.2 bb rfl
      refine ⟨fun b' hb' => if_neg (fun e => by rw [e] at hb'; omega), .inr ⟨bb, ⟨2, L.map nr⟩, kb1, ?_, ?_⟩⟩
      · rw [if_pos rfl]
      · rw [hvL, hv, hE]; simp [frz, frzs, List.take_of_length_le]
end Go.Proofs.Ytkjpceapflhmnaa
