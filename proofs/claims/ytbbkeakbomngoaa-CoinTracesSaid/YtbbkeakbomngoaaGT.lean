/- Contracts of functions that the claim reaches: what each call gives, told in our own logic. Conditions: those of each theorem. -/
import Derived.Test.YtbbkeakbomngoaaGR
import Derived.Test.YtbbkeakbomngoaaG17
import Derived.Test.YtbbkeakbomngoaaP4
import Derived.Test.YtbbkeakbomngoaaBaseD
set_option linter.all false
set_option linter.unusedSimpArgs false
set_option linter.unusedVariables false
namespace Go.Proofs.Ytbbkeakbomngoaa
open Go.Av
attribute [local irreducible] thenA blockA awp awpOps awpD awp1
set_option maxHeartbeats 8000000
set_option maxRecDepth 20000
/-! ### The reference: sets as lists of their numbers -/
theorem shl_bit {x : Int} (h : 0 ≤ x ∧ x < 8) : 1 ≤ shl .i64 1 x ∧ shl .i64 1 x ≤ 256 := by
  have h1 := shl_nat x.toNat (by omega)
  have h2 := pow_bd x.toNat (by omega)
  rw [show ((x.toNat : Nat) : Int) = x by omega] at h1
  rw [h1]; omega
theorem bitsS_bd {r : List Int} {m : Nat} (hr : ∀ i, i < m → 0 ≤ elt r i ∧ elt r i < 8) : ∀ i, i ≤ m → 0 ≤ bitsS r i ∧ bitsS r i ≤ 256 * i
  | 0, _ => by show (0 : Int) ≤ 0 ∧ (0 : Int) ≤ 256 * 0; omega
  | i + 1, h => by
    have h1 := bitsS_bd hr i (by omega)
    have h2 := shl_bit (hr i (by omega))
    show 0 ≤ bitsS r i + shl .i64 1 (elt r i) ∧ bitsS r i + shl .i64 1 (elt r i) ≤ 256 * ((i + 1 : Nat) : Int)
    omega
theorem c40 (r : List Int) {m : Nat} (hm : m ≤ 8) (hl : r.length = m) (hr : ∀ i, i < m → 0 ≤ elt r i ∧ elt r i < 8) : Pure Try.prog 40 [.lst 1 (r.map iv)] (fun v => v = .int .i64 (bitsT r)) := by
  intro h
  refine ACalls.forget (ACalls.of tab mixed Try.call40 Try.func40 rfl (fi := ⟨19, [], [], none, []⟩) rfl rfl (Nat.le_of_ble_eq_true rfl) (by decide) ?_)
  unfold startA
  repeat' (first | refine st_seq_reg rfl (by first | (simp only [go_sem]; rfl) | rfl) (by first | (simp only [go_sem]; rfl) | rfl) ?_ | refine st_reg rfl (by first | (simp only [go_sem]; rfl) | rfl) (by first | (simp only [go_sem]; rfl) | rfl) ?_ | refine st_op ?_ | refine st_det rfl (by simp (disch := omega) only [go_sem, wr_i64, if_yes, if_no, ↓reduceIte, Nat.reduceAdd, Nat.reduceMul, Nat.reduceEqDiff, Nat.reduceBEq, Nat.reduceLeDiff]; rfl) ?_ | refine st_condT rfl ?_ | refine st_condF rfl ?_ | (refine st_condS rfl ?_ ?_ <;> intro hg <;> (try simp only [decide_eq_true_eq, decide_eq_false_iff_not, Bool.not_eq_true', Bool.not_eq_false'] at hg)) | refine st_nil ?_ | refine st_tN ?_ | refine st_seq ?_ | refine st_block ?_ | refine st_skip ?_ | refine st_exit ?_ | refine st_ret ?_ | refine st_tE ?_ | refine st_tR ?_ | refine st_bN ?_ | refine st_bR ?_ | refine st_bH ?_ | refine st_bM rfl ?_)
  refine st_loopC (α := Nat) tab mixed [] [] (by repeat (first | exact trivial | refine ⟨rfl, ?_⟩)) [] [] (by repeat (first | exact trivial | refine ⟨rfl, ?_⟩)) (fun i => [(4, .int .i64 (i : Nat)), (3, .int .i64 (bitsS r i))]) [(0, _)] (fun _ => []) [] (fun i => i ≤ r.length) (fun i => r.length - i) (by decide) 0 (Nat.zero_le _) (by (try simp only [go_sem]); repeat' (first | exact trivial | refine And.intro ?_ ?_ | rfl | (simp (disch := omega) only [go_sem, if_yes, if_no, ↓reduceIte, Nat.reduceAdd, Nat.reduceMul, Nat.reduceEqDiff, Nat.reduceBEq, Nat.reduceLeDiff]; rfl) | (simp (disch := omega) only [go_sem, if_yes, if_no, ↓reduceIte, Nat.reduceAdd, Nat.reduceMul, Nat.reduceEqDiff, Nat.reduceBEq, Nat.reduceLeDiff]))) (by (try simp only [go_sem]); repeat' (first | exact trivial | refine And.intro ?_ ?_ | rfl | (simp (disch := omega) only [go_sem, if_yes, if_no, ↓reduceIte, Nat.reduceAdd, Nat.reduceMul, Nat.reduceEqDiff, Nat.reduceBEq, Nat.reduceLeDiff]; rfl) | (simp (disch := omega) only [go_sem, if_yes, if_no, ↓reduceIte, Nat.reduceAdd, Nat.reduceMul, Nat.reduceEqDiff, Nat.reduceBEq, Nat.reduceLeDiff]))) (by first | (simp only [go_sem]; rfl) | rfl) (by intro n; simp only [go_sem]; rfl) ?_
  rintro i c i1 hc
  have hst : bitsS r (i + 1) = bitsS r i + shl .i64 1 (elt r i) := rfl
  have hb1 := bitsS_bd hr i (by omega)
  have hel : elt r i = r.getD i 0 := rfl
  have hri := hr i
  simp only [go_sem]
  by_cases hi : i < r.length
  · have hri := hri (by omega)
    have hsb := shl_bit hri
    rw [hel] at hst hri hsb
    repeat' (first | refine st_seq_reg rfl (by first | (simp only [go_sem, List.length_map]; rfl) | rfl) (by first | (simp only [go_sem, List.length_map]; rfl) | rfl) ?_ | refine st_reg rfl (by first | (simp only [go_sem, List.length_map]; rfl) | rfl) (by first | (simp only [go_sem, List.length_map]; rfl) | rfl) ?_ | refine st_op ?_ | refine st_det rfl (by simp (disch := omega) only [go_sem, wr_i64, if_yes, if_no, ↓reduceIte, Nat.reduceAdd, Nat.reduceMul, Nat.reduceEqDiff, Nat.reduceBEq, Nat.reduceLeDiff, List.length_map]; rfl) ?_ | refine st_condT rfl ?_ | refine st_condF rfl ?_ | (refine st_condS rfl ?_ ?_ <;> intro hg <;> (try simp only [decide_eq_true_eq, decide_eq_false_iff_not, Bool.not_eq_true', Bool.not_eq_false'] at hg)) | refine st_nil ?_ | refine st_tN ?_ | refine st_seq ?_ | refine st_block ?_ | refine st_skip ?_ | refine st_exit ?_ | refine st_ret ?_ | refine st_tE ?_ | refine st_tR ?_ | refine st_bN ?_ | refine st_bR ?_ | refine st_bH ?_ | refine st_bM rfl ?_)
    all_goals try (exfalso; omega)
    refine ⟨i + 1, (by show i + 1 ≤ r.length; omega), by show r.length - (i + 1) < r.length - i; omega, (by (try (simp only [hst])); repeat' (first | exact trivial | refine And.intro ?_ ?_ | rfl | (simp (disch := omega) only [go_sem, if_yes, if_no, ↓reduceIte, Nat.reduceAdd, Nat.reduceMul, Nat.reduceEqDiff, Nat.reduceBEq, Nat.reduceLeDiff]; rfl) | (simp (disch := omega) only [go_sem, if_yes, if_no, ↓reduceIte, Nat.reduceAdd, Nat.reduceMul, Nat.reduceEqDiff, Nat.reduceBEq, Nat.reduceLeDiff]))), (by (try (simp only [hst])); repeat' (first | exact trivial | refine And.intro ?_ ?_ | rfl | (simp (disch := omega) only [go_sem, if_yes, if_no, ↓reduceIte, Nat.reduceAdd, Nat.reduceMul, Nat.reduceEqDiff, Nat.reduceBEq, Nat.reduceLeDiff]; rfl) | (simp (disch := omega) only [go_sem, if_yes, if_no, ↓reduceIte, Nat.reduceAdd, Nat.reduceMul, Nat.reduceEqDiff, Nat.reduceBEq, Nat.reduceLeDiff]))), rfl, HOld.of _ (by omega)⟩
  · obtain rfl : i = r.length := by omega
    repeat' (first | refine st_seq_reg rfl (by first | (simp only [go_sem, List.length_map]; rfl) | rfl) (by first | (simp only [go_sem, List.length_map]; rfl) | rfl) ?_ | refine st_reg rfl (by first | (simp only [go_sem, List.length_map]; rfl) | rfl) (by first | (simp only [go_sem, List.length_map]; rfl) | rfl) ?_ | refine st_op ?_ | refine st_det rfl (by simp (disch := omega) only [go_sem, wr_i64, if_yes, if_no, ↓reduceIte, Nat.reduceAdd, Nat.reduceMul, Nat.reduceEqDiff, Nat.reduceBEq, Nat.reduceLeDiff, List.length_map]; rfl) ?_ | refine st_condT rfl ?_ | refine st_condF rfl ?_ | (refine st_condS rfl ?_ ?_ <;> intro hg <;> (try simp only [decide_eq_true_eq, decide_eq_false_iff_not, Bool.not_eq_true', Bool.not_eq_false'] at hg)) | refine st_nil ?_ | refine st_tN ?_ | refine st_seq ?_ | refine st_block ?_ | refine st_skip ?_ | refine st_exit ?_ | refine st_ret ?_ | refine st_tE ?_ | refine st_tR ?_ | refine st_bN ?_ | refine st_bR ?_ | refine st_bH ?_ | refine st_bM rfl ?_)
    all_goals try (exfalso; omega)
    simp (disch := omega) only [AEnd, Try.results40, aresK, fin, go_sem, ↓reduceIte, Nat.reduceEqDiff, Nat.reduceAdd, Nat.reduceLeDiff, if_yes, if_no, implies_true, true_and, and_true, List.reverse_cons, List.reverse_nil]
    rfl
theorem catK_len {g : Nat → List (List Int)} {a : Nat} (hg : ∀ j, j < 10 → (g j).length ≤ 256) : ∀ k, a + k < 10 → (catK g a k).length ≤ 256 * k
  | 0, _ => Nat.le_refl _
  | k + 1, h => by
    have h1 := catK_len (a := a) hg k (by omega)
    have h2 := hg (a + k + 1) (by omega)
    show (catK g a k ++ (g (a + k + 1)).map (((a + k : Nat) : Int) :: ·)).length ≤ _
    rw [List.length_append, List.length_map]
    omega
theorem sets_len (n : Nat) : ∀ m a r, r ∈ setsF n m a → r.length = m
  | 0, a, r, h => by
    have : r = [] := by simpa [setsF] using h
    rw [this]; rfl
  | m + 1, a, r, h => by
    have key : ∀ k, r ∈ catK (setsF n m) a k → r.length = m + 1 := by
      intro k
      induction k with
      | zero => intro h; cases h
      | succ k ih =>
        intro h
        rcases List.mem_append.1 h with h | h
        · exact ih h
        · obtain ⟨y, hy, e⟩ := List.mem_map.1 h
          rw [← e, List.length_cons, sets_len n m _ y hy]
    exact key _ h
theorem VLe_one : VLe (.lst 1 [[.nils]]) (.lst 1 [[.lst 1 []]]) := by
  intro c x h
  simp only [VR] at h ⊢
  obtain ⟨a, cap, vs, h1, h2, h3, h4, h5, h6⟩ := h
  refine ⟨a, cap, vs, h1, h2, fun e => absurd (h3 e) (by simp), fun r hr => ?_, h5, ?_⟩
  · rw [List.mem_singleton.1 hr]; exact ⟨rfl, rfl⟩
  · simp only [VRss, VRs] at h6 ⊢
    obtain ⟨y, ys, e, ⟨z, zs, e2, hz, e3⟩, e4⟩ := h6
    exact ⟨y, ys, e, ⟨z, zs, e2, VLe.nils 1 c z hz, e3⟩, e4⟩
theorem frz_rowA {b : Nat × Nat} {k : Blk} (D : List (List Int)) : frzss b k (D.map rowA) = D.map rowA := by
  rw [frzss_map, List.map_map]
  congr 1
  funext r
  simp only [Function.comp, rowA, List.map_cons, List.map_nil, frz, frzss_map, List.map_map]
  congr 2
theorem frz_new {b : Nat × Nat} {x : Int} {r : List Int} {m : Nat} (hr : r.length = m) (D : List (List Int)) : frzss b ⟨1, [.int .i64 x] :: r.map iv⟩ (D.map rowA ++ [[.slc b 1 0 (1 + m)]]) = (D ++ [x :: r]).map rowA := by
  rw [frzss_map, List.map_append, ← frzss_map, frz_rowA, List.map_append]
  congr 1
  have e : 1 + m = ([AV.int .i64 x] :: r.map iv).length := by simp; omega
  simp only [List.map_cons, List.map_nil]
  rw [e, frz_whole]
  rfl
theorem tk_succ {C R : List (List Int)} {f : List Int → List Int} {j : Nat} (h : j < R.length) : C ++ (R.take (j + 1)).map f = (C ++ (R.take j).map f) ++ [f (lel R j)] := by
  rw [List.take_succ_eq_append_getElem h, List.map_append, List.append_assoc]
  simp [lel, List.getD_eq_getElem?_getD, h]
structure StS where
  k : Nat
  v : AV
  g : AH
theorem c38 (N : Nat) (hn : N ≤ 8) : ∀ (m : Nat), m ≤ 8 → ∀ a, a ≤ N → Pure Try.prog 38 [.int .i64 (a : Nat), .int .i64 (N : Nat), .int .i64 (m : Nat)] (fun v => v = .lst 1 ((setsF N m a).map rowA)) := by
  intro m
  induction m with
  | zero =>
    intro _ a ha
    refine Pure.give Try.call38 fun h hall => ?_
    refine ACalls.of tab mixed Try.call38 Try.func38 rfl (fi := ⟨43, [], [13, 40], none, []⟩) rfl rfl (Nat.le_of_ble_eq_true rfl) (by decide) ?_
    unfold startA
    repeat' (first | refine st_seq_reg rfl (by first | (simp only [go_sem]; rfl) | rfl) (by first | (simp only [go_sem]; rfl) | rfl) ?_ | refine st_reg rfl (by first | (simp only [go_sem]; rfl) | rfl) (by first | (simp only [go_sem]; rfl) | rfl) ?_ | refine st_op ?_ | refine st_det rfl (by simp (disch := omega) only [go_sem, wr_i64, if_yes, if_no, ↓reduceIte, Nat.reduceAdd, Nat.reduceMul, Nat.reduceEqDiff, Nat.reduceBEq, Nat.reduceLeDiff]; rfl) ?_ | refine st_heap rfl (by simp (disch := omega) only [go_sem, wr_i64, if_yes, if_no, ↓reduceIte, Nat.reduceAdd, Nat.reduceMul, Nat.reduceEqDiff, Nat.reduceBEq, Nat.reduceLeDiff]; rfl) ?_ | refine st_append (by simp (disch := omega) only [go_sem, wr_i64, if_yes, if_no, ↓reduceIte, Nat.reduceAdd, Nat.reduceMul, Nat.reduceEqDiff, Nat.reduceBEq, Nat.reduceLeDiff]; rfl) ?_ | refine st_condT rfl ?_ | refine st_condF rfl ?_ | (refine st_condS rfl ?_ ?_ <;> intro hg <;> (try simp only [decide_eq_true_eq, decide_eq_false_iff_not, Bool.not_eq_true', Bool.not_eq_false'] at hg)) | refine st_nil ?_ | refine st_tN ?_ | refine st_seq ?_ | refine st_block ?_ | refine st_skip ?_ | refine st_exit ?_ | refine st_ret ?_ | refine st_tE ?_ | refine st_tR ?_ | refine st_bN ?_ | refine st_bR ?_ | refine st_bH ?_ | refine st_bM rfl ?_)
    all_goals try (exfalso; omega)
    simp (disch := omega) only [AEnd, Try.results38, aresK, fin, go_sem, ↓reduceIte, Nat.reduceEqDiff, Nat.reduceAdd, Nat.reduceLeDiff, if_yes, if_no, implies_true, true_and, and_true, List.reverse_cons, List.reverse_nil]
    exact .inl ⟨_, VLe_one, rfl⟩
  | succ m ih =>
    intro hm a ha
    have ih := ih (by omega)
    refine Pure.give Try.call38 fun h hall => ?_
    refine ACalls.of tab mixed Try.call38 Try.func38 rfl (fi := ⟨43, [], [13, 40, 1000010], none, []⟩) rfl rfl (Nat.le_of_ble_eq_true rfl) (by decide) ?_
    unfold startA
    repeat' (first | refine st_seq_reg rfl (by first | (simp only [go_sem]; rfl) | rfl) (by first | (simp only [go_sem]; rfl) | rfl) ?_ | refine st_reg rfl (by first | (simp only [go_sem]; rfl) | rfl) (by first | (simp only [go_sem]; rfl) | rfl) ?_ | refine st_op ?_ | refine st_det rfl (by simp (disch := omega) only [go_sem, wr_i64, if_yes, if_no, ↓reduceIte, Nat.reduceAdd, Nat.reduceMul, Nat.reduceEqDiff, Nat.reduceBEq, Nat.reduceLeDiff]; rfl) ?_ | refine st_heap rfl (by simp (disch := omega) only [go_sem, wr_i64, if_yes, if_no, ↓reduceIte, Nat.reduceAdd, Nat.reduceMul, Nat.reduceEqDiff, Nat.reduceBEq, Nat.reduceLeDiff]; rfl) ?_ | refine st_append (by simp (disch := omega) only [go_sem, wr_i64, if_yes, if_no, ↓reduceIte, Nat.reduceAdd, Nat.reduceMul, Nat.reduceEqDiff, Nat.reduceBEq, Nat.reduceLeDiff]; rfl) ?_ | refine st_condT rfl ?_ | refine st_condF rfl ?_ | (refine st_condS rfl ?_ ?_ <;> intro hg <;> (try simp only [decide_eq_true_eq, decide_eq_false_iff_not, Bool.not_eq_true', Bool.not_eq_false'] at hg)) | refine st_nil ?_ | refine st_tN ?_ | refine st_seq ?_ | refine st_block ?_ | refine st_skip ?_ | refine st_exit ?_ | refine st_ret ?_ | refine st_tE ?_ | refine st_tR ?_ | refine st_bN ?_ | refine st_bR ?_ | refine st_bH ?_ | refine st_bM rfl ?_)
    all_goals try (exfalso; omega)
    have hgl : ∀ j, j < 10 → (setsF N m j).length ≤ 256 := fun j hj => sets_many N (by omega) m (by omega) j hj
    refine st_loopH (α := StS) tab mixed [] [] (by repeat (first | exact trivial | refine ⟨rfl, ?_⟩)) [] [] (by repeat (first | exact trivial | refine ⟨rfl, ?_⟩)) (fun s => [(8, .int .i64 ((a + s.k : Nat) : Int)), (7, s.v)]) [(0, _), (1, _), (2, _)] (fun _ => []) [] (fun s => s.g) (fun s => a + s.k ≤ N ∧ (∀ b' : Nat × Nat, b'.1 < h.clk → s.g.at_ b' = h.at_ b') ∧ s.g.lp = h.lp ∧ h.clk ≤ s.g.clk ∧ Sl h s.g s.v 1 ((catK (setsF N m) a s.k).map rowA)) (fun s => N - (a + s.k)) (by decide) ⟨0, .nils, h⟩ ⟨ha, fun _ _ => rfl, rfl, Nat.le_refl _, .inl ⟨rfl, rfl⟩⟩ (by (try simp only [go_sem]); repeat' (first | exact trivial | refine And.intro ?_ ?_ | rfl | (simp (disch := omega) only [go_sem, if_yes, if_no, ↓reduceIte, Nat.reduceAdd, Nat.reduceMul, Nat.reduceEqDiff, Nat.reduceBEq, Nat.reduceLeDiff]; rfl) | (simp (disch := omega) only [go_sem, if_yes, if_no, ↓reduceIte, Nat.reduceAdd, Nat.reduceMul, Nat.reduceEqDiff, Nat.reduceBEq, Nat.reduceLeDiff]))) (by (try simp only [go_sem]); repeat' (first | exact trivial | refine And.intro ?_ ?_ | rfl | (simp (disch := omega) only [go_sem, if_yes, if_no, ↓reduceIte, Nat.reduceAdd, Nat.reduceMul, Nat.reduceEqDiff, Nat.reduceBEq, Nat.reduceLeDiff]; rfl) | (simp (disch := omega) only [go_sem, if_yes, if_no, ↓reduceIte, Nat.reduceAdd, Nat.reduceMul, Nat.reduceEqDiff, Nat.reduceBEq, Nat.reduceLeDiff]))) (HOld.tick (by simp only [go_sem]; omega)) ?_
    rintro ⟨k, v, g⟩ c ⟨i1, i2, i3, i4, hS⟩ hc
    dsimp only at i1 i2 i3 i4 hS hc
    simp only [go_sem]
    by_cases hi : a + k < N
    case neg =>
      obtain rfl : k = N - a := by omega
      repeat' (first | refine st_seq_reg rfl (by first | (simp only [go_sem]; rfl) | rfl) (by first | (simp only [go_sem]; rfl) | rfl) ?_ | refine st_reg rfl (by first | (simp only [go_sem]; rfl) | rfl) (by first | (simp only [go_sem]; rfl) | rfl) ?_ | refine st_op ?_ | refine st_det rfl (by simp (disch := omega) only [go_sem, wr_i64, if_yes, if_no, ↓reduceIte, Nat.reduceAdd, Nat.reduceMul, Nat.reduceEqDiff, Nat.reduceBEq, Nat.reduceLeDiff]; rfl) ?_ | refine st_heap rfl (by simp (disch := omega) only [go_sem, wr_i64, if_yes, if_no, ↓reduceIte, Nat.reduceAdd, Nat.reduceMul, Nat.reduceEqDiff, Nat.reduceBEq, Nat.reduceLeDiff]; rfl) ?_ | refine st_append (by simp (disch := omega) only [go_sem, wr_i64, if_yes, if_no, ↓reduceIte, Nat.reduceAdd, Nat.reduceMul, Nat.reduceEqDiff, Nat.reduceBEq, Nat.reduceLeDiff]; rfl) ?_ | refine st_condT rfl ?_ | refine st_condF rfl ?_ | (refine st_condS rfl ?_ ?_ <;> intro hg <;> (try simp only [decide_eq_true_eq, decide_eq_false_iff_not, Bool.not_eq_true', Bool.not_eq_false'] at hg)) | refine st_nil ?_ | refine st_tN ?_ | refine st_seq ?_ | refine st_block ?_ | refine st_skip ?_ | refine st_exit ?_ | refine st_ret ?_ | refine st_tE ?_ | refine st_tR ?_ | refine st_bN ?_ | refine st_bR ?_ | refine st_bH ?_ | refine st_bM rfl ?_)
      all_goals try (exfalso; omega)
      rcases hS with ⟨rfl, e⟩ | ⟨b1, rfl, h1, h2, h3⟩
      · simp (disch := omega) only [AEnd, Try.results38, aresK, fin, go_sem, ↓reduceIte, Nat.reduceEqDiff, Nat.reduceAdd, Nat.reduceLeDiff, if_yes, if_no, implies_true, true_and, and_true, List.reverse_cons, List.reverse_nil]
        refine ⟨i2, i3, .inl ⟨_, VLe.nils 1, ?_⟩⟩
        rw [← e]; rfl
      · simp (disch := omega) only [AEnd, Try.results38, aresK, fin, go_sem, ↓reduceIte, Nat.reduceEqDiff, Nat.reduceAdd, Nat.reduceLeDiff, if_yes, if_no, implies_true, true_and, and_true, List.reverse_cons, List.reverse_nil]
        exact ⟨i2, i3, .inr ⟨b1, _, h2, h1, by rw [← List.length_map rowA, frz_whole]; rfl⟩⟩
    have hgk := hgl (a + k + 1) (by omega)
    have hck := catK_len (a := a) hgl k (by omega)
    have hrl := sets_len N m (a + k + 1)
    have ihp : ∀ (x y : Int), x = ((a + k + 1 : Nat) : Int) → y = ((m : Nat) : Int) → Pure Try.prog 38 [.int .i64 x, .int .i64 (N : Nat), .int .i64 y] (fun v => v = .lst 1 ((setsF N m (a + k + 1)).map rowA)) := fun x y h1 h2 => by rw [h1, h2]; exact ih (a + k + 1) (by omega)
    have hcat : catK (setsF N m) a (k + 1) = catK (setsF N m) a k ++ (setsF N m (a + k + 1)).map (((a + k : Nat) : Int) :: ·) := rfl
    generalize hR : setsF N m (a + k + 1) = R at *
    generalize hC : catK (setsF N m) a k = C at *
    repeat' (first | refine st_seq_reg rfl (by first | (simp only [go_sem]; rfl) | rfl) (by first | (simp only [go_sem]; rfl) | rfl) ?_ | refine st_reg rfl (by first | (simp only [go_sem]; rfl) | rfl) (by first | (simp only [go_sem]; rfl) | rfl) ?_ | refine st_op ?_ | refine st_det rfl (by simp (disch := omega) only [go_sem, wr_i64, if_yes, if_no, ↓reduceIte, Nat.reduceAdd, Nat.reduceMul, Nat.reduceEqDiff, Nat.reduceBEq, Nat.reduceLeDiff]; rfl) ?_ | refine st_heap rfl (by simp (disch := omega) only [go_sem, wr_i64, if_yes, if_no, ↓reduceIte, Nat.reduceAdd, Nat.reduceMul, Nat.reduceEqDiff, Nat.reduceBEq, Nat.reduceLeDiff]; rfl) ?_ | refine st_append (by simp (disch := omega) only [go_sem, wr_i64, if_yes, if_no, ↓reduceIte, Nat.reduceAdd, Nat.reduceMul, Nat.reduceEqDiff, Nat.reduceBEq, Nat.reduceLeDiff]; rfl) ?_ | (refine st_pureE (by first | (simp (disch := omega) only [go_sem]; rfl) | rfl) rfl (ihp _ _ (by omega) (by omega)) (by first | (simp only [go_sem]; rfl) | rfl) (by intro n; simp (disch := omega) only [go_sem]; rfl) ?_; intro n hn) | refine st_condT rfl ?_ | refine st_condF rfl ?_ | (refine st_condS rfl ?_ ?_ <;> intro hg <;> (try simp only [decide_eq_true_eq, decide_eq_false_iff_not, Bool.not_eq_true', Bool.not_eq_false'] at hg)) | refine st_nil ?_ | refine st_tN ?_ | refine st_seq ?_ | refine st_block ?_ | refine st_skip ?_ | refine st_exit ?_ | refine st_ret ?_ | refine st_tE ?_ | refine st_tR ?_ | refine st_bN ?_ | refine st_bR ?_ | refine st_bH ?_ | refine st_bM rfl ?_)
    all_goals try (exfalso; omega)
    refine st_loopH (α := StS) tab mixed [] [] (by repeat (first | exact trivial | refine ⟨rfl, ?_⟩)) [] [] (by repeat (first | exact trivial | refine ⟨rfl, ?_⟩)) (fun s => [(10, .int .i64 (s.k : Nat)), (7, s.v)]) [(0, _), (1, _), (2, _), (8, _), (9, _)] (fun _ => []) [] (fun s => s.g) (fun s => s.k ≤ R.length ∧ (∀ b' : Nat × Nat, b'.1 < h.clk → s.g.at_ b' = h.at_ b') ∧ s.g.lp = h.lp ∧ h.clk ≤ s.g.clk ∧ Sl h s.g s.v 1 ((C ++ (R.take s.k).map (((a + k : Nat) : Int) :: ·)).map rowA)) (fun s => R.length - s.k) (by decide) ⟨0, v, g⟩ ⟨Nat.zero_le _, i2, i3, i4, (by simp only [List.take_zero, List.map_nil, List.append_nil]; exact hS)⟩ (by (try simp only [go_sem]); repeat' (first | exact trivial | refine And.intro ?_ ?_ | rfl | (simp (disch := omega) only [go_sem, if_yes, if_no, ↓reduceIte, Nat.reduceAdd, Nat.reduceMul, Nat.reduceEqDiff, Nat.reduceBEq, Nat.reduceLeDiff]; rfl) | (simp (disch := omega) only [go_sem, if_yes, if_no, ↓reduceIte, Nat.reduceAdd, Nat.reduceMul, Nat.reduceEqDiff, Nat.reduceBEq, Nat.reduceLeDiff]))) (by (try simp only [go_sem]); repeat' (first | exact trivial | refine And.intro ?_ ?_ | rfl | (simp (disch := omega) only [go_sem, if_yes, if_no, ↓reduceIte, Nat.reduceAdd, Nat.reduceMul, Nat.reduceEqDiff, Nat.reduceBEq, Nat.reduceLeDiff]; rfl) | (simp (disch := omega) only [go_sem, if_yes, if_no, ↓reduceIte, Nat.reduceAdd, Nat.reduceMul, Nat.reduceEqDiff, Nat.reduceBEq, Nat.reduceLeDiff]))) (HOld.tick (by simp only [go_sem]; omega)) ?_
    rintro ⟨j, v2, g2⟩ c2 ⟨j1, j2, j3, j4, hS2⟩ hc2
    dsimp only at j1 j2 j3 j4 hS2 hc2
    simp only [go_sem]
    by_cases hj : j < R.length
    case neg =>
      repeat' (first | refine st_seq_reg rfl (by first | (simp only [go_sem, List.length_map]; rfl) | rfl) (by first | (simp only [go_sem, List.length_map]; rfl) | rfl) ?_ | refine st_reg rfl (by first | (simp only [go_sem, List.length_map]; rfl) | rfl) (by first | (simp only [go_sem, List.length_map]; rfl) | rfl) ?_ | refine st_op ?_ | refine st_det rfl (by simp (disch := omega) only [go_sem, wr_i64, if_yes, if_no, ↓reduceIte, Nat.reduceAdd, Nat.reduceMul, Nat.reduceEqDiff, Nat.reduceBEq, Nat.reduceLeDiff, List.length_map]; rfl) ?_ | refine st_heap rfl (by simp (disch := omega) only [go_sem, wr_i64, if_yes, if_no, ↓reduceIte, Nat.reduceAdd, Nat.reduceMul, Nat.reduceEqDiff, Nat.reduceBEq, Nat.reduceLeDiff, List.length_map]; rfl) ?_ | refine st_append (by simp (disch := omega) only [go_sem, wr_i64, if_yes, if_no, ↓reduceIte, Nat.reduceAdd, Nat.reduceMul, Nat.reduceEqDiff, Nat.reduceBEq, Nat.reduceLeDiff, List.length_map]; rfl) ?_ | refine st_condT rfl ?_ | refine st_condF rfl ?_ | (refine st_condS rfl ?_ ?_ <;> intro hg <;> (try simp only [decide_eq_true_eq, decide_eq_false_iff_not, Bool.not_eq_true', Bool.not_eq_false'] at hg)) | refine st_nil ?_ | refine st_tN ?_ | refine st_seq ?_ | refine st_block ?_ | refine st_skip ?_ | refine st_exit ?_ | refine st_ret ?_ | refine st_tE ?_ | refine st_tR ?_ | refine st_bN ?_ | refine st_bR ?_ | refine st_bH ?_ | refine st_bM rfl ?_)
      all_goals try (exfalso; omega)
      refine ⟨⟨k + 1, v2, g2⟩, ⟨by show a + (k + 1) ≤ N; omega, j2, j3, j4, (by rw [hcat]; rw [List.take_of_length_le (by omega)] at hS2; exact hS2)⟩, by show N - (a + (k + 1)) < N - (a + k); omega, (by repeat' (first | exact trivial | refine And.intro ?_ ?_ | rfl | (simp (disch := omega) only [go_sem, if_yes, if_no, ↓reduceIte, Nat.reduceAdd, Nat.reduceMul, Nat.reduceEqDiff, Nat.reduceBEq, Nat.reduceLeDiff]; rfl) | (simp (disch := omega) only [go_sem, if_yes, if_no, ↓reduceIte, Nat.reduceAdd, Nat.reduceMul, Nat.reduceEqDiff, Nat.reduceBEq, Nat.reduceLeDiff]))), (by repeat' (first | exact trivial | refine And.intro ?_ ?_ | rfl | (simp (disch := omega) only [go_sem, if_yes, if_no, ↓reduceIte, Nat.reduceAdd, Nat.reduceMul, Nat.reduceEqDiff, Nat.reduceBEq, Nat.reduceLeDiff]; rfl) | (simp (disch := omega) only [go_sem, if_yes, if_no, ↓reduceIte, Nat.reduceAdd, Nat.reduceMul, Nat.reduceEqDiff, Nat.reduceBEq, Nat.reduceLeDiff]))), rfl, HOld.tick (by simp only [go_sem]; omega)⟩
    have hrj := hrl (lel R j) (lel_mem hj)
    have htk := tk_succ (C := C) (f := (((a + k : Nat) : Int) :: ·)) hj
    have hDl : (C ++ (R.take j).map (((a + k : Nat) : Int) :: ·)).length ≤ 256 * k + 256 := by rw [List.length_append, List.length_map, List.length_take]; omega
    generalize hD : C ++ (R.take j).map (((a + k : Nat) : Int) :: ·) = D at *
    have o39 : ∀ b' : Nat × Nat, b'.1 < h.clk → ¬ b' = (c2 + 1, 39) := fun b' hb' e => by rw [e] at hb'; dsimp only at hb'; omega
    have o41 : ∀ b' : Nat × Nat, b'.1 < h.clk → ¬ b' = (c2 + 1, 41) := fun b' hb' e => by rw [e] at hb'; dsimp only at hb'; omega
    have o34 : ∀ b' : Nat × Nat, b'.1 < h.clk → ¬ b' = (c2 + 1, 34) := fun b' hb' e => by rw [e] at hb'; dsimp only at hb'; omega
    have p41 : ¬ ((c2 + 1, 41) : Nat × Nat) = (c2 + 1, 39) := ne_snd (by simp)
    have p39 : ¬ ((c2 + 1, 39) : Nat × Nat) = (c2 + 1, 41) := ne_snd (by simp)
    rcases hS2 with ⟨rfl, e2⟩ | ⟨b1, rfl, q2, q3, q4⟩
    · obtain rfl : D = [] := by simpa using e2
      repeat' (first | refine st_seq_reg rfl (by first | (simp only [go_sem, List.length_map, big, hrj]; rfl) | rfl) (by first | (simp only [go_sem, List.length_map, big, hrj]; rfl) | rfl) ?_ | refine st_reg rfl (by first | (simp only [go_sem, List.length_map, big, hrj]; rfl) | rfl) (by first | (simp only [go_sem, List.length_map, big, hrj]; rfl) | rfl) ?_ | refine st_op ?_ | refine st_det rfl (by simp (disch := omega) only [go_sem, wr_i64, if_yes, if_no, ↓reduceIte, Nat.reduceAdd, Nat.reduceMul, Nat.reduceEqDiff, Nat.reduceBEq, Nat.reduceLeDiff, List.length_map, big, hrj]; rfl) ?_ | refine st_heap rfl (by simp (disch := omega) only [go_sem, wr_i64, if_yes, if_no, ↓reduceIte, Nat.reduceAdd, Nat.reduceMul, Nat.reduceEqDiff, Nat.reduceBEq, Nat.reduceLeDiff, List.length_map, big, hrj]; rfl) ?_ | refine st_append (by simp (disch := omega) only [go_sem, wr_i64, if_yes, if_no, ↓reduceIte, Nat.reduceAdd, Nat.reduceMul, Nat.reduceEqDiff, Nat.reduceBEq, Nat.reduceLeDiff, List.length_map, big, hrj]; rfl) ?_ | refine st_condT rfl ?_ | refine st_condF rfl ?_ | (refine st_condS rfl ?_ ?_ <;> intro hg <;> (try simp only [decide_eq_true_eq, decide_eq_false_iff_not, Bool.not_eq_true', Bool.not_eq_false'] at hg)) | refine st_nil ?_ | refine st_tN ?_ | refine st_seq ?_ | refine st_block ?_ | refine st_skip ?_ | refine st_exit ?_ | refine st_ret ?_ | refine st_tE ?_ | refine st_tR ?_ | refine st_bN ?_ | refine st_bR ?_ | refine st_bH ?_ | refine st_bM rfl ?_)
      all_goals try (exfalso; omega)
      refine st_free ?_
      refine ASem.frzH (b := (c2 + 1, 39)) (b2 := (c2 + 1, 41)) (k := ⟨1, [.int .i64 ((a + k : Nat) : Int)] :: (lel R j).map iv⟩) (k2 := ⟨1, [[.slc (c2 + 1, 39) 1 0 (1 + m)]]⟩) (by simp only [go_sem, p39, ↓reduceIte]) (by simp only [go_sem, ↓reduceIte]) p41 (fun _ => .inl rfl) (fun id cs' h => ⟨cs', h, .inl rfl⟩) ?_
      have hfz := frz_new (b := (c2 + 1, 39)) (x := ((a + k : Nat) : Int)) hrj []
      simp only [List.map_nil, List.nil_append] at hfz htk
      rw [hfz]
      refine st_run tab mixed (f2 := ⟨43, [], [13, 40], none, []⟩) rfl rfl (by decide) ?_
      repeat' (first | refine st_seq_reg rfl (by first | (simp only [go_sem]; rfl) | rfl) (by first | (simp only [go_sem]; rfl) | rfl) ?_ | refine st_reg rfl (by first | (simp only [go_sem]; rfl) | rfl) (by first | (simp only [go_sem]; rfl) | rfl) ?_ | refine st_op ?_ | refine st_det rfl (by simp (disch := omega) only [go_sem, wr_i64, if_yes, if_no, ↓reduceIte, Nat.reduceAdd, Nat.reduceMul, Nat.reduceEqDiff, Nat.reduceBEq, Nat.reduceLeDiff]; rfl) ?_ | refine st_heap rfl (by simp (disch := omega) only [go_sem, wr_i64, if_yes, if_no, ↓reduceIte, Nat.reduceAdd, Nat.reduceMul, Nat.reduceEqDiff, Nat.reduceBEq, Nat.reduceLeDiff]; rfl) ?_ | refine st_append (by simp (disch := omega) only [go_sem, wr_i64, if_yes, if_no, ↓reduceIte, Nat.reduceAdd, Nat.reduceMul, Nat.reduceEqDiff, Nat.reduceBEq, Nat.reduceLeDiff]; rfl) ?_ | refine st_condT rfl ?_ | refine st_condF rfl ?_ | (refine st_condS rfl ?_ ?_ <;> intro hg <;> (try simp only [decide_eq_true_eq, decide_eq_false_iff_not, Bool.not_eq_true', Bool.not_eq_false'] at hg)) | refine st_nil ?_ | refine st_tN ?_ | refine st_seq ?_ | refine st_block ?_ | refine st_skip ?_ | refine st_exit ?_ | refine st_ret ?_ | refine st_tE ?_ | refine st_tR ?_ | refine st_bN ?_ | refine st_bR ?_ | refine st_bH ?_ | refine st_bM rfl ?_)
      refine ⟨⟨j + 1, .slc (c2 + 1, 41) 1 0 1, _⟩, ⟨by show j + 1 ≤ R.length; omega, fun b' hb' => by simp only [go_sem, o39 b' hb', o41 b' hb', o34 b' hb', ↓reduceIte]; exact j2 b' hb', by simp only [go_sem]; exact j3, by simp only [go_sem]; omega, .inr ⟨(c2 + 1, 41), by rw [htk]; rfl, by rw [htk]; simp only [go_sem, ↓reduceIte], by show h.clk ≤ c2 + 1; omega, by simp only [go_sem]; omega⟩⟩, by show R.length - (j + 1) < R.length - j; omega, (by repeat' (first | exact trivial | refine And.intro ?_ ?_ | rfl | (simp (disch := omega) only [go_sem, if_yes, if_no, ↓reduceIte, Nat.reduceAdd, Nat.reduceMul, Nat.reduceEqDiff, Nat.reduceBEq, Nat.reduceLeDiff]; rfl) | (simp (disch := omega) only [go_sem, if_yes, if_no, ↓reduceIte, Nat.reduceAdd, Nat.reduceMul, Nat.reduceEqDiff, Nat.reduceBEq, Nat.reduceLeDiff]))), (by repeat' (first | exact trivial | refine And.intro ?_ ?_ | rfl | (simp (disch := omega) only [go_sem, if_yes, if_no, ↓reduceIte, Nat.reduceAdd, Nat.reduceMul, Nat.reduceEqDiff, Nat.reduceBEq, Nat.reduceLeDiff]; rfl) | (simp (disch := omega) only [go_sem, if_yes, if_no, ↓reduceIte, Nat.reduceAdd, Nat.reduceMul, Nat.reduceEqDiff, Nat.reduceBEq, Nat.reduceLeDiff]))), rfl, HOld.refl _⟩
    · have n34 : ¬ b1 = (c2 + 1, 34) := fun e => by rw [e] at q4; dsimp only at q4; omega
      have n39 : ¬ b1 = (c2 + 1, 39) := fun e => by rw [e] at q4; dsimp only at q4; omega
      have n41 : ¬ b1 = (c2 + 1, 41) := fun e => by rw [e] at q4; dsimp only at q4; omega
      have m39 : ¬ (c2 + 1, 39) = b1 := fun e => n39 e.symm
      have m41 : ¬ (c2 + 1, 41) = b1 := fun e => n41 e.symm
      have ob1 : ∀ b' : Nat × Nat, b'.1 < h.clk → ¬ b' = b1 := fun b' hb' e => by rw [e] at hb'; omega
      repeat' (first | refine st_seq_reg rfl (by first | (simp only [go_sem, List.length_map, big, hrj, q2, n34, n39, m39]; rfl) | rfl) (by first | (simp only [go_sem, List.length_map, big, hrj, q2, n34, n39, m39]; rfl) | rfl) ?_ | refine st_reg rfl (by first | (simp only [go_sem, List.length_map, big, hrj, q2, n34, n39, m39]; rfl) | rfl) (by first | (simp only [go_sem, List.length_map, big, hrj, q2, n34, n39, m39]; rfl) | rfl) ?_ | refine st_op ?_ | refine st_det rfl (by simp (disch := omega) only [go_sem, wr_i64, if_yes, if_no, ↓reduceIte, Nat.reduceAdd, Nat.reduceMul, Nat.reduceEqDiff, Nat.reduceBEq, Nat.reduceLeDiff, List.length_map, big, hrj, q2, n34, n39, m39]; rfl) ?_ | refine st_heap rfl (by simp (disch := omega) only [go_sem, wr_i64, if_yes, if_no, ↓reduceIte, Nat.reduceAdd, Nat.reduceMul, Nat.reduceEqDiff, Nat.reduceBEq, Nat.reduceLeDiff, List.length_map, big, hrj, q2, n34, n39, m39]; rfl) ?_ | refine st_append (by simp (disch := omega) only [go_sem, wr_i64, if_yes, if_no, ↓reduceIte, Nat.reduceAdd, Nat.reduceMul, Nat.reduceEqDiff, Nat.reduceBEq, Nat.reduceLeDiff, List.length_map, big, hrj, q2, n34, n39, m39]; rfl) ?_ | refine st_condT rfl ?_ | refine st_condF rfl ?_ | (refine st_condS rfl ?_ ?_ <;> intro hg <;> (try simp only [decide_eq_true_eq, decide_eq_false_iff_not, Bool.not_eq_true', Bool.not_eq_false'] at hg)) | refine st_nil ?_ | refine st_tN ?_ | refine st_seq ?_ | refine st_block ?_ | refine st_skip ?_ | refine st_exit ?_ | refine st_ret ?_ | refine st_tE ?_ | refine st_tR ?_ | refine st_bN ?_ | refine st_bR ?_ | refine st_bH ?_ | refine st_bM rfl ?_)
      all_goals try (exfalso; omega)
      refine st_free ?_
      refine ASem.frzH (b := (c2 + 1, 39)) (b2 := (c2 + 1, 41)) (k := ⟨1, [.int .i64 ((a + k : Nat) : Int)] :: (lel R j).map iv⟩) (k2 := ⟨1, D.map rowA ++ [[.slc (c2 + 1, 39) 1 0 (1 + m)]]⟩) (by simp only [go_sem, p39, m39, ↓reduceIte]) (by simp only [go_sem, ↓reduceIte]; rw [List.take_of_length_le (by simp)]) p41 (fun _ => .inl rfl) (fun id cs' h => ⟨cs', h, .inl rfl⟩) ?_
      rw [frz_new hrj]
      refine st_run tab mixed (f2 := ⟨43, [], [13, 40], none, []⟩) rfl rfl (by decide) ?_
      repeat' (first | refine st_seq_reg rfl (by first | (simp only [go_sem]; rfl) | rfl) (by first | (simp only [go_sem]; rfl) | rfl) ?_ | refine st_reg rfl (by first | (simp only [go_sem]; rfl) | rfl) (by first | (simp only [go_sem]; rfl) | rfl) ?_ | refine st_op ?_ | refine st_det rfl (by simp (disch := omega) only [go_sem, wr_i64, if_yes, if_no, ↓reduceIte, Nat.reduceAdd, Nat.reduceMul, Nat.reduceEqDiff, Nat.reduceBEq, Nat.reduceLeDiff]; rfl) ?_ | refine st_heap rfl (by simp (disch := omega) only [go_sem, wr_i64, if_yes, if_no, ↓reduceIte, Nat.reduceAdd, Nat.reduceMul, Nat.reduceEqDiff, Nat.reduceBEq, Nat.reduceLeDiff]; rfl) ?_ | refine st_append (by simp (disch := omega) only [go_sem, wr_i64, if_yes, if_no, ↓reduceIte, Nat.reduceAdd, Nat.reduceMul, Nat.reduceEqDiff, Nat.reduceBEq, Nat.reduceLeDiff]; rfl) ?_ | refine st_condT rfl ?_ | refine st_condF rfl ?_ | (refine st_condS rfl ?_ ?_ <;> intro hg <;> (try simp only [decide_eq_true_eq, decide_eq_false_iff_not, Bool.not_eq_true', Bool.not_eq_false'] at hg)) | refine st_nil ?_ | refine st_tN ?_ | refine st_seq ?_ | refine st_block ?_ | refine st_skip ?_ | refine st_exit ?_ | refine st_ret ?_ | refine st_tE ?_ | refine st_tR ?_ | refine st_bN ?_ | refine st_bR ?_ | refine st_bH ?_ | refine st_bM rfl ?_)
      refine ⟨⟨j + 1, .slc (c2 + 1, 41) 1 0 (D.length + 1), _⟩, ⟨by show j + 1 ≤ R.length; omega, fun b' hb' => by simp only [go_sem, o39 b' hb', o41 b' hb', o34 b' hb', ob1 b' hb', ↓reduceIte]; exact j2 b' hb', by simp only [go_sem]; exact j3, by simp only [go_sem]; omega, .inr ⟨(c2 + 1, 41), by rw [htk]; simp, by rw [htk]; simp only [go_sem, ↓reduceIte], by show h.clk ≤ c2 + 1; omega, by simp only [go_sem]; omega⟩⟩, by show R.length - (j + 1) < R.length - j; omega, (by repeat' (first | exact trivial | refine And.intro ?_ ?_ | rfl | (simp (disch := omega) only [go_sem, if_yes, if_no, ↓reduceIte, Nat.reduceAdd, Nat.reduceMul, Nat.reduceEqDiff, Nat.reduceBEq, Nat.reduceLeDiff]; rfl) | (simp (disch := omega) only [go_sem, if_yes, if_no, ↓reduceIte, Nat.reduceAdd, Nat.reduceMul, Nat.reduceEqDiff, Nat.reduceBEq, Nat.reduceLeDiff]))), (by repeat' (first | exact trivial | refine And.intro ?_ ?_ | rfl | (simp (disch := omega) only [go_sem, if_yes, if_no, ↓reduceIte, Nat.reduceAdd, Nat.reduceMul, Nat.reduceEqDiff, Nat.reduceBEq, Nat.reduceLeDiff]; rfl) | (simp (disch := omega) only [go_sem, if_yes, if_no, ↓reduceIte, Nat.reduceAdd, Nat.reduceMul, Nat.reduceEqDiff, Nat.reduceBEq, Nat.reduceLeDiff]))), rfl, HOld.refl _⟩
end Go.Proofs.Ytbbkeakbomngoaa
