/- Contracts of functions that the claim reaches: what each call gives, told in our own logic. Conditions: those of each theorem. -/
import Derived.Test.YtkjpceapflhmnaaF30
set_option linter.all false
set_option linter.unusedSimpArgs false
set_option linter.unusedVariables false
namespace Go.Proofs.Ytkjpceapflhmnaa
open Go.Av
attribute [local irreducible] thenA blockA awp awpOps awpD awp1
set_option maxHeartbeats 8000000
set_option maxRecDepth 20000
theorem c28g (f : Fl) (n : Int) (r : List Hu) (p : Int) (hf : FlGood f n) (hn : n ≤ 20) (hl : r.length ≤ 40) (hr : ∀ x ∈ r, hurdleE x = 0) (hp : f.front ≤ p ∧ p ≤ f.rear) : Pure Try.prog 28 [f.av, .lst 3 (r.map Hu.row), .int .i64 p]
    (fun v => ∃ e lo hi : Int, v = .tup [.agg [.int .i64 lo, .int .i64 hi], .int .i64 e] ∧ 0 ≤ lo ∧ lo ≤ hi ∧ hi ≤ 100000 ∧ (e = 0 ∨ e = 7) ∧ ∀ m, 0 ≤ m → m ≤ 100000 → ((sP wL f p m ∧ goesB f p m r = true) ↔ (e = 0 ∧ lo ≤ m ∧ m ≤ hi))) := by
  intro h
  refine (c28 f r p h).mono ?_
  rintro v h' ⟨q0, q1⟩
  unfold balR at q1
  rw [if_neg (by rw [bothGood hf hn hl hr]; decide), if_neg (by omega)] at q1
  obtain ⟨a, b, ha, hb, rfl⟩ := q1
  have hL := bal_law hp ha hb
  obtain ⟨a1, a2, _, _⟩ := ha
  obtain ⟨b1, b2, _, _⟩ := hb
  refine ⟨q0, ?_⟩
  by_cases e : b ≤ a
  · refine ⟨7, 0, 0, by rw [if_pos e], by omega, by omega, by omega, .inr rfl, fun m h0 h1 => ?_⟩
    rw [hL m h0 h1]; omega
  · refine ⟨0, a, b - 1, by rw [if_neg e], by omega, by omega, by omega, .inl rfl, fun m h0 h1 => ?_⟩
    rw [hL m h0 h1]; omega
theorem c39w (f : Fl) (n p m : Int) (hf : FlGood f n) (hn : n ≤ 19) (hp : f.front ≤ p ∧ p ≤ f.rear) (hm : 0 ≤ m ∧ m ≤ 100000) : Pure Try.prog 39 [(withF f p m).av] (fun v => ∃ s : Int, v = .tup [.int .i64 s, .int .i64 0] ∧ (s = 1 ↔ sP wL f p m)) := by
  intro h
  refine (c39 (withF f p m) (chkWith hf hn hp hm) h).mono ?_
  rintro v h' ⟨q0, rfl⟩
  refine ⟨q0, _, rfl, ?_⟩
  rw [← sP_with]
  unfold sV
  split
  · simp [*]
  · split <;> simp [*]
theorem c26w (f : Fl) (n p m : Int) (r : List Hu) (hf : FlGood f n) (hn : n ≤ 19) (hp : f.front ≤ p ∧ p ≤ f.rear) (hm : 0 ≤ m ∧ m ≤ 100000) (hl : r.length ≤ 40) (hr : ∀ x ∈ r, hurdleE x = 0) :
    Pure Try.prog 26 [(withF f p m).av, .lst 3 (r.map Hu.row)] (fun v => ∃ k : Int, v = .tup [.int .i64 k, .int .i64 0] ∧ (k = -1 ↔ goesB f p m r = true)) := by
  have hb : bothE (withF f p m) r = 0 := by
    have h0 := bothGood hf (by omega) hl hr
    unfold bothE at h0 ⊢
    rw [chkWith hf hn hp hm, if_neg (by decide)]
    rw [chkGood hf (by omega), if_neg (by decide)] at h0
    exact h0
  have hh := hf.high
  have e : ∀ j, pV (withF f p m) 0 0 (hu r j) = pV f p m (hu r j) := fun j => pV_with p m _ hh.1
  intro h
  refine (c26 (withF f p m) r h).mono ?_
  rintro v h' ⟨q0, q1⟩
  unfold stopR at q1
  rw [if_neg (by omega)] at q1
  simp only [e] at q1
  obtain ⟨k, rfl, ⟨rfl, hk⟩ | ⟨j, hj, rfl, hk, hi⟩⟩ := q1
  · exact ⟨q0, -1, rfl, fun _ => goes_iff.2 hk, fun _ => rfl⟩
  · exact ⟨q0, j, rfl, fun h => absurd h (by omega), fun h => absurd (goes_iff.1 h j hj) hk⟩
theorem dec_ff {A : Prop} [Decidable A] (h : (decide A == false) = false) : A := by
  cases hA : decide A with
  | true => exact of_decide_eq_true hA
  | false => rw [hA] at h; cases h
theorem dec_tf {A : Prop} [Decidable A] (h : (false == decide A) = false) : A := by
  cases hA : decide A with
  | true => exact of_decide_eq_true hA
  | false => rw [hA] at h; cases h
theorem dec_ne {A B : Prop} [Decidable A] [Decidable B] (h : (decide A == decide B) = false) : ¬ (A ↔ B) := by
  intro e
  by_cases hA : A
  · have hB : B := e.1 hA
    simp only [hA, hB, decide_true] at h
    cases h
  · have hB : ¬ B := fun hb => hA (e.2 hb)
    simp only [hA, hB, decide_false] at h
    cases h
theorem law8 (l : List Int) (hl : (l.length : Int) ≤ 9223372036854775807) (h : AH) : ACalls Try.prog 8 [.lst 1 (l.map iv)] h (fun v _ => v = .bool true) := by
  refine ACalls.of tab mixed Try.call8 Try.func8 rfl (fi := ⟨110, [4, 7, 11], [59], none, [(3, [0, 0, 3, 0, 0, 16, 0, 64, 255, 511, 1023], [(0, false), (1, true), (3, false), (4, false), (5, true), (6, false), (7, true), (2, false), (8, false), (9, false), (10, false)]), (7, [0, 1, 0, 4, 0, 16, 0, 0, 195, 0, 512, 1536, 3584, 0, 8192, 24576, 57344, 131071, 262143], [(0, false), (2, false), (3, true), (4, false), (5, true), (6, false), (7, true), (9, false), (10, true), (11, false), (12, false), (13, false), (14, true), (15, false), (16, false), (1, false), (8, false), (17, false), (18, false)]), (11, [0, 0, 0, 0, 12, 28, 63, 0, 255], [(0, true), (1, false), (2, false), (3, false), (4, false), (5, true), (7, false), (6, false), (8, false)]), (14, [0, 1, 3, 7, 15, 31, 63, 127, 255, 511, 1023, 2047, 4095, 127, 8319, 25599, 58367, 58367, 58367, 451583, 975871, 2089983, 4187135, 8388607, 16777215], [(0, false), (1, false), (2, false), (3, false), (4, false), (5, false), (6, false), (7, false), (8, false), (9, false), (10, false), (11, false), (12, false), (13, false), (14, false), (15, false), (16, true), (17, false), (18, false), (19, false), (20, true), (21, false), (22, false), (23, false), (24, false)])]⟩) rfl rfl (Nat.le_of_ble_eq_true rfl) (by decide) ?_
  unfold startA
  repeat' (first
      | refine st_seq_reg rfl (by first | (simp only [go_sem]; rfl) | rfl) (by first | (simp only [go_sem]; rfl) | rfl) ?_
      | refine st_reg rfl (by first | (simp only [go_sem]; rfl) | rfl) (by first | (simp only [go_sem]; rfl) | rfl) ?_
      | refine st_seq_draw rfl (by first | (simp only [go_sem]; rfl) | rfl) (by first | (simp only [go_sem]; rfl) | rfl) ?_
      | refine st_draw rfl (by first | (simp only [go_sem]; rfl) | rfl) (by first | (simp only [go_sem]; rfl) | rfl) ?_
      | refine st_op ?_
      | refine st_det rfl (by simp (disch := omega) only [go_sem, wr_i64, if_yes, if_no, ↓reduceIte, Nat.reduceAdd, Nat.reduceMul, Nat.reduceEqDiff, Nat.reduceBEq, Nat.reduceLeDiff]; rfl) ?_
      | refine st_dop rfl ?_
      | refine st_loc rfl (by simp (disch := omega) only [go_sem, wr_i64, if_yes, if_no, ↓reduceIte, Nat.reduceAdd, Nat.reduceMul, Nat.reduceEqDiff, Nat.reduceBEq, Nat.reduceLeDiff]; rfl) ?_
      | refine st_heap rfl (by simp (disch := omega) only [go_sem, wr_i64, if_yes, if_no, ↓reduceIte, Nat.reduceAdd, Nat.reduceMul, Nat.reduceEqDiff, Nat.reduceBEq, Nat.reduceLeDiff]; rfl) ?_
      | refine st_store (by simp (disch := omega) only [go_sem, wr_i64, if_yes, if_no, ↓reduceIte, Nat.reduceAdd, Nat.reduceMul, Nat.reduceEqDiff, Nat.reduceBEq, Nat.reduceLeDiff]; rfl) ?_
      | refine st_append (by simp (disch := omega) only [go_sem, wr_i64, if_yes, if_no, ↓reduceIte, Nat.reduceAdd, Nat.reduceMul, Nat.reduceEqDiff, Nat.reduceBEq, Nat.reduceLeDiff]; rfl) ?_
      | (refine st_callf rfl rfl (c14 l hl _) ?_; rintro v h' ⟨b, x, n, rfl, hb1, hb2, hu0, rfl⟩)
      | (refine st_drum (by first | (simp (disch := omega) only [go_sem]; rfl) | rfl) rfl (c15 b 5 (by omega)) (by first | (simp (disch := omega) only [go_sem]; rfl) | rfl) (by assumption) (by first | (simp only [go_sem]; rfl) | rfl) (by intro x' n; simp (disch := omega) only [go_sem]; rfl) ?_; rintro v x' n hu' ⟨f, rfl, hf⟩ hn)
      | (refine st_drum (by first | (simp (disch := omega) only [go_sem]; rfl) | rfl) rfl (c22 b f 5 3 hf (by omega) (by omega)) (by first | (simp (disch := omega) only [go_sem]; rfl) | rfl) (by assumption) (by first | (simp only [go_sem]; rfl) | rfl) (by intro x' n; simp (disch := omega) only [go_sem]; rfl) ?_; rintro v x' n hu' ⟨r, rfl, hrl, hr⟩ hn)
      | (refine st_drum (by first | (simp (disch := omega) only [go_sem]; rfl) | rfl) rfl (c18' b f.front f.rear (by have := hf.axles; have := hf.len; omega) (by have := hf.axles; have := hf.len; omega)) (by first | (simp (disch := omega) only [go_sem]; rfl) | rfl) (by assumption) (by first | (simp only [go_sem]; rfl) | rfl) (by intro x' n; simp (disch := omega) only [go_sem]; rfl) ?_; rintro v x' n hu' ⟨p, rfl, hp⟩ hn)
      | (refine st_pure (by first | (simp (disch := omega) only [go_sem]; rfl) | rfl) rfl (c28g f 5 r p hf (by omega) (by omega) hr hp) (by first | (simp only [go_sem]; rfl) | rfl) (by intro n; simp (disch := omega) only [go_sem]; rfl) ?_; rintro v n ⟨e, lo, hi, rfl, e1, e2, e3, e4, e5⟩ hn)
      | (refine st_drum (by first | (simp (disch := omega) only [go_sem]; rfl) | rfl) rfl (c17' b 3000 (by omega)) (by first | (simp (disch := omega) only [go_sem]; rfl) | rfl) (by assumption) (by first | (simp only [go_sem]; rfl) | rfl) (by intro x' n; simp (disch := omega) only [go_sem]; rfl) ?_; rintro v x' n hu' ⟨q, rfl, hq⟩ hn)
      | (refine st_drum (by first | (simp (disch := omega) only [go_sem]; rfl) | rfl) rfl (c42 b lo hi (by omega) (by omega)) (by first | (simp (disch := omega) only [go_sem]; rfl) | rfl) (by assumption) (by first | (simp only [go_sem]; rfl) | rfl) (by intro x' n; simp (disch := omega) only [go_sem]; rfl) ?_; rintro v x' n hu' ⟨o, rfl, ho⟩ hn)
      | refine st_gT rfl rfl rfl ?_
      | refine st_gF rfl rfl rfl ?_
      | refine st_dgT rfl rfl rfl rfl ?_
      | refine st_dgF rfl rfl rfl ?_
      | (refine st_gS rfl rfl ?_ ?_ <;> intro hg <;> (try simp only [decide_eq_true_eq, decide_eq_false_iff_not, Bool.not_eq_true', Bool.not_eq_false'] at hg))
      | (refine st_dgS rfl rfl ?_ ?_ <;> intro hg <;> (try simp only [decide_eq_true_eq, decide_eq_false_iff_not, Bool.not_eq_true', Bool.not_eq_false'] at hg))
      | refine st_condT rfl ?_
      | refine st_condF rfl ?_
      | (refine st_condS rfl ?_ ?_ <;> intro hg <;> (try simp only [decide_eq_true_eq, decide_eq_false_iff_not, Bool.not_eq_true', Bool.not_eq_false'] at hg))
      | refine st_nil ?_
      | refine st_dnil ?_
      | refine st_tN ?_
      | refine st_seq ?_
      | refine st_block ?_
      | refine st_skip ?_
      | refine st_exit ?_
      | refine st_ret ?_
      | refine st_tE ?_
      | refine st_tR ?_
      | refine st_bN ?_
      | refine st_bR ?_
      | refine st_bH ?_
      | refine st_bM rfl ?_)
  all_goals try (exfalso; omega)
  all_goals
    have hk : ([[.int .i64 0], [.int .i64 q], [.int .i64 100000], [.int .i64 lo], [.int .i64 hi], [.int .i64 o], [.int .i64 (max 0 (lo - 1))], [.int .i64 (min 100000 (hi + 1))]] : List (List AV)) = ([0, q, 100000, lo, hi, o, max 0 (lo - 1), min 100000 (hi + 1)] : List Int).map iv := rfl
    rw [hk]
    have hks : ∀ z ∈ ([0, q, 100000, lo, hi, o, max 0 (lo - 1), min 100000 (hi + 1)] : List Int), 0 ≤ z ∧ z < 100001 := by
      intro z hz
      simp only [List.mem_cons, List.not_mem_nil, or_false] at hz
      omega
    clear hk
    have hkl : ([0, q, 100000, lo, hi, o, max 0 (lo - 1), min 100000 (hi + 1)] : List Int).length = 8 := rfl
    generalize ([0, q, 100000, lo, hi, o, max 0 (lo - 1), min 100000 (hi + 1)] : List Int) = ks at hks hkl ⊢
    have hks' : ∀ i, i < ks.length → 0 ≤ ks.getD i 0 ∧ ks.getD i 0 ≤ 100000 := fun i hi => by have := ord_get hks hi; omega
    have hrl' : r.length ≤ 40 := by omega
    have hfl : f.loads.length ≤ 1000 := by have := hf.many; omega
    refine st_loopC (α := Nat) tab mixed [] [] (by repeat (first | exact trivial | refine ⟨rfl, ?_⟩)) [4, 7] [_, _] (by repeat (first | exact trivial | refine ⟨rfl, ?_⟩)) (fun i => [(10, .int .i64 (i : Nat))]) [(4, _), (5, _), (6, _), (7, _), (8, _), (9, _)] (fun _ => []) [_, _] (fun i => i ≤ ks.length) (fun i => ks.length - i) (by decide) 0 (Nat.zero_le _) (by (try simp only [go_sem]); repeat' (first | exact trivial | refine And.intro ?_ ?_ | rfl | (simp (disch := omega) only [go_sem, if_yes, if_no, ↓reduceIte, Nat.reduceAdd, Nat.reduceMul, Nat.reduceEqDiff, Nat.reduceBEq, Nat.reduceLeDiff]; rfl) | (simp (disch := omega) only [go_sem, if_yes, if_no, ↓reduceIte, Nat.reduceAdd, Nat.reduceMul, Nat.reduceEqDiff, Nat.reduceBEq, Nat.reduceLeDiff]))) (by (try simp only [go_sem]); repeat' (first | exact trivial | refine And.intro ?_ ?_ | rfl | (simp (disch := omega) only [go_sem, if_yes, if_no, ↓reduceIte, Nat.reduceAdd, Nat.reduceMul, Nat.reduceEqDiff, Nat.reduceBEq, Nat.reduceLeDiff]; rfl) | (simp (disch := omega) only [go_sem, if_yes, if_no, ↓reduceIte, Nat.reduceAdd, Nat.reduceMul, Nat.reduceEqDiff, Nat.reduceBEq, Nat.reduceLeDiff]))) (by first | (simp only [go_sem]; rfl) | rfl) (by intro n; simp only [go_sem]; rfl) ?_
    intro i c i1 hc
    simp only [go_sem]
    repeat' (first
        | refine st_seq_reg rfl (by first | (simp only [go_sem, List.length_map]; rfl) | rfl) (by first | (simp only [go_sem, List.length_map]; rfl) | rfl) ?_
        | refine st_reg rfl (by first | (simp only [go_sem, List.length_map]; rfl) | rfl) (by first | (simp only [go_sem, List.length_map]; rfl) | rfl) ?_
        | refine st_seq_draw rfl (by first | (simp only [go_sem, List.length_map]; rfl) | rfl) (by first | (simp only [go_sem, List.length_map]; rfl) | rfl) ?_
        | refine st_draw rfl (by first | (simp only [go_sem, List.length_map]; rfl) | rfl) (by first | (simp only [go_sem, List.length_map]; rfl) | rfl) ?_
        | refine st_op ?_
        | refine st_det rfl (by simp (disch := omega) only [go_sem, wr_i64, if_yes, if_no, ↓reduceIte, Nat.reduceAdd, Nat.reduceMul, Nat.reduceEqDiff, Nat.reduceBEq, Nat.reduceLeDiff, List.length_map]; rfl) ?_
        | refine st_dop rfl ?_
        | refine st_loc rfl (by simp (disch := omega) only [go_sem, wr_i64, if_yes, if_no, ↓reduceIte, Nat.reduceAdd, Nat.reduceMul, Nat.reduceEqDiff, Nat.reduceBEq, Nat.reduceLeDiff, List.length_map]; rfl) ?_
        | refine st_heap rfl (by simp (disch := omega) only [go_sem, wr_i64, if_yes, if_no, ↓reduceIte, Nat.reduceAdd, Nat.reduceMul, Nat.reduceEqDiff, Nat.reduceBEq, Nat.reduceLeDiff, List.length_map]; rfl) ?_
        | refine st_store (by simp (disch := omega) only [go_sem, wr_i64, if_yes, if_no, ↓reduceIte, Nat.reduceAdd, Nat.reduceMul, Nat.reduceEqDiff, Nat.reduceBEq, Nat.reduceLeDiff, List.length_map]; rfl) ?_
        | refine st_append (by simp (disch := omega) only [go_sem, wr_i64, if_yes, if_no, ↓reduceIte, Nat.reduceAdd, Nat.reduceMul, Nat.reduceEqDiff, Nat.reduceBEq, Nat.reduceLeDiff, List.length_map]; rfl) ?_
        | (refine st_pureE (by first | (simp (disch := omega) only [go_sem, List.length_map]; rfl) | rfl) rfl (c44 f p (ks.getD i 0) hfl) (by first | (simp only [go_sem, List.length_map]; rfl) | rfl) (by intro n; simp (disch := omega) only [go_sem]; rfl) ?_; intro n hn)
        | (refine st_pure (by first | (simp (disch := omega) only [go_sem, List.length_map]; rfl) | rfl) rfl (c39w f 5 p (ks.getD i 0) hf (by omega) hp (hks' i (by omega))) (by first | (simp only [go_sem, List.length_map]; rfl) | rfl) (by intro n; simp (disch := omega) only [go_sem]; rfl) ?_; rintro v n ⟨s, rfl, hs⟩ hn)
        | (refine st_pure (by first | (simp (disch := omega) only [go_sem, List.length_map]; rfl) | rfl) rfl (c26w f 5 p (ks.getD i 0) r hf (by omega) hp (hks' i (by omega)) hrl' hr) (by first | (simp only [go_sem, List.length_map]; rfl) | rfl) (by intro n; simp (disch := omega) only [go_sem]; rfl) ?_; rintro v n ⟨k, rfl, hk⟩ hn)
        | (refine st_pureE (by first | (simp (disch := omega) only [go_sem, List.length_map]; rfl) | rfl) rfl (c45 lo hi (ks.getD i 0)) (by first | (simp only [go_sem, List.length_map]; rfl) | rfl) (by intro n; simp (disch := omega) only [go_sem]; rfl) ?_; intro n hn)
        | (refine st_pureE (by first | (simp (disch := omega) only [go_sem, List.length_map]; rfl) | rfl) rfl (c21) (by first | (simp only [go_sem, List.length_map]; rfl) | rfl) (by intro n; simp (disch := omega) only [go_sem]; rfl) ?_; intro n hn)
        | refine st_gT rfl rfl rfl ?_
        | refine st_gF rfl rfl rfl ?_
        | refine st_dgT rfl rfl rfl rfl ?_
        | refine st_dgF rfl rfl rfl ?_
        | (refine st_gS rfl rfl ?_ ?_ <;> intro hg <;> (try simp only [decide_eq_true_eq, decide_eq_false_iff_not, Bool.not_eq_true', Bool.not_eq_false'] at hg))
        | (refine st_dgS rfl rfl ?_ ?_ <;> intro hg <;> (try simp only [decide_eq_true_eq, decide_eq_false_iff_not, Bool.not_eq_true', Bool.not_eq_false'] at hg))
        | refine st_condT rfl ?_
        | refine st_condF rfl ?_
        | (refine st_condS rfl ?_ ?_ <;> intro hg <;> (try simp only [decide_eq_true_eq, decide_eq_false_iff_not, Bool.not_eq_true', Bool.not_eq_false'] at hg))
        | refine st_nil ?_
        | refine st_dnil ?_
        | refine st_tN ?_
        | refine st_seq ?_
        | refine st_block ?_
        | refine st_skip ?_
        | refine st_exit ?_
        | refine st_ret ?_
        | refine st_tE ?_
        | refine st_tR ?_
        | refine st_bN ?_
        | refine st_bR ?_
        | refine st_bH ?_
        | refine st_bM rfl ?_)
    all_goals try (exfalso; omega)
    all_goals try (exfalso; have hm := hks' i (by omega); have h5 := e5 _ hm.1 hm.2; rw [← hs, ← hk] at h5; omega)
    all_goals try (exfalso; have hm := hks' i (by omega); have h5 := e5 _ hm.1 hm.2; rw [← hs, ← hk] at h5; have hg2 := dec_ff hg; omega)
    all_goals try (exfalso; have hm := hks' i (by omega); have h5 := e5 _ hm.1 hm.2; rw [← hs, ← hk] at h5; have hg2 := dec_ne hg; omega)
    all_goals try (exfalso; have hm := hks' i (by omega); have h5 := e5 _ hm.1 hm.2; rw [← hs, ← hk] at h5; have hg2 := dec_tf hg; omega)
    any_goals
      refine ⟨i + 1, by show i + 1 ≤ ks.length; omega, by show ks.length - (i + 1) < ks.length - i; omega, (by repeat' (first | exact trivial | refine And.intro ?_ ?_ | rfl | (simp (disch := omega) only [go_sem, if_yes, if_no, ↓reduceIte, Nat.reduceAdd, Nat.reduceMul, Nat.reduceEqDiff, Nat.reduceBEq, Nat.reduceLeDiff]; rfl) | (simp (disch := omega) only [go_sem, if_yes, if_no, ↓reduceIte, Nat.reduceAdd, Nat.reduceMul, Nat.reduceEqDiff, Nat.reduceBEq, Nat.reduceLeDiff]))), (by repeat' (first | exact trivial | refine And.intro ?_ ?_ | rfl | (simp (disch := omega) only [go_sem, if_yes, if_no, ↓reduceIte, Nat.reduceAdd, Nat.reduceMul, Nat.reduceEqDiff, Nat.reduceBEq, Nat.reduceLeDiff]; rfl) | (simp (disch := omega) only [go_sem, if_yes, if_no, ↓reduceIte, Nat.reduceAdd, Nat.reduceMul, Nat.reduceEqDiff, Nat.reduceBEq, Nat.reduceLeDiff]))), rfl, HOld.put _ _ _ (by omega)⟩
    all_goals
      simp (disch := omega) only [AEnd, Try.results8, aresK, fin, go_sem, ↓reduceIte, Nat.reduceEqDiff, Nat.reduceAdd, Nat.reduceLeDiff, if_yes, if_no, implies_true, true_and, and_true, List.reverse_cons, List.reverse_nil]
end Go.Proofs.Ytkjpceapflhmnaa
