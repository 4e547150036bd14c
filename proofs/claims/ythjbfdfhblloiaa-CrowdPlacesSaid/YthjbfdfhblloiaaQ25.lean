/- Contracts of functions that the claim reaches: what each call gives, told in our own logic. Conditions: those of each theorem. -/
import Derived.Test.YthjbfdfhblloiaaQ13
import Derived.Test.YthjbfdfhblloiaaW2
set_option linter.all false
set_option linter.unusedSimpArgs false
set_option linter.unusedVariables false
namespace Go.Proofs.Ythjbfdfhblloiaa
open Go.Av
attribute [local irreducible] thenA blockA awp awpOps awpD awp1
set_option maxHeartbeats 8000000
set_option maxRecDepth 20000
def ldR (t : Tw) (s : Nat → Int) (step : Int) (i : Nat) : List (List AV) := (List.range i).map fun (q : Nat) => [.int .i64 (ldLo t s (q : Nat) step), .int .i64 (ldHi t s (q : Nat) step)]
theorem ldR_len (t : Tw) (s : Nat → Int) (step : Int) (i : Nat) : (ldR t s step i).length = i := by simp [ldR]
theorem ldR_next (t : Tw) (s : Nat → Int) (step : Int) (i : Nat) : ldR t s step (i + 1) = ldR t s step i ++ [[.int .i64 (ldLo t s (i : Nat) step), .int .i64 (ldHi t s (i : Nat) step)]] := by
  unfold ldR; rw [List.range_succ, List.map_append]; rfl
def ldsR (t : Tw) (c : List Int) (step : Int) : AV :=
  if cloE t c ≠ 0 then .tup [.lst 2 [], .int .i64 (cloE t c)] else if ¬ (0 ≤ step ∧ step ≤ t.steps) then .tup [.lst 2 [], .int .i64 2] else .tup [.lst 2 (ldR t (cls c) step t.rooms.length), .int .i64 0]
structure AlS where
  i : Nat
  v : AV
  g : AH
theorem cloOk {t : Tw} {c : List Int} (h : cloE t c = 0) : TwOk t ∧ ∀ i, i < c.length → 0 ≤ elt c i ∧ elt c i < t.sts.length := by
  unfold cloE at h
  by_cases h0 : chkE t = 0
  · rw [if_neg (fun e => e h0)] at h
    refine ⟨townOk h0, fun i hi => ?_⟩
    have := errN_zero h i hi
    unfold cloF at this
    by_cases c0 : 0 ≤ elt c i ∧ elt c i < t.sts.length
    · exact c0
    · rw [if_pos c0] at this; cases this
  · rw [if_pos h0] at h; exact absurd h h0
theorem le_nil2 (e : Int) (z : Nat) : VLe (.tup [.nils, .int .i64 e]) (.tup [.lst z [], .int .i64 e]) := VLe.tup (by simp only [VLes]; exact ⟨_, _, rfl, VLe.nils z, _, _, rfl, VLe.refl _, rfl⟩)
theorem c32 (t : Tw) (c : List Int) (step : Int) (hcl : c.length ≤ 1000000) : Pure Try.prog 32 [t.av, .lst 1 (c.map iv), .int .i64 step] (fun v => v = ldsR t c step) := by
  have k74 := c74 t c hcl
  have k68 := c68a 0 t.steps step
  refine Pure.give Try.call32 fun h hall => ?_
  refine ACalls.of tab mixed Try.call32 Try.func32 rfl (fi := ⟨40, [], [3, 20, 36], none, [(10, [0, 0, 2, 0, 0, 0, 62, 126, 255, 511], [(0, false), (1, false), (3, true), (4, false), (5, false), (2, false), (6, false), (7, false), (8, false), (9, false)])]⟩) rfl rfl (Nat.le_of_ble_eq_true rfl) (by decide) ?_
  unfold startA
  simp only [go_sem]
  by_cases h0 : cloE t c = 0
  case neg =>
    repeat' (first | refine st_seq_reg rfl (by first | (simp only [go_sem]; rfl) | rfl) (by first | (simp only [go_sem]; rfl) | rfl) ?_ | refine st_op ?_ | refine st_det rfl (by simp (disch := omega) only [go_sem, wr_i64, if_yes, if_no, ↓reduceIte, Nat.reduceAdd, Nat.reduceMul, Nat.reduceEqDiff, Nat.reduceBEq, Nat.reduceLeDiff]; rfl) ?_ | (refine st_pureE (by first | (simp (disch := omega) only [go_sem]; rfl) | rfl) rfl (k74) (by first | (simp only [go_sem]; rfl) | rfl) (by intro n; first | (simp (disch := omega) only [go_sem]; rfl) | rfl) ?_; intro n hn) | (refine st_condS rfl ?_ ?_ <;> intro hg <;> (try simp only [decide_eq_true_eq, decide_eq_false_iff_not, Bool.not_eq_true', Bool.not_eq_false'] at hg)) | refine st_nil ?_ | refine st_tN ?_ | refine st_seq ?_ | refine st_skip ?_ | refine st_ret ?_ | refine st_tR ?_)
    all_goals try (exfalso; omega)
    simp (disch := omega) only [AEnd, Try.results32, aresK, fin, go_sem, ↓reduceIte, Nat.reduceEqDiff, Nat.reduceAdd, Nat.reduceLeDiff, if_yes, if_no, implies_true, true_and, and_true, List.reverse_cons, List.reverse_nil]
    refine .inl ⟨_, le_nil2 _ 2, ?_⟩
    unfold ldsR; rw [if_pos h0]
  rw [h0] at k74
  obtain ⟨hT, hc⟩ := cloOk h0
  have hst := hT.steps
  have hrn := hT.rn
  have hsn := hT.sn
  have k83 := c83 c hcl (fun i hi => by have := hc i hi; omega)
  by_cases h1 : 0 ≤ step ∧ step ≤ t.steps
  case neg =>
    repeat' (first | refine st_seq_reg rfl (by first | (simp only [go_sem]; rfl) | rfl) (by first | (simp only [go_sem]; rfl) | rfl) ?_ | refine st_op ?_ | refine st_det rfl (by simp (disch := omega) only [go_sem, wr_i64, if_yes, if_no, ↓reduceIte, Nat.reduceAdd, Nat.reduceMul, Nat.reduceEqDiff, Nat.reduceBEq, Nat.reduceLeDiff]; rfl) ?_ | (refine st_pureE (by first | (simp (disch := omega) only [go_sem]; rfl) | rfl) rfl (k74) (by first | (simp only [go_sem]; rfl) | rfl) (by intro n; first | (simp (disch := omega) only [go_sem]; rfl) | rfl) ?_; intro n hn) | (refine st_pureE (by first | (simp (disch := omega) only [go_sem]; rfl) | rfl) rfl (k68) (by first | (simp only [go_sem]; rfl) | rfl) (by intro n; first | (simp (disch := omega) only [go_sem]; rfl) | rfl) ?_; intro n hn) | refine st_condF rfl ?_ | (refine st_condS rfl ?_ ?_ <;> intro hg <;> (try simp only [decide_eq_true_eq, decide_eq_false_iff_not, Bool.not_eq_true', Bool.not_eq_false'] at hg)) | refine st_nil ?_ | refine st_tN ?_ | refine st_seq ?_ | refine st_block ?_ | refine st_skip ?_ | refine st_ret ?_ | refine st_tR ?_)
    all_goals try (exfalso; omega)
    simp (disch := omega) only [AEnd, Try.results32, aresK, fin, go_sem, ↓reduceIte, Nat.reduceEqDiff, Nat.reduceAdd, Nat.reduceLeDiff, if_yes, if_no, implies_true, true_and, and_true, List.reverse_cons, List.reverse_nil]
    refine .inl ⟨_, le_nil2 _ 2, ?_⟩
    unfold ldsR; rw [if_neg (fun e => e h0), if_pos h1]
  have hE : ldsR t c step = .tup [.lst 2 (ldR t (cls c) step t.rooms.length), .int .i64 0] := by
    unfold ldsR; rw [if_neg (fun e => e h0), if_neg (fun e => e h1)]
  repeat' (first | refine st_seq_reg rfl (by first | (simp only [go_sem, List.length_map]; rfl) | rfl) (by first | (simp only [go_sem, List.length_map]; rfl) | rfl) ?_ | refine st_op ?_ | refine st_det rfl (by simp (disch := omega) only [go_sem, wr_i64, if_yes, if_no, ↓reduceIte, Nat.reduceAdd, Nat.reduceMul, Nat.reduceEqDiff, Nat.reduceBEq, Nat.reduceLeDiff, List.length_map]; rfl) ?_ | (refine st_pureE (by first | (simp (disch := omega) only [go_sem, List.length_map]; rfl) | rfl) rfl (k74) (by first | (simp only [go_sem, List.length_map]; rfl) | rfl) (by intro n; first | (simp (disch := omega) only [go_sem]; rfl) | rfl) ?_; intro n hn) | (refine st_pureE (by first | (simp (disch := omega) only [go_sem, List.length_map]; rfl) | rfl) rfl (k68) (by first | (simp only [go_sem, List.length_map]; rfl) | rfl) (by intro n; first | (simp (disch := omega) only [go_sem]; rfl) | rfl) ?_; intro n hn) | refine st_condF rfl ?_ | (refine st_condS rfl ?_ ?_ <;> intro hg <;> (try simp only [decide_eq_true_eq, decide_eq_false_iff_not, Bool.not_eq_true', Bool.not_eq_false'] at hg)) | refine st_nil ?_ | refine st_tN ?_ | refine st_seq ?_ | refine st_block ?_ | refine st_skip ?_ | refine st_ret ?_ | refine st_tR ?_)
  all_goals try (exfalso; omega)
  refine st_loopH (α := AlS) tab mixed [] [] (by repeat (first | exact trivial | refine ⟨rfl, ?_⟩)) [] [] (by repeat (first | exact trivial | refine ⟨rfl, ?_⟩)) (fun a => [(26, .int .i64 (a.i : Nat)), (9, a.v)]) [(1, _), (2, _), (3, _), (24, _), (25, _)] (fun _ => []) [] (fun a => a.g) (fun a => a.i ≤ t.rooms.length ∧ (∀ b' : Nat × Nat, b'.1 < h.clk → a.g.at_ b' = h.at_ b') ∧ a.g.lp = h.lp ∧ h.clk ≤ a.g.clk ∧ SlA h.clk a.g a.v 2 (ldR t (cls c) step a.i)) (fun a => t.rooms.length - a.i) (by decide) ⟨0, .nils, h⟩ ⟨Nat.zero_le _, fun _ _ => rfl, rfl, Nat.le_refl _, .inl ⟨rfl, rfl⟩⟩ (by (try simp only [go_sem]); repeat' (first | exact trivial | refine And.intro ?_ ?_ | rfl | (simp (disch := omega) only [go_sem, if_yes, if_no, ↓reduceIte, Nat.reduceAdd, Nat.reduceMul, Nat.reduceEqDiff, Nat.reduceBEq, Nat.reduceLeDiff]; rfl) | (simp (disch := omega) only [go_sem, if_yes, if_no, ↓reduceIte, Nat.reduceAdd, Nat.reduceMul, Nat.reduceEqDiff, Nat.reduceBEq, Nat.reduceLeDiff]))) (by (try simp only [go_sem]); repeat' (first | exact trivial | refine And.intro ?_ ?_ | rfl | (simp (disch := omega) only [go_sem, if_yes, if_no, ↓reduceIte, Nat.reduceAdd, Nat.reduceMul, Nat.reduceEqDiff, Nat.reduceBEq, Nat.reduceLeDiff]; rfl) | (simp (disch := omega) only [go_sem, if_yes, if_no, ↓reduceIte, Nat.reduceAdd, Nat.reduceMul, Nat.reduceEqDiff, Nat.reduceBEq, Nat.reduceLeDiff]))) (HOld.tick (by simp only [go_sem]; omega)) ?_
  rintro ⟨i, v, g⟩ d ⟨i1, i2, i3, i4, hS⟩ hd
  dsimp only at i1 i2 i3 i4 hS hd
  simp only [go_sem]
  by_cases hi : i < t.rooms.length
  case neg =>
    obtain rfl : i = t.rooms.length := by omega
    repeat' (first | refine st_seq_reg rfl (by first | (simp only [go_sem, List.length_map]; rfl) | rfl) (by first | (simp only [go_sem, List.length_map]; rfl) | rfl) ?_ | refine st_draw rfl (by first | (simp only [go_sem, List.length_map]; rfl) | rfl) (by first | (simp only [go_sem, List.length_map]; rfl) | rfl) ?_ | refine st_op ?_ | refine st_det rfl (by simp (disch := omega) only [go_sem, wr_i64, if_yes, if_no, ↓reduceIte, Nat.reduceAdd, Nat.reduceMul, Nat.reduceEqDiff, Nat.reduceBEq, Nat.reduceLeDiff, List.length_map]; rfl) ?_ | refine st_dop rfl ?_ | (refine st_condS rfl ?_ ?_ <;> intro hg <;> (try simp only [decide_eq_true_eq, decide_eq_false_iff_not, Bool.not_eq_true', Bool.not_eq_false'] at hg)) | refine st_nil ?_ | refine st_tN ?_ | refine st_seq ?_ | refine st_block ?_ | refine st_skip ?_ | refine st_exit ?_ | refine st_ret ?_ | refine st_tE ?_ | refine st_bH ?_)
    all_goals try (exfalso; omega)
    simp (disch := omega) only [AEnd, Try.results32, aresK, fin, go_sem, ↓reduceIte, Nat.reduceEqDiff, Nat.reduceAdd, Nat.reduceLeDiff, if_yes, if_no, implies_true, true_and, and_true, List.reverse_cons, List.reverse_nil]
    refine ⟨hS.noL, i2, i3, SlA.ans2 hS ?_⟩
    rw [hE]
  have k71 := c71 t (cls c) (i : Nat) step hT ⟨by omega, by omega⟩
  have hl := ldR_len t (cls c) step i
  have hnx := ldR_next t (cls c) step i
  repeat' (first | refine st_seq_reg rfl (by first | (simp only [go_sem, List.length_map, hl]; rfl) | rfl) (by first | (simp only [go_sem, List.length_map, hl]; rfl) | rfl) ?_ | refine st_reg rfl (by first | (simp only [go_sem, List.length_map, hl]; rfl) | rfl) (by first | (simp only [go_sem, List.length_map, hl]; rfl) | rfl) ?_ | refine st_draw rfl (by first | (simp only [go_sem, List.length_map, hl]; rfl) | rfl) (by first | (simp only [go_sem, List.length_map, hl]; rfl) | rfl) ?_ | refine st_op ?_ | refine st_det rfl (by simp (disch := omega) only [go_sem, wr_i64, if_yes, if_no, ↓reduceIte, Nat.reduceAdd, Nat.reduceMul, Nat.reduceEqDiff, Nat.reduceBEq, Nat.reduceLeDiff, List.length_map, hl]; rfl) ?_ | refine st_dop rfl ?_ | (refine st_pureE (by first | (simp (disch := omega) only [go_sem, List.length_map, hl]; rfl) | rfl) rfl (k83) (by first | (simp only [go_sem, List.length_map, hl]; rfl) | rfl) (by intro n; first | (simp (disch := omega) only [go_sem]; rfl) | rfl) ?_; intro n hn) | (refine st_pureE (by first | (simp (disch := omega) only [go_sem, List.length_map, hl]; rfl) | rfl) rfl (k71) (by first | (simp only [go_sem, List.length_map, hl]; rfl) | rfl) (by intro n; first | (simp (disch := omega) only [go_sem]; rfl) | rfl) ?_; intro n hn) | (refine st_appS (by intro h id x y; simp only [go_sem]; rfl) rfl (by simp only [go_sem, List.length_map, hl]; rfl) (by simp only [go_sem, List.length_map, hl]; rfl) (by decide) hS (fun _ _ _ => rfl) (by omega) (by simp only [List.length_map, List.length_cons, List.length_nil, big, List.length_map, hl]; omega) (by omega) (by omega) ?_; intro v' g' hA) | (refine st_condS rfl ?_ ?_ <;> intro hg <;> (try simp only [decide_eq_true_eq, decide_eq_false_iff_not, Bool.not_eq_true', Bool.not_eq_false'] at hg)) | refine st_nil ?_ | refine st_dnil ?_ | refine st_tN ?_ | refine st_seq ?_ | refine st_block ?_ | refine st_skip ?_ | refine st_exit ?_ | refine st_ret ?_ | refine st_tE ?_ | refine st_bN ?_ | refine st_bH ?_)
  all_goals try (exfalso; omega)
  refine ⟨⟨i + 1, v', _⟩, ⟨by show i + 1 ≤ t.rooms.length; omega, (by exact fun b' hb' => (hA.old b' hb').trans (i2 b' hb')), (by exact hA.lp.trans i3), (by simp only [go_sem]; omega), (by rw [hnx]; exact hA.sl.to (fun _ _ _ _ _ => rfl) (by simp only [go_sem]; omega))⟩, by show t.rooms.length - (i + 1) < t.rooms.length - i; omega, (by repeat' (first | exact trivial | refine And.intro ?_ ?_ | rfl | (simp (disch := omega) only [go_sem, if_yes, if_no, ↓reduceIte, Nat.reduceAdd, Nat.reduceMul, Nat.reduceEqDiff, Nat.reduceBEq, Nat.reduceLeDiff]; rfl) | (simp (disch := omega) only [go_sem, if_yes, if_no, ↓reduceIte, Nat.reduceAdd, Nat.reduceMul, Nat.reduceEqDiff, Nat.reduceBEq, Nat.reduceLeDiff]))), (by repeat' (first | exact trivial | refine And.intro ?_ ?_ | rfl | (simp (disch := omega) only [go_sem, if_yes, if_no, ↓reduceIte, Nat.reduceAdd, Nat.reduceMul, Nat.reduceEqDiff, Nat.reduceBEq, Nat.reduceLeDiff]; rfl) | (simp (disch := omega) only [go_sem, if_yes, if_no, ↓reduceIte, Nat.reduceAdd, Nat.reduceMul, Nat.reduceEqDiff, Nat.reduceBEq, Nat.reduceLeDiff]))), rfl, HOld.refl _⟩
def idxL (l : List Int) (n : Int) : Int := match (List.range l.length).find? fun i => decide (n = elt l i) with
  | some i => ((i : Nat) : Int)
  | none => -1
theorem idxL_has (l : List Int) (n : Int) : decide (0 ≤ idxL l n) = l.contains n := by
  unfold idxL
  cases h : (List.range l.length).find? fun i => decide (n = elt l i) with
  | some i =>
    have h1 := List.find?_some h
    have h2 := List.mem_range.1 (List.mem_of_find?_eq_some h)
    have h3 : n = elt l i := by simpa using h1
    have : n ∈ l := by rw [h3]; exact elt_mem h2
    rw [decide_eq_true (by dsimp only; omega), (List.contains_iff_mem).2 this]
  | none =>
    rw [List.find?_eq_none] at h
    have : ¬ n ∈ l := fun hm => by
      obtain ⟨i, hi, e⟩ := List.mem_iff_getElem.1 hm
      refine h i (List.mem_range.2 hi) ?_
      rw [decide_eq_true_eq]
      unfold elt
      rw [List.getD_eq_getElem?_getD, List.getElem?_eq_getElem hi, ← e]; rfl
    have h2 : l.contains n = false := by
      cases hc : l.contains n with
      | false => rfl
      | true => exact absurd ((List.contains_iff_mem).1 hc) this
    rw [h2]; rfl
theorem all_stepP {p : Nat → Prop} {i : Nat} (h : ∀ j, j < i → p j) (hi : p i) : ∀ j, j < i + 1 → p j := fun j hj => by
  by_cases e : j = i
  · rw [e]; exact hi
  · exact h j (by omega)
theorem c103 (l : List Int) (n : Int) (hl : l.length ≤ 1000000) : Pure Try.prog 103 [.lst 1 (l.map iv), .int .i64 n] (fun v => v = .int .i64 (idxL l n)) := by
  intro h
  refine ACalls.forget (ACalls.of tab mixed Try.call103 Try.func103 rfl (fi := ⟨19, [], [], none, []⟩) rfl rfl (Nat.le_of_ble_eq_true rfl) (by decide) ?_)
  unfold startA
  repeat' (first | refine st_seq_reg rfl (by first | (simp only [go_sem, List.length_map]; rfl) | rfl) (by first | (simp only [go_sem, List.length_map]; rfl) | rfl) ?_ | refine st_op ?_ | refine st_det rfl (by simp (disch := omega) only [go_sem, wr_i64, if_yes, if_no, ↓reduceIte, Nat.reduceAdd, Nat.reduceMul, Nat.reduceEqDiff, Nat.reduceBEq, Nat.reduceLeDiff, List.length_map]; rfl) ?_ | refine st_nil ?_ | refine st_seq ?_ | refine st_block ?_)
  refine st_loopC (α := Nat) tab mixed [] [] (by repeat (first | exact trivial | refine ⟨rfl, ?_⟩)) [] [] (by repeat (first | exact trivial | refine ⟨rfl, ?_⟩)) (fun i => [(8, .int .i64 (i : Nat))]) [(0, _), (1, _), (7, _)] (fun _ => []) [] (fun i => i ≤ l.length ∧ ∀ j, j < i → ¬ n = elt l j) (fun i => l.length - i) (by decide) 0 ⟨Nat.zero_le _, fun j hj => absurd hj (Nat.not_lt_zero _)⟩ (by (try simp only [go_sem]); repeat' (first | exact trivial | refine And.intro ?_ ?_ | rfl | (simp (disch := omega) only [go_sem, if_yes, if_no, ↓reduceIte, Nat.reduceAdd, Nat.reduceMul, Nat.reduceEqDiff, Nat.reduceBEq, Nat.reduceLeDiff]; rfl) | (simp (disch := omega) only [go_sem, if_yes, if_no, ↓reduceIte, Nat.reduceAdd, Nat.reduceMul, Nat.reduceEqDiff, Nat.reduceBEq, Nat.reduceLeDiff]))) (by (try simp only [go_sem]); repeat' (first | exact trivial | refine And.intro ?_ ?_ | rfl | (simp (disch := omega) only [go_sem, if_yes, if_no, ↓reduceIte, Nat.reduceAdd, Nat.reduceMul, Nat.reduceEqDiff, Nat.reduceBEq, Nat.reduceLeDiff]; rfl) | (simp (disch := omega) only [go_sem, if_yes, if_no, ↓reduceIte, Nat.reduceAdd, Nat.reduceMul, Nat.reduceEqDiff, Nat.reduceBEq, Nat.reduceLeDiff]))) (by first | (simp only [go_sem]; rfl) | rfl) (by intro n; simp only [go_sem]; rfl) ?_
  rintro i c ⟨i1, i2⟩ hc
  simp only [go_sem]
  by_cases hi : i < l.length
  case pos =>
    repeat' (first | refine st_seq_reg rfl (by first | (simp only [go_sem, List.length_map, Nat.zero_add]; rfl) | rfl) (by first | (simp only [go_sem, List.length_map, Nat.zero_add]; rfl) | rfl) ?_ | refine st_reg rfl (by first | (simp only [go_sem, List.length_map, Nat.zero_add]; rfl) | rfl) (by first | (simp only [go_sem, List.length_map, Nat.zero_add]; rfl) | rfl) ?_ | refine st_op ?_ | refine st_det rfl (by simp (disch := omega) only [go_sem, wr_i64, if_yes, if_no, ↓reduceIte, Nat.reduceAdd, Nat.reduceMul, Nat.reduceEqDiff, Nat.reduceBEq, Nat.reduceLeDiff, List.length_map, Nat.zero_add]; rfl) ?_ | (refine st_condS rfl ?_ ?_ <;> intro hg <;> (try simp only [decide_eq_true_eq, decide_eq_false_iff_not, Bool.not_eq_true', Bool.not_eq_false'] at hg)) | refine st_nil ?_ | refine st_tN ?_ | refine st_seq ?_ | refine st_block ?_ | refine st_skip ?_ | refine st_exit ?_ | refine st_ret ?_ | refine st_tE ?_ | refine st_tR ?_ | refine st_bN ?_ | refine st_bR ?_ | refine st_bH ?_)
    all_goals try (exfalso; omega)
    · simp (disch := omega) only [AEnd, Try.results103, aresK, fin, go_sem, ↓reduceIte, Nat.reduceEqDiff, Nat.reduceAdd, Nat.reduceLeDiff, if_yes, if_no, implies_true, true_and, and_true, List.reverse_cons, List.reverse_nil]
      have e : (List.range l.length).find? (fun i => decide (n = elt l i)) = some i := by
        refine List.find?_eq_some_iff_getElem.2 ⟨by simp; assumption, i, by simpa using hi, List.getElem_range _, fun j hj => ?_⟩
        rw [List.getElem_range]; simpa using i2 j hj
      unfold idxL; rw [e]
    · refine ⟨i + 1, ⟨by show i + 1 ≤ _; omega, all_stepP i2 (by assumption)⟩, by show l.length - (i + 1) < l.length - i; omega, (by repeat' (first | exact trivial | refine And.intro ?_ ?_ | rfl | (simp (disch := omega) only [go_sem, if_yes, if_no, ↓reduceIte, Nat.reduceAdd, Nat.reduceMul, Nat.reduceEqDiff, Nat.reduceBEq, Nat.reduceLeDiff]; rfl) | (simp (disch := omega) only [go_sem, if_yes, if_no, ↓reduceIte, Nat.reduceAdd, Nat.reduceMul, Nat.reduceEqDiff, Nat.reduceBEq, Nat.reduceLeDiff]))), (by repeat' (first | exact trivial | refine And.intro ?_ ?_ | rfl | (simp (disch := omega) only [go_sem, if_yes, if_no, ↓reduceIte, Nat.reduceAdd, Nat.reduceMul, Nat.reduceEqDiff, Nat.reduceBEq, Nat.reduceLeDiff]; rfl) | (simp (disch := omega) only [go_sem, if_yes, if_no, ↓reduceIte, Nat.reduceAdd, Nat.reduceMul, Nat.reduceEqDiff, Nat.reduceBEq, Nat.reduceLeDiff]))), rfl, (by first | exact HOld.of _ (by omega) | exact HOld.put _ _ _ (by omega))⟩
  obtain rfl : i = l.length := by omega
  repeat' (first | refine st_seq_reg rfl (by first | (simp only [go_sem, List.length_map]; rfl) | rfl) (by first | (simp only [go_sem, List.length_map]; rfl) | rfl) ?_ | refine st_reg rfl (by first | (simp only [go_sem, List.length_map]; rfl) | rfl) (by first | (simp only [go_sem, List.length_map]; rfl) | rfl) ?_ | refine st_op ?_ | refine st_det rfl (by simp (disch := omega) only [go_sem, wr_i64, if_yes, if_no, ↓reduceIte, Nat.reduceAdd, Nat.reduceMul, Nat.reduceEqDiff, Nat.reduceBEq, Nat.reduceLeDiff, List.length_map]; rfl) ?_ | (refine st_condS rfl ?_ ?_ <;> intro hg <;> (try simp only [decide_eq_true_eq, decide_eq_false_iff_not, Bool.not_eq_true', Bool.not_eq_false'] at hg)) | refine st_nil ?_ | refine st_tN ?_ | refine st_seq ?_ | refine st_block ?_ | refine st_skip ?_ | refine st_exit ?_ | refine st_ret ?_ | refine st_tE ?_ | refine st_tR ?_ | refine st_bN ?_ | refine st_bR ?_ | refine st_bH ?_)
  all_goals try (exfalso; omega)
  simp (disch := omega) only [AEnd, Try.results103, aresK, fin, go_sem, ↓reduceIte, Nat.reduceEqDiff, Nat.reduceAdd, Nat.reduceLeDiff, if_yes, if_no, implies_true, true_and, and_true, List.reverse_cons, List.reverse_nil]
  have e : (List.range l.length).find? (fun i => decide (n = elt l i)) = none := by
    rw [List.find?_eq_none]
    intro j hj
    simpa using i2 j (List.mem_range.1 hj)
  unfold idxL; rw [e]
theorem c77 (l : List Int) (n : Int) (hl : l.length ≤ 1000000) : Pure Try.prog 77 [.lst 1 (l.map iv), .int .i64 n] (fun v => v = .bool (l.contains n)) := by
  have k := c103 l n hl
  intro h
  refine ACalls.forget (ACalls.of tab mixed Try.call77 Try.func77 rfl (fi := ⟨9, [], [], none, []⟩) rfl rfl (Nat.le_of_ble_eq_true rfl) (by decide) ?_)
  unfold startA
  repeat' (first | refine st_seq_reg rfl (by first | (simp only [go_sem]; rfl) | rfl) (by first | (simp only [go_sem]; rfl) | rfl) ?_ | refine st_op ?_ | refine st_det rfl (by simp (disch := omega) only [go_sem, wr_i64, if_yes, if_no, ↓reduceIte, Nat.reduceAdd, Nat.reduceMul, Nat.reduceEqDiff, Nat.reduceBEq, Nat.reduceLeDiff]; rfl) ?_ | (refine st_pureE (by first | (simp (disch := omega) only [go_sem]; rfl) | rfl) rfl (k) (by first | (simp only [go_sem]; rfl) | rfl) (by intro n; first | (simp (disch := omega) only [go_sem]; rfl) | rfl) ?_; intro n hn) | refine st_nil ?_ | refine st_ret ?_)
  simp (disch := omega) only [AEnd, Try.results77, aresK, fin, go_sem, ↓reduceIte, Nat.reduceEqDiff, Nat.reduceAdd, Nat.reduceLeDiff, if_yes, if_no, implies_true, true_and, and_true, List.reverse_cons, List.reverse_nil]
  rw [idxL_has]
theorem c75 (t : Tw) (c : List Int) (sq : Int) (F : Nat) (cap : List AV) (hT : TwOk t) (hcl : c.length ≤ 1000000) (hcap : cap.all noL = true) (I : Nat → AH → Prop) (hI : ∀ i g n, I i g → g.clk ≤ n → I i (g.tick n))
    (hno : ∀ i g, i < t.sts.length → ¬ (0 ≤ oth (sx t.sts i) sq ∧ clB c i = false) → I i g → I (i + 1) g)
    (hyes : ∀ i g, i < t.sts.length → 0 ≤ oth (sx t.sts i) sq → clB c i = false → I i g → ACalls Try.prog F ([] ++ [.int .i64 (oth (sx t.sts i) sq)] ++ cap) g (fun _ h' => I (i + 1) h')) (h : AH) (h0 : I 0 h) :
    ACalls Try.prog 75 [.int .i64 sq, .fn (.func F) [] cap, .iptr t.cells 0, .iptr [.lst 1 (c.map iv)] 0] h (fun _ h' => I t.sts.length h') := by
  have hsn := hT.sn
  refine ACalls.of tab mixed Try.call75 Try.func75 rfl (fi := ⟨32, [7], [], none, []⟩) rfl rfl (Nat.le_of_ble_eq_true rfl) (by decide) ?_
  unfold startA
  unfold Tw.cells
  repeat' (first | refine st_seq_reg rfl (by first | (simp only [go_sem, List.length_map]; rfl) | rfl) (by first | (simp only [go_sem, List.length_map]; rfl) | rfl) ?_ | refine st_op ?_ | refine st_det rfl (by simp (disch := omega) only [go_sem, wr_i64, if_yes, if_no, ↓reduceIte, Nat.reduceAdd, Nat.reduceMul, Nat.reduceEqDiff, Nat.reduceBEq, Nat.reduceLeDiff, List.length_map]; rfl) ?_ | refine st_nil ?_ | refine st_block ?_)
  refine st_loopH (α := Nat × AH) tab mixed [] [] (by repeat (first | exact trivial | refine ⟨rfl, ?_⟩)) [] [] (by repeat (first | exact trivial | refine ⟨rfl, ?_⟩)) (fun a => [(12, .int .i64 (a.1 : Nat))]) [(0, _), (1, _), (3, _), (10, _), (11, _)] (fun _ => []) [] (fun a => a.2) (fun a => a.1 ≤ t.sts.length ∧ I a.1 a.2) (fun a => t.sts.length - a.1) (by decide) (0, h) ⟨Nat.zero_le _, h0⟩ (by (try simp only [go_sem]); repeat' (first | exact trivial | refine And.intro ?_ ?_ | rfl | (simp (disch := omega) only [go_sem, if_yes, if_no, ↓reduceIte, Nat.reduceAdd, Nat.reduceMul, Nat.reduceEqDiff, Nat.reduceBEq, Nat.reduceLeDiff]; rfl) | (simp (disch := omega) only [go_sem, if_yes, if_no, ↓reduceIte, Nat.reduceAdd, Nat.reduceMul, Nat.reduceEqDiff, Nat.reduceBEq, Nat.reduceLeDiff]))) (by (try simp only [go_sem]); repeat' (first | exact trivial | refine And.intro ?_ ?_ | rfl | (simp (disch := omega) only [go_sem, if_yes, if_no, ↓reduceIte, Nat.reduceAdd, Nat.reduceMul, Nat.reduceEqDiff, Nat.reduceBEq, Nat.reduceLeDiff]; rfl) | (simp (disch := omega) only [go_sem, if_yes, if_no, ↓reduceIte, Nat.reduceAdd, Nat.reduceMul, Nat.reduceEqDiff, Nat.reduceBEq, Nat.reduceLeDiff]))) (HOld.tick (by simp only [go_sem]; omega)) ?_
  rintro ⟨i, g⟩ d ⟨i1, i2⟩ hd
  dsimp only at i1 i2 hd
  simp only [go_sem]
  by_cases hi : i < t.sts.length
  case neg =>
    obtain rfl : i = t.sts.length := by omega
    repeat' (first | refine st_seq_reg rfl (by first | (simp only [go_sem, List.length_map]; rfl) | rfl) (by first | (simp only [go_sem, List.length_map]; rfl) | rfl) ?_ | refine st_op ?_ | refine st_det rfl (by simp (disch := omega) only [go_sem, wr_i64, if_yes, if_no, ↓reduceIte, Nat.reduceAdd, Nat.reduceMul, Nat.reduceEqDiff, Nat.reduceBEq, Nat.reduceLeDiff, List.length_map]; rfl) ?_ | refine st_loc rfl (by simp (disch := omega) only [go_sem, wr_i64, if_yes, if_no, ↓reduceIte, Nat.reduceAdd, Nat.reduceMul, Nat.reduceEqDiff, Nat.reduceBEq, Nat.reduceLeDiff, List.length_map]; rfl) ?_ | refine st_store (by simp (disch := omega) only [go_sem, wr_i64, if_yes, if_no, ↓reduceIte, Nat.reduceAdd, Nat.reduceMul, Nat.reduceEqDiff, Nat.reduceBEq, Nat.reduceLeDiff, List.length_map]; rfl) ?_ | (refine st_condS rfl ?_ ?_ <;> intro hg <;> (try simp only [decide_eq_true_eq, decide_eq_false_iff_not, Bool.not_eq_true', Bool.not_eq_false'] at hg)) | refine st_nil ?_ | refine st_tN ?_ | refine st_seq ?_ | refine st_block ?_ | refine st_skip ?_ | refine st_exit ?_ | refine st_tE ?_ | refine st_bH ?_)
    all_goals try (exfalso; omega)
    simp (disch := omega) only [AEnd, Try.results75, aresK, fin, go_sem, ↓reduceIte, Nat.reduceEqDiff, Nat.reduceAdd, Nat.reduceLeDiff, if_yes, if_no, implies_true, true_and, and_true, List.reverse_cons, List.reverse_nil]
    exact hI _ _ _ i2 (by omega)
  have k76 := c76 (sx t.sts i) sq
  have k77 := c77 c (i : Nat) hcl
  have ecl : c.contains ((i : Nat) : Int) = clB c i := rfl
  rw [ecl] at k77
  by_cases ho : 0 ≤ oth (sx t.sts i) sq
  case neg =>
    have hnn := hno i g hi (fun e => ho e.1) i2
    repeat' (first | refine st_seq_reg rfl (by first | (simp only [go_sem, List.length_map]; rfl) | rfl) (by first | (simp only [go_sem, List.length_map]; rfl) | rfl) ?_ | refine st_reg rfl (by first | (simp only [go_sem, List.length_map]; rfl) | rfl) (by first | (simp only [go_sem, List.length_map]; rfl) | rfl) ?_ | refine st_op ?_ | refine st_det rfl (by simp (disch := omega) only [go_sem, wr_i64, if_yes, if_no, ↓reduceIte, Nat.reduceAdd, Nat.reduceMul, Nat.reduceEqDiff, Nat.reduceBEq, Nat.reduceLeDiff, List.length_map]; rfl) ?_ | refine st_loc rfl (by simp (disch := omega) only [go_sem, wr_i64, if_yes, if_no, ↓reduceIte, Nat.reduceAdd, Nat.reduceMul, Nat.reduceEqDiff, Nat.reduceBEq, Nat.reduceLeDiff, List.length_map]; rfl) ?_ | refine st_store (by simp (disch := omega) only [go_sem, wr_i64, if_yes, if_no, ↓reduceIte, Nat.reduceAdd, Nat.reduceMul, Nat.reduceEqDiff, Nat.reduceBEq, Nat.reduceLeDiff, List.length_map]; rfl) ?_ | (refine st_pureE (by first | (simp (disch := omega) only [go_sem, List.length_map]; rfl) | rfl) rfl (k76) (by first | (simp only [go_sem, List.length_map]; rfl) | rfl) (by intro n; first | (simp (disch := omega) only [go_sem]; rfl) | rfl) ?_; intro n hn) | refine st_gT rfl rfl rfl ?_ | refine st_gF rfl rfl rfl ?_ | (refine st_gS rfl rfl ?_ ?_ <;> intro hg <;> (try simp only [decide_eq_true_eq, decide_eq_false_iff_not, Bool.not_eq_true', Bool.not_eq_false'] at hg)) | refine st_condF rfl ?_ | (refine st_condS rfl ?_ ?_ <;> intro hg <;> (try simp only [decide_eq_true_eq, decide_eq_false_iff_not, Bool.not_eq_true', Bool.not_eq_false'] at hg)) | refine st_nil ?_ | refine st_tN ?_ | refine st_seq ?_ | refine st_block ?_ | refine st_skip ?_ | refine st_exit ?_ | refine st_tE ?_ | refine st_bN ?_ | refine st_bH ?_)
    all_goals try (exfalso; omega)
    refine ⟨(i + 1, g), ⟨by show i + 1 ≤ _; omega, hnn⟩, by show t.sts.length - (i + 1) < t.sts.length - i; omega, (by repeat' (first | exact trivial | refine And.intro ?_ ?_ | rfl | (simp (disch := omega) only [go_sem, if_yes, if_no, ↓reduceIte, Nat.reduceAdd, Nat.reduceMul, Nat.reduceEqDiff, Nat.reduceBEq, Nat.reduceLeDiff]; rfl) | (simp (disch := omega) only [go_sem, if_yes, if_no, ↓reduceIte, Nat.reduceAdd, Nat.reduceMul, Nat.reduceEqDiff, Nat.reduceBEq, Nat.reduceLeDiff]))), (by repeat' (first | exact trivial | refine And.intro ?_ ?_ | rfl | (simp (disch := omega) only [go_sem, if_yes, if_no, ↓reduceIte, Nat.reduceAdd, Nat.reduceMul, Nat.reduceEqDiff, Nat.reduceBEq, Nat.reduceLeDiff]; rfl) | (simp (disch := omega) only [go_sem, if_yes, if_no, ↓reduceIte, Nat.reduceAdd, Nat.reduceMul, Nat.reduceEqDiff, Nat.reduceBEq, Nat.reduceLeDiff]))), rfl, HOld.tick (by simp only [go_sem]; omega)⟩
  cases hb : clB c i with
  | true =>
    rw [hb] at k77
    have hnn := hno i g hi (fun e => by rw [hb] at e; exact absurd e.2 (by decide)) i2
    repeat' (first | refine st_seq_reg rfl (by first | (simp only [go_sem, List.length_map]; rfl) | rfl) (by first | (simp only [go_sem, List.length_map]; rfl) | rfl) ?_ | refine st_reg rfl (by first | (simp only [go_sem, List.length_map]; rfl) | rfl) (by first | (simp only [go_sem, List.length_map]; rfl) | rfl) ?_ | refine st_op ?_ | refine st_det rfl (by simp (disch := omega) only [go_sem, wr_i64, if_yes, if_no, ↓reduceIte, Nat.reduceAdd, Nat.reduceMul, Nat.reduceEqDiff, Nat.reduceBEq, Nat.reduceLeDiff, List.length_map]; rfl) ?_ | refine st_loc rfl (by simp (disch := omega) only [go_sem, wr_i64, if_yes, if_no, ↓reduceIte, Nat.reduceAdd, Nat.reduceMul, Nat.reduceEqDiff, Nat.reduceBEq, Nat.reduceLeDiff, List.length_map]; rfl) ?_ | refine st_store (by simp (disch := omega) only [go_sem, wr_i64, if_yes, if_no, ↓reduceIte, Nat.reduceAdd, Nat.reduceMul, Nat.reduceEqDiff, Nat.reduceBEq, Nat.reduceLeDiff, List.length_map]; rfl) ?_ | (refine st_pureE (by first | (simp (disch := omega) only [go_sem, List.length_map]; rfl) | rfl) rfl (k76) (by first | (simp only [go_sem, List.length_map]; rfl) | rfl) (by intro n; first | (simp (disch := omega) only [go_sem]; rfl) | rfl) ?_; intro n hn) | (refine st_pureE (by first | (simp (disch := omega) only [go_sem, List.length_map]; rfl) | rfl) rfl (k77) (by first | (simp only [go_sem, List.length_map]; rfl) | rfl) (by intro n; first | (simp (disch := omega) only [go_sem]; rfl) | rfl) ?_; intro n hn) | refine st_gT rfl rfl rfl ?_ | refine st_gF rfl rfl rfl ?_ | (refine st_gS rfl rfl ?_ ?_ <;> intro hg <;> (try simp only [decide_eq_true_eq, decide_eq_false_iff_not, Bool.not_eq_true', Bool.not_eq_false'] at hg)) | refine st_condF rfl ?_ | (refine st_condS rfl ?_ ?_ <;> intro hg <;> (try simp only [decide_eq_true_eq, decide_eq_false_iff_not, Bool.not_eq_true', Bool.not_eq_false'] at hg)) | refine st_nil ?_ | refine st_tN ?_ | refine st_seq ?_ | refine st_block ?_ | refine st_skip ?_ | refine st_exit ?_ | refine st_tE ?_ | refine st_bN ?_ | refine st_bH ?_)
    all_goals try (exfalso; omega)
    refine ⟨(i + 1, g), ⟨by show i + 1 ≤ _; omega, hnn⟩, by show t.sts.length - (i + 1) < t.sts.length - i; omega, (by repeat' (first | exact trivial | refine And.intro ?_ ?_ | rfl | (simp (disch := omega) only [go_sem, if_yes, if_no, ↓reduceIte, Nat.reduceAdd, Nat.reduceMul, Nat.reduceEqDiff, Nat.reduceBEq, Nat.reduceLeDiff]; rfl) | (simp (disch := omega) only [go_sem, if_yes, if_no, ↓reduceIte, Nat.reduceAdd, Nat.reduceMul, Nat.reduceEqDiff, Nat.reduceBEq, Nat.reduceLeDiff]))), (by repeat' (first | exact trivial | refine And.intro ?_ ?_ | rfl | (simp (disch := omega) only [go_sem, if_yes, if_no, ↓reduceIte, Nat.reduceAdd, Nat.reduceMul, Nat.reduceEqDiff, Nat.reduceBEq, Nat.reduceLeDiff]; rfl) | (simp (disch := omega) only [go_sem, if_yes, if_no, ↓reduceIte, Nat.reduceAdd, Nat.reduceMul, Nat.reduceEqDiff, Nat.reduceBEq, Nat.reduceLeDiff]))), rfl, HOld.tick (by simp only [go_sem]; omega)⟩
  | false =>
    rw [hb] at k77
    have hy : ∀ n, g.clk ≤ n → _ := fun n hn => hyes i (g.tick n) hi ho hb (hI _ _ _ i2 hn)
    repeat' (first | refine st_seq_reg rfl (by first | (simp only [go_sem, List.length_map]; rfl) | rfl) (by first | (simp only [go_sem, List.length_map]; rfl) | rfl) ?_ | refine st_reg rfl (by first | (simp only [go_sem, List.length_map]; rfl) | rfl) (by first | (simp only [go_sem, List.length_map]; rfl) | rfl) ?_ | refine st_op ?_ | refine st_det rfl (by simp (disch := omega) only [go_sem, wr_i64, if_yes, if_no, ↓reduceIte, Nat.reduceAdd, Nat.reduceMul, Nat.reduceEqDiff, Nat.reduceBEq, Nat.reduceLeDiff, List.length_map]; rfl) ?_ | refine st_loc rfl (by simp (disch := omega) only [go_sem, wr_i64, if_yes, if_no, ↓reduceIte, Nat.reduceAdd, Nat.reduceMul, Nat.reduceEqDiff, Nat.reduceBEq, Nat.reduceLeDiff, List.length_map]; rfl) ?_ | refine st_store (by simp (disch := omega) only [go_sem, wr_i64, if_yes, if_no, ↓reduceIte, Nat.reduceAdd, Nat.reduceMul, Nat.reduceEqDiff, Nat.reduceBEq, Nat.reduceLeDiff, List.length_map]; rfl) ?_ | (refine st_pureE (by first | (simp (disch := omega) only [go_sem, List.length_map]; rfl) | rfl) rfl (k76) (by first | (simp only [go_sem, List.length_map]; rfl) | rfl) (by intro n; first | (simp (disch := omega) only [go_sem]; rfl) | rfl) ?_; intro n hn) | (refine st_pureE (by first | (simp (disch := omega) only [go_sem, List.length_map]; rfl) | rfl) rfl (k77) (by first | (simp only [go_sem, List.length_map]; rfl) | rfl) (by intro n; first | (simp (disch := omega) only [go_sem]; rfl) | rfl) ?_; intro n hn) | (refine st_call (args := [.int .i64 (oth (sx t.sts i) sq)]) rfl (by first | (simp (disch := omega) only [go_sem]; rfl) | (simp (disch := omega) only [go_sem])) rfl (hy _ (by omega)) ?_; intro v h' hi2) | refine st_gT rfl rfl rfl ?_ | refine st_gF rfl rfl rfl ?_ | (refine st_gS rfl rfl ?_ ?_ <;> intro hg <;> (try simp only [decide_eq_true_eq, decide_eq_false_iff_not, Bool.not_eq_true', Bool.not_eq_false'] at hg)) | refine st_condT rfl ?_ | refine st_condF rfl ?_ | (refine st_condS rfl ?_ ?_ <;> intro hg <;> (try simp only [decide_eq_true_eq, decide_eq_false_iff_not, Bool.not_eq_true', Bool.not_eq_false'] at hg)) | refine st_nil ?_ | refine st_tN ?_ | refine st_seq ?_ | refine st_block ?_ | refine st_skip ?_ | refine st_exit ?_ | refine st_tE ?_ | refine st_bN ?_ | refine st_bH ?_)
    all_goals try (exfalso; omega)
    refine ⟨(i + 1, h'), ⟨by show i + 1 ≤ _; omega, hi2⟩, by show t.sts.length - (i + 1) < t.sts.length - i; omega, (by repeat' (first | exact trivial | refine And.intro ?_ ?_ | rfl | (simp (disch := omega) only [go_sem, if_yes, if_no, ↓reduceIte, Nat.reduceAdd, Nat.reduceMul, Nat.reduceEqDiff, Nat.reduceBEq, Nat.reduceLeDiff]; rfl) | (simp (disch := omega) only [go_sem, if_yes, if_no, ↓reduceIte, Nat.reduceAdd, Nat.reduceMul, Nat.reduceEqDiff, Nat.reduceBEq, Nat.reduceLeDiff]))), (by repeat' (first | exact trivial | refine And.intro ?_ ?_ | rfl | (simp (disch := omega) only [go_sem, if_yes, if_no, ↓reduceIte, Nat.reduceAdd, Nat.reduceMul, Nat.reduceEqDiff, Nat.reduceBEq, Nat.reduceLeDiff]; rfl) | (simp (disch := omega) only [go_sem, if_yes, if_no, ↓reduceIte, Nat.reduceAdd, Nat.reduceMul, Nat.reduceEqDiff, Nat.reduceBEq, Nat.reduceLeDiff]))), rfl, HOld.tick (by simp only [go_sem]; omega)⟩
end Go.Proofs.Ythjbfdfhblloiaa
