/- Contracts of functions that the claim reaches: what each call gives, told in our own logic. Conditions: those of each theorem. -/
import Derived.Test.YthjbfdfhblloiaaW1
import Derived.Test.YthjbfdfhblloiaaQ14
set_option linter.all false
set_option linter.unusedSimpArgs false
set_option linter.unusedVariables false
namespace Go.Proofs.Ythjbfdfhblloiaa
open Go.Av
set_option maxRecDepth 20000
/-! ### What is known when the search has ended -/
structure SFin (t : Tw) (c : List Int) (to frm : Int) (M : List (Int × Int)) : Prop where
  ok : ∀ q v, fndM M q = some v → ∃ n : Nat, v = n ∧ isD t c to n q
  none_ : fndM M frm = none → dst t c to frm = none
  full : ∀ D, isD t c to D frm → ∀ q, 0 ≤ q → ∀ n, n ≤ D → isD t c to n q → fndM M q = some (n : Int)
theorem Bfs.fin {t : Tw} (hT : TwOk t) {c : List Int} {to frm : Int} (hto : 0 ≤ to ∧ to < t.rooms.length) (hf : 0 ≤ frm) {M : List (Int × Int)} {k : Nat} (B : Bfs t c to M k) (h : k = M.length ∨ (k < M.length ∧ ky M k = frm)) : SFin t c to frm M := by
  have key : ∀ q, q ∈ keysM M → ∀ n, isD t c to n q → fndM M q = some (n : Int) := fun q hq n hn => by
    obtain ⟨i, hi, e⟩ := mem_ky hq
    obtain ⟨_, n', e2, h2⟩ := B.ok i hi
    rw [← e, fndM_at B.nd hi, e2]
    rw [e] at h2
    rw [isD_one h2 hn]
  refine ⟨fun q v hv => B.get hv, fun hn => ?_, fun D hD q hq n hnD hn => key q ?_ n hn⟩
  · rw [dst_none hT hto hf]
    intro n
    cases e : lvl t c to n frm
    · rfl
    · exfalso
      refine fndM_none.1 hn ?_
      rcases h with rfl | ⟨hk, e2⟩
      · exact B.all hT n frm hf e
      · rw [← e2]; exact ky_mem hk
  · rcases h with rfl | ⟨hk, e2⟩
    · exact B.all hT n q hq hn.1
    · obtain ⟨_, n', e3, h2⟩ := B.ok k hk
      rw [e2] at h2
      have := isD_one h2 hD
      exact B.full hk q hq n (by omega) hn.1
theorem keysM_drop {M : List (Int × Int)} {k : Nat} (h : k < M.length) : (keysM M).drop k = ky M k :: (keysM M).drop (k + 1) := by
  have h' : k < (keysM M).length := by simpa [keysM] using h
  rw [List.drop_eq_getElem_cons h']
  congr 1
  simp [keysM, ky, List.getD_eq_getElem?_getD, h]
theorem wayL_drop (t : Tw) (c : List Int) (to : Int) (d : Nat) (q : Int) : (wayL t c to (d + 1) q).drop 1 = nxN t c to d q t.sts.length :: (wayL t c to d (nxN t c to d q t.sts.length)).drop 1 := by
  show wayL t c to d _ = _
  cases d <;> rfl
def wayO (t : Tw) (c : List Int) (frm to : Int) : Option Nat → AV
  | none => .tup [.lst 1 [], .int .i64 7]
  | some d => .tup [.lst 1 ((wayL t c to d frm).map iv), .int .i64 0]
def wayV (t : Tw) (c : List Int) (frm to : Int) : AV :=
  if cloE t c ≠ 0 then .tup [.lst 1 [], .int .i64 (cloE t c)] else if ¬ (0 ≤ frm ∧ frm ≤ t.rooms.length - 1 ∧ 0 ≤ to ∧ to ≤ t.rooms.length - 1) then .tup [.lst 1 [], .int .i64 7] else wayO t c frm to (dst t c to frm)
end Go.Proofs.Ythjbfdfhblloiaa

/- Contracts of functions that the claim reaches: what each call gives, told in our own logic. Conditions: those of each theorem. -/
set_option linter.all false
set_option linter.unusedSimpArgs false
set_option linter.unusedVariables false
namespace Go.Proofs.Ythjbfdfhblloiaa
open Go.Av
attribute [local irreducible] thenA blockA awp awpOps awpD awp1
set_option maxHeartbeats 8000000
set_option maxRecDepth 20000
/-! ### Streets that lead on -/
def idxL (l : List Int) (n : Int) : Int := match (List.range l.length).find? fun i => decide (n = elt l i) with
  | some i => ((i : Nat) : Int)
  | none => -1
theorem idxL_has (l : List Int) (n : Int) : decide (0 ≤ idxL l n) = l.contains n := by
  unfold idxL
  cases h : (List.range l.length).find? fun i => decide (n = elt l i) with
  | some i =>
    have h1 := List.find?_some h
    have h2 := List.mem_range.1 (List.mem_of_find?_eq_some h)
    have h3 : n = elt l i := by simpa using h1
    have : n ∈ l := by rw [h3]; exact elt_mem h2
    rw [decide_eq_true (by dsimp only; omega), (List.contains_iff_mem).2 this]
  | none =>
    rw [List.find?_eq_none] at h
    have : ¬ n ∈ l := fun hm => by
      obtain ⟨i, hi, e⟩ := List.mem_iff_getElem.1 hm
      refine h i (List.mem_range.2 hi) ?_
      rw [decide_eq_true_eq]
      unfold elt
      rw [List.getD_eq_getElem?_getD, List.getElem?_eq_getElem hi, ← e]; rfl
    have h2 : l.contains n = false := by
      cases hc : l.contains n with
      | false => rfl
      | true => exact absurd ((List.contains_iff_mem).1 hc) this
    rw [h2]; rfl
theorem all_stepP {p : Nat → Prop} {i : Nat} (h : ∀ j, j < i → p j) (hi : p i) : ∀ j, j < i + 1 → p j := fun j hj => by
  by_cases e : j = i
  · rw [e]; exact hi
  · exact h j (by omega)
theorem c103 (l : List Int) (n : Int) (hl : l.length ≤ 1000000) : Pure Try.prog 103 [.lst 1 (l.map iv), .int .i64 n] (fun v => v = .int .i64 (idxL l n)) := by
  intro h
  refine ACalls.forget (ACalls.of tab mixed Try.call103 Try.func103 rfl (fi := ⟨19, [], [], none, []⟩) rfl rfl (Nat.le_of_ble_eq_true rfl) (by decide) ?_)
  unfold startA
  repeat' (first | refine st_seq_reg rfl (by first | (simp only [go_sem, List.length_map]; rfl) | rfl) (by first | (simp only [go_sem, List.length_map]; rfl) | rfl) ?_ | refine st_reg rfl (by first | (simp only [go_sem, List.length_map]; rfl) | rfl) (by first | (simp only [go_sem, List.length_map]; rfl) | rfl) ?_ | refine st_op ?_ | refine st_det rfl (by simp (disch := omega) only [go_sem, wr_i64, if_yes, if_no, ↓reduceIte, Nat.reduceAdd, Nat.reduceMul, Nat.reduceEqDiff, Nat.reduceBEq, Nat.reduceLeDiff, List.length_map]; rfl) ?_ | refine st_condT rfl ?_ | refine st_condF rfl ?_ | (refine st_condS rfl ?_ ?_ <;> intro hg <;> (try simp only [decide_eq_true_eq, decide_eq_false_iff_not, Bool.not_eq_true', Bool.not_eq_false'] at hg)) | refine st_nil ?_ | refine st_tN ?_ | refine st_seq ?_ | refine st_block ?_ | refine st_skip ?_ | refine st_exit ?_ | refine st_ret ?_ | refine st_tE ?_ | refine st_tR ?_ | refine st_bN ?_ | refine st_bR ?_ | refine st_bH ?_ | refine st_bM rfl ?_)
  refine st_loopC (α := Nat) tab mixed [] [] (by repeat (first | exact trivial | refine ⟨rfl, ?_⟩)) [] [] (by repeat (first | exact trivial | refine ⟨rfl, ?_⟩)) (fun i => [(8, .int .i64 (i : Nat))]) [(0, _), (1, _), (7, _)] (fun _ => []) [] (fun i => i ≤ l.length ∧ ∀ j, j < i → ¬ n = elt l j) (fun i => l.length - i) (by decide) 0 ⟨Nat.zero_le _, fun j hj => absurd hj (Nat.not_lt_zero _)⟩ (by (try simp only [go_sem]); repeat' (first | exact trivial | refine And.intro ?_ ?_ | rfl | (simp (disch := omega) only [go_sem, if_yes, if_no, ↓reduceIte, Nat.reduceAdd, Nat.reduceMul, Nat.reduceEqDiff, Nat.reduceBEq, Nat.reduceLeDiff]; rfl) | (simp (disch := omega) only [go_sem, if_yes, if_no, ↓reduceIte, Nat.reduceAdd, Nat.reduceMul, Nat.reduceEqDiff, Nat.reduceBEq, Nat.reduceLeDiff]))) (by (try simp only [go_sem]); repeat' (first | exact trivial | refine And.intro ?_ ?_ | rfl | (simp (disch := omega) only [go_sem, if_yes, if_no, ↓reduceIte, Nat.reduceAdd, Nat.reduceMul, Nat.reduceEqDiff, Nat.reduceBEq, Nat.reduceLeDiff]; rfl) | (simp (disch := omega) only [go_sem, if_yes, if_no, ↓reduceIte, Nat.reduceAdd, Nat.reduceMul, Nat.reduceEqDiff, Nat.reduceBEq, Nat.reduceLeDiff]))) (by first | (simp only [go_sem]; rfl) | rfl) (by intro n; simp only [go_sem]; rfl) ?_
  rintro i c ⟨i1, i2⟩ hc
  simp only [go_sem]
  by_cases hi : i < l.length
  case pos =>
    repeat' (first | refine st_seq_reg rfl (by first | (simp only [go_sem, List.length_map, Nat.zero_add]; rfl) | rfl) (by first | (simp only [go_sem, List.length_map, Nat.zero_add]; rfl) | rfl) ?_ | refine st_reg rfl (by first | (simp only [go_sem, List.length_map, Nat.zero_add]; rfl) | rfl) (by first | (simp only [go_sem, List.length_map, Nat.zero_add]; rfl) | rfl) ?_ | refine st_op ?_ | refine st_det rfl (by simp (disch := omega) only [go_sem, wr_i64, if_yes, if_no, ↓reduceIte, Nat.reduceAdd, Nat.reduceMul, Nat.reduceEqDiff, Nat.reduceBEq, Nat.reduceLeDiff, List.length_map, Nat.zero_add]; rfl) ?_ | refine st_condT rfl ?_ | refine st_condF rfl ?_ | (refine st_condS rfl ?_ ?_ <;> intro hg <;> (try simp only [decide_eq_true_eq, decide_eq_false_iff_not, Bool.not_eq_true', Bool.not_eq_false'] at hg)) | refine st_nil ?_ | refine st_tN ?_ | refine st_seq ?_ | refine st_block ?_ | refine st_skip ?_ | refine st_exit ?_ | refine st_ret ?_ | refine st_tE ?_ | refine st_tR ?_ | refine st_bN ?_ | refine st_bR ?_ | refine st_bH ?_ | refine st_bM rfl ?_)
    all_goals try (exfalso; omega)
    · simp (disch := omega) only [AEnd, Try.results103, aresK, fin, go_sem, ↓reduceIte, Nat.reduceEqDiff, Nat.reduceAdd, Nat.reduceLeDiff, if_yes, if_no, implies_true, true_and, and_true, List.reverse_cons, List.reverse_nil]
      have e : (List.range l.length).find? (fun i => decide (n = elt l i)) = some i := by
        refine List.find?_eq_some_iff_getElem.2 ⟨by simp; assumption, i, by simpa using hi, List.getElem_range _, fun j hj => ?_⟩
        rw [List.getElem_range]; simpa using i2 j hj
      unfold idxL; rw [e]
    · refine ⟨i + 1, ⟨by show i + 1 ≤ _; omega, all_stepP i2 (by assumption)⟩, by show l.length - (i + 1) < l.length - i; omega, (by repeat' (first | exact trivial | refine And.intro ?_ ?_ | rfl | (simp (disch := omega) only [go_sem, if_yes, if_no, ↓reduceIte, Nat.reduceAdd, Nat.reduceMul, Nat.reduceEqDiff, Nat.reduceBEq, Nat.reduceLeDiff]; rfl) | (simp (disch := omega) only [go_sem, if_yes, if_no, ↓reduceIte, Nat.reduceAdd, Nat.reduceMul, Nat.reduceEqDiff, Nat.reduceBEq, Nat.reduceLeDiff]))), (by repeat' (first | exact trivial | refine And.intro ?_ ?_ | rfl | (simp (disch := omega) only [go_sem, if_yes, if_no, ↓reduceIte, Nat.reduceAdd, Nat.reduceMul, Nat.reduceEqDiff, Nat.reduceBEq, Nat.reduceLeDiff]; rfl) | (simp (disch := omega) only [go_sem, if_yes, if_no, ↓reduceIte, Nat.reduceAdd, Nat.reduceMul, Nat.reduceEqDiff, Nat.reduceBEq, Nat.reduceLeDiff]))), rfl, HOld.of _ (by omega)⟩
  obtain rfl : i = l.length := by omega
  repeat' (first | refine st_seq_reg rfl (by first | (simp only [go_sem, List.length_map]; rfl) | rfl) (by first | (simp only [go_sem, List.length_map]; rfl) | rfl) ?_ | refine st_reg rfl (by first | (simp only [go_sem, List.length_map]; rfl) | rfl) (by first | (simp only [go_sem, List.length_map]; rfl) | rfl) ?_ | refine st_op ?_ | refine st_det rfl (by simp (disch := omega) only [go_sem, wr_i64, if_yes, if_no, ↓reduceIte, Nat.reduceAdd, Nat.reduceMul, Nat.reduceEqDiff, Nat.reduceBEq, Nat.reduceLeDiff, List.length_map]; rfl) ?_ | refine st_condT rfl ?_ | refine st_condF rfl ?_ | (refine st_condS rfl ?_ ?_ <;> intro hg <;> (try simp only [decide_eq_true_eq, decide_eq_false_iff_not, Bool.not_eq_true', Bool.not_eq_false'] at hg)) | refine st_nil ?_ | refine st_tN ?_ | refine st_seq ?_ | refine st_block ?_ | refine st_skip ?_ | refine st_exit ?_ | refine st_ret ?_ | refine st_tE ?_ | refine st_tR ?_ | refine st_bN ?_ | refine st_bR ?_ | refine st_bH ?_ | refine st_bM rfl ?_)
  all_goals try (exfalso; omega)
  simp (disch := omega) only [AEnd, Try.results103, aresK, fin, go_sem, ↓reduceIte, Nat.reduceEqDiff, Nat.reduceAdd, Nat.reduceLeDiff, if_yes, if_no, implies_true, true_and, and_true, List.reverse_cons, List.reverse_nil]
  have e : (List.range l.length).find? (fun i => decide (n = elt l i)) = none := by
    rw [List.find?_eq_none]
    intro j hj
    simpa using i2 j (List.mem_range.1 hj)
  unfold idxL; rw [e]
theorem c77 (l : List Int) (n : Int) (hl : l.length ≤ 1000000) : Pure Try.prog 77 [.lst 1 (l.map iv), .int .i64 n] (fun v => v = .bool (l.contains n)) := by
  have k := c103 l n hl
  intro h
  refine ACalls.forget (ACalls.of tab mixed Try.call77 Try.func77 rfl (fi := ⟨9, [], [], none, []⟩) rfl rfl (Nat.le_of_ble_eq_true rfl) (by decide) ?_)
  unfold startA
  repeat' (first | refine st_seq_reg rfl (by first | (simp only [go_sem]; rfl) | rfl) (by first | (simp only [go_sem]; rfl) | rfl) ?_ | refine st_reg rfl (by first | (simp only [go_sem]; rfl) | rfl) (by first | (simp only [go_sem]; rfl) | rfl) ?_ | refine st_op ?_ | refine st_det rfl (by simp (disch := omega) only [go_sem, wr_i64, if_yes, if_no, ↓reduceIte, Nat.reduceAdd, Nat.reduceMul, Nat.reduceEqDiff, Nat.reduceBEq, Nat.reduceLeDiff]; rfl) ?_ | (refine st_pureE (by first | (simp (disch := omega) only [go_sem]; rfl) | rfl) rfl (k) (by first | (simp only [go_sem]; rfl) | rfl) (by intro n; first | (simp (disch := omega) only [go_sem]; rfl) | rfl) ?_; intro n hn) | refine st_nil ?_ | refine st_tN ?_ | refine st_seq ?_ | refine st_skip ?_ | refine st_ret ?_ | refine st_tE ?_ | refine st_tR ?_)
  simp (disch := omega) only [AEnd, Try.results77, aresK, fin, go_sem, ↓reduceIte, Nat.reduceEqDiff, Nat.reduceAdd, Nat.reduceLeDiff, if_yes, if_no, implies_true, true_and, and_true, List.reverse_cons, List.reverse_nil]
  rw [idxL_has]
end Go.Proofs.Ythjbfdfhblloiaa

/- Contracts of functions that the claim reaches: what each call gives, told in our own logic. Conditions: those of each theorem. -/
set_option linter.all false
set_option linter.unusedSimpArgs false
set_option linter.unusedVariables false
namespace Go.Proofs.Ythjbfdfhblloiaa
open Go.Av
attribute [local irreducible] thenA blockA awp awpOps awpD awp1
set_option maxHeartbeats 8000000
set_option maxRecDepth 20000
theorem c75 (t : Tw) (c : List Int) (sq : Int) (F : Nat) (cap : List AV) (hT : TwOk t) (hcl : c.length ≤ 1000000) (hcap : cap.all noL = true) (I : Nat → AH → Prop) (hI : ∀ i g n, I i g → g.clk ≤ n → I i (g.tick n))
    (hno : ∀ i g, i < t.sts.length → ¬ (0 ≤ oth (sx t.sts i) sq ∧ clB c i = false) → I i g → I (i + 1) g)
    (hyes : ∀ i g, i < t.sts.length → 0 ≤ oth (sx t.sts i) sq → clB c i = false → I i g → ACalls Try.prog F ([] ++ [.int .i64 (oth (sx t.sts i) sq)] ++ cap) g (fun _ h' => I (i + 1) h')) (h : AH) (h0 : I 0 h) :
    ACalls Try.prog 75 [.int .i64 sq, .fn (.func F) [] cap, .iptr t.cells 0, .iptr [.lst 1 (c.map iv)] 0] h (fun _ h' => I t.sts.length h') := by
  have hsn := hT.sn
  refine ACalls.of tab mixed Try.call75 Try.func75 rfl (fi := ⟨32, [7], [], none, []⟩) rfl rfl (Nat.le_of_ble_eq_true rfl) (by decide) ?_
  unfold startA
  unfold Tw.cells
  repeat' (first | refine st_seq_reg rfl (by first | (simp only [go_sem, List.length_map]; rfl) | rfl) (by first | (simp only [go_sem, List.length_map]; rfl) | rfl) ?_ | refine st_reg rfl (by first | (simp only [go_sem, List.length_map]; rfl) | rfl) (by first | (simp only [go_sem, List.length_map]; rfl) | rfl) ?_ | refine st_op ?_ | refine st_det rfl (by simp (disch := omega) only [go_sem, wr_i64, if_yes, if_no, ↓reduceIte, Nat.reduceAdd, Nat.reduceMul, Nat.reduceEqDiff, Nat.reduceBEq, Nat.reduceLeDiff, List.length_map]; rfl) ?_ | refine st_loc rfl (by simp (disch := omega) only [go_sem, wr_i64, if_yes, if_no, ↓reduceIte, Nat.reduceAdd, Nat.reduceMul, Nat.reduceEqDiff, Nat.reduceBEq, Nat.reduceLeDiff, List.length_map]; rfl) ?_ | refine st_heap rfl (by simp (disch := omega) only [go_sem, wr_i64, if_yes, if_no, ↓reduceIte, Nat.reduceAdd, Nat.reduceMul, Nat.reduceEqDiff, Nat.reduceBEq, Nat.reduceLeDiff, List.length_map]; rfl) ?_ | refine st_store (by simp (disch := omega) only [go_sem, wr_i64, if_yes, if_no, ↓reduceIte, Nat.reduceAdd, Nat.reduceMul, Nat.reduceEqDiff, Nat.reduceBEq, Nat.reduceLeDiff, List.length_map]; rfl) ?_ | refine st_gT rfl rfl rfl ?_ | refine st_gF rfl rfl rfl ?_ | (refine st_gS rfl rfl ?_ ?_ <;> intro hg <;> (try simp only [decide_eq_true_eq, decide_eq_false_iff_not, Bool.not_eq_true', Bool.not_eq_false'] at hg)) | refine st_condT rfl ?_ | refine st_condF rfl ?_ | (refine st_condS rfl ?_ ?_ <;> intro hg <;> (try simp only [decide_eq_true_eq, decide_eq_false_iff_not, Bool.not_eq_true', Bool.not_eq_false'] at hg)) | refine st_nil ?_ | refine st_tN ?_ | refine st_seq ?_ | refine st_block ?_ | refine st_skip ?_ | refine st_exit ?_ | refine st_ret ?_ | refine st_tE ?_ | refine st_tR ?_ | refine st_bN ?_ | refine st_bR ?_ | refine st_bH ?_ | refine st_bM rfl ?_)
  refine st_loopH (α := Nat × AH) tab mixed [] [] (by repeat (first | exact trivial | refine ⟨rfl, ?_⟩)) [] [] (by repeat (first | exact trivial | refine ⟨rfl, ?_⟩)) (fun a => [(12, .int .i64 (a.1 : Nat))]) [(0, _), (1, _), (3, _), (10, _), (11, _)] (fun _ => []) [] (fun a => a.2) (fun a => a.1 ≤ t.sts.length ∧ I a.1 a.2) (fun a => t.sts.length - a.1) (by decide) (0, h) ⟨Nat.zero_le _, h0⟩ (by (try simp only [go_sem]); repeat' (first | exact trivial | refine And.intro ?_ ?_ | rfl | (simp (disch := omega) only [go_sem, if_yes, if_no, ↓reduceIte, Nat.reduceAdd, Nat.reduceMul, Nat.reduceEqDiff, Nat.reduceBEq, Nat.reduceLeDiff]; rfl) | (simp (disch := omega) only [go_sem, if_yes, if_no, ↓reduceIte, Nat.reduceAdd, Nat.reduceMul, Nat.reduceEqDiff, Nat.reduceBEq, Nat.reduceLeDiff]))) (by (try simp only [go_sem]); repeat' (first | exact trivial | refine And.intro ?_ ?_ | rfl | (simp (disch := omega) only [go_sem, if_yes, if_no, ↓reduceIte, Nat.reduceAdd, Nat.reduceMul, Nat.reduceEqDiff, Nat.reduceBEq, Nat.reduceLeDiff]; rfl) | (simp (disch := omega) only [go_sem, if_yes, if_no, ↓reduceIte, Nat.reduceAdd, Nat.reduceMul, Nat.reduceEqDiff, Nat.reduceBEq, Nat.reduceLeDiff]))) (HOld.tick (by simp only [go_sem]; omega)) ?_
  rintro ⟨i, g⟩ d ⟨i1, i2⟩ hd
  dsimp only at i1 i2 hd
  simp only [go_sem]
  by_cases hi : i < t.sts.length
  case neg =>
    obtain rfl : i = t.sts.length := by omega
    repeat' (first | refine st_seq_reg rfl (by first | (simp only [go_sem, List.length_map]; rfl) | rfl) (by first | (simp only [go_sem, List.length_map]; rfl) | rfl) ?_ | refine st_reg rfl (by first | (simp only [go_sem, List.length_map]; rfl) | rfl) (by first | (simp only [go_sem, List.length_map]; rfl) | rfl) ?_ | refine st_op ?_ | refine st_det rfl (by simp (disch := omega) only [go_sem, wr_i64, if_yes, if_no, ↓reduceIte, Nat.reduceAdd, Nat.reduceMul, Nat.reduceEqDiff, Nat.reduceBEq, Nat.reduceLeDiff, List.length_map]; rfl) ?_ | refine st_loc rfl (by simp (disch := omega) only [go_sem, wr_i64, if_yes, if_no, ↓reduceIte, Nat.reduceAdd, Nat.reduceMul, Nat.reduceEqDiff, Nat.reduceBEq, Nat.reduceLeDiff, List.length_map]; rfl) ?_ | refine st_heap rfl (by simp (disch := omega) only [go_sem, wr_i64, if_yes, if_no, ↓reduceIte, Nat.reduceAdd, Nat.reduceMul, Nat.reduceEqDiff, Nat.reduceBEq, Nat.reduceLeDiff, List.length_map]; rfl) ?_ | refine st_store (by simp (disch := omega) only [go_sem, wr_i64, if_yes, if_no, ↓reduceIte, Nat.reduceAdd, Nat.reduceMul, Nat.reduceEqDiff, Nat.reduceBEq, Nat.reduceLeDiff, List.length_map]; rfl) ?_ | refine st_gT rfl rfl rfl ?_ | refine st_gF rfl rfl rfl ?_ | (refine st_gS rfl rfl ?_ ?_ <;> intro hg <;> (try simp only [decide_eq_true_eq, decide_eq_false_iff_not, Bool.not_eq_true', Bool.not_eq_false'] at hg)) | refine st_condT rfl ?_ | refine st_condF rfl ?_ | (refine st_condS rfl ?_ ?_ <;> intro hg <;> (try simp only [decide_eq_true_eq, decide_eq_false_iff_not, Bool.not_eq_true', Bool.not_eq_false'] at hg)) | refine st_nil ?_ | refine st_tN ?_ | refine st_seq ?_ | refine st_block ?_ | refine st_skip ?_ | refine st_exit ?_ | refine st_ret ?_ | refine st_tE ?_ | refine st_tR ?_ | refine st_bN ?_ | refine st_bR ?_ | refine st_bH ?_ | refine st_bM rfl ?_)
    all_goals try (exfalso; omega)
    simp (disch := omega) only [AEnd, Try.results75, aresK, fin, go_sem, ↓reduceIte, Nat.reduceEqDiff, Nat.reduceAdd, Nat.reduceLeDiff, if_yes, if_no, implies_true, true_and, and_true, List.reverse_cons, List.reverse_nil]
    exact hI _ _ _ i2 (by omega)
  have k76 := c76 (sx t.sts i) sq
  have k77 := c77 c (i : Nat) hcl
  have ecl : c.contains ((i : Nat) : Int) = clB c i := rfl
  rw [ecl] at k77
  by_cases ho : 0 ≤ oth (sx t.sts i) sq
  case neg =>
    have hnn := hno i g hi (fun e => ho e.1) i2
    repeat' (first | refine st_seq_reg rfl (by first | (simp only [go_sem, List.length_map]; rfl) | rfl) (by first | (simp only [go_sem, List.length_map]; rfl) | rfl) ?_ | refine st_reg rfl (by first | (simp only [go_sem, List.length_map]; rfl) | rfl) (by first | (simp only [go_sem, List.length_map]; rfl) | rfl) ?_ | refine st_op ?_ | refine st_det rfl (by simp (disch := omega) only [go_sem, wr_i64, if_yes, if_no, ↓reduceIte, Nat.reduceAdd, Nat.reduceMul, Nat.reduceEqDiff, Nat.reduceBEq, Nat.reduceLeDiff, List.length_map]; rfl) ?_ | refine st_loc rfl (by simp (disch := omega) only [go_sem, wr_i64, if_yes, if_no, ↓reduceIte, Nat.reduceAdd, Nat.reduceMul, Nat.reduceEqDiff, Nat.reduceBEq, Nat.reduceLeDiff, List.length_map]; rfl) ?_ | refine st_heap rfl (by simp (disch := omega) only [go_sem, wr_i64, if_yes, if_no, ↓reduceIte, Nat.reduceAdd, Nat.reduceMul, Nat.reduceEqDiff, Nat.reduceBEq, Nat.reduceLeDiff, List.length_map]; rfl) ?_ | refine st_store (by simp (disch := omega) only [go_sem, wr_i64, if_yes, if_no, ↓reduceIte, Nat.reduceAdd, Nat.reduceMul, Nat.reduceEqDiff, Nat.reduceBEq, Nat.reduceLeDiff, List.length_map]; rfl) ?_ | (refine st_pureE (by first | (simp (disch := omega) only [go_sem, List.length_map]; rfl) | rfl) rfl (k76) (by first | (simp only [go_sem, List.length_map]; rfl) | rfl) (by intro n; first | (simp (disch := omega) only [go_sem]; rfl) | rfl) ?_; intro n hn) | refine st_gT rfl rfl rfl ?_ | refine st_gF rfl rfl rfl ?_ | (refine st_gS rfl rfl ?_ ?_ <;> intro hg <;> (try simp only [decide_eq_true_eq, decide_eq_false_iff_not, Bool.not_eq_true', Bool.not_eq_false'] at hg)) | refine st_condT rfl ?_ | refine st_condF rfl ?_ | (refine st_condS rfl ?_ ?_ <;> intro hg <;> (try simp only [decide_eq_true_eq, decide_eq_false_iff_not, Bool.not_eq_true', Bool.not_eq_false'] at hg)) | refine st_nil ?_ | refine st_tN ?_ | refine st_seq ?_ | refine st_block ?_ | refine st_skip ?_ | refine st_exit ?_ | refine st_ret ?_ | refine st_tE ?_ | refine st_tR ?_ | refine st_bN ?_ | refine st_bR ?_ | refine st_bH ?_ | refine st_bM rfl ?_)
    all_goals try (exfalso; omega)
    refine ⟨(i + 1, g), ⟨by show i + 1 ≤ _; omega, hnn⟩, by show t.sts.length - (i + 1) < t.sts.length - i; omega, (by repeat' (first | exact trivial | refine And.intro ?_ ?_ | rfl | (simp (disch := omega) only [go_sem, if_yes, if_no, ↓reduceIte, Nat.reduceAdd, Nat.reduceMul, Nat.reduceEqDiff, Nat.reduceBEq, Nat.reduceLeDiff]; rfl) | (simp (disch := omega) only [go_sem, if_yes, if_no, ↓reduceIte, Nat.reduceAdd, Nat.reduceMul, Nat.reduceEqDiff, Nat.reduceBEq, Nat.reduceLeDiff]))), (by repeat' (first | exact trivial | refine And.intro ?_ ?_ | rfl | (simp (disch := omega) only [go_sem, if_yes, if_no, ↓reduceIte, Nat.reduceAdd, Nat.reduceMul, Nat.reduceEqDiff, Nat.reduceBEq, Nat.reduceLeDiff]; rfl) | (simp (disch := omega) only [go_sem, if_yes, if_no, ↓reduceIte, Nat.reduceAdd, Nat.reduceMul, Nat.reduceEqDiff, Nat.reduceBEq, Nat.reduceLeDiff]))), rfl, HOld.tick (by simp only [go_sem]; omega)⟩
  cases hb : clB c i with
  | true =>
    rw [hb] at k77
    have hnn := hno i g hi (fun e => by rw [hb] at e; exact absurd e.2 (by decide)) i2
    repeat' (first | refine st_seq_reg rfl (by first | (simp only [go_sem, List.length_map]; rfl) | rfl) (by first | (simp only [go_sem, List.length_map]; rfl) | rfl) ?_ | refine st_reg rfl (by first | (simp only [go_sem, List.length_map]; rfl) | rfl) (by first | (simp only [go_sem, List.length_map]; rfl) | rfl) ?_ | refine st_op ?_ | refine st_det rfl (by simp (disch := omega) only [go_sem, wr_i64, if_yes, if_no, ↓reduceIte, Nat.reduceAdd, Nat.reduceMul, Nat.reduceEqDiff, Nat.reduceBEq, Nat.reduceLeDiff, List.length_map]; rfl) ?_ | refine st_loc rfl (by simp (disch := omega) only [go_sem, wr_i64, if_yes, if_no, ↓reduceIte, Nat.reduceAdd, Nat.reduceMul, Nat.reduceEqDiff, Nat.reduceBEq, Nat.reduceLeDiff, List.length_map]; rfl) ?_ | refine st_heap rfl (by simp (disch := omega) only [go_sem, wr_i64, if_yes, if_no, ↓reduceIte, Nat.reduceAdd, Nat.reduceMul, Nat.reduceEqDiff, Nat.reduceBEq, Nat.reduceLeDiff, List.length_map]; rfl) ?_ | refine st_store (by simp (disch := omega) only [go_sem, wr_i64, if_yes, if_no, ↓reduceIte, Nat.reduceAdd, Nat.reduceMul, Nat.reduceEqDiff, Nat.reduceBEq, Nat.reduceLeDiff, List.length_map]; rfl) ?_ | (refine st_pureE (by first | (simp (disch := omega) only [go_sem, List.length_map]; rfl) | rfl) rfl (k76) (by first | (simp only [go_sem, List.length_map]; rfl) | rfl) (by intro n; first | (simp (disch := omega) only [go_sem]; rfl) | rfl) ?_; intro n hn) | (refine st_pureE (by first | (simp (disch := omega) only [go_sem, List.length_map]; rfl) | rfl) rfl (k77) (by first | (simp only [go_sem, List.length_map]; rfl) | rfl) (by intro n; first | (simp (disch := omega) only [go_sem]; rfl) | rfl) ?_; intro n hn) | refine st_gT rfl rfl rfl ?_ | refine st_gF rfl rfl rfl ?_ | (refine st_gS rfl rfl ?_ ?_ <;> intro hg <;> (try simp only [decide_eq_true_eq, decide_eq_false_iff_not, Bool.not_eq_true', Bool.not_eq_false'] at hg)) | refine st_condT rfl ?_ | refine st_condF rfl ?_ | (refine st_condS rfl ?_ ?_ <;> intro hg <;> (try simp only [decide_eq_true_eq, decide_eq_false_iff_not, Bool.not_eq_true', Bool.not_eq_false'] at hg)) | refine st_nil ?_ | refine st_tN ?_ | refine st_seq ?_ | refine st_block ?_ | refine st_skip ?_ | refine st_exit ?_ | refine st_ret ?_ | refine st_tE ?_ | refine st_tR ?_ | refine st_bN ?_ | refine st_bR ?_ | refine st_bH ?_ | refine st_bM rfl ?_)
    all_goals try (exfalso; omega)
    refine ⟨(i + 1, g), ⟨by show i + 1 ≤ _; omega, hnn⟩, by show t.sts.length - (i + 1) < t.sts.length - i; omega, (by repeat' (first | exact trivial | refine And.intro ?_ ?_ | rfl | (simp (disch := omega) only [go_sem, if_yes, if_no, ↓reduceIte, Nat.reduceAdd, Nat.reduceMul, Nat.reduceEqDiff, Nat.reduceBEq, Nat.reduceLeDiff]; rfl) | (simp (disch := omega) only [go_sem, if_yes, if_no, ↓reduceIte, Nat.reduceAdd, Nat.reduceMul, Nat.reduceEqDiff, Nat.reduceBEq, Nat.reduceLeDiff]))), (by repeat' (first | exact trivial | refine And.intro ?_ ?_ | rfl | (simp (disch := omega) only [go_sem, if_yes, if_no, ↓reduceIte, Nat.reduceAdd, Nat.reduceMul, Nat.reduceEqDiff, Nat.reduceBEq, Nat.reduceLeDiff]; rfl) | (simp (disch := omega) only [go_sem, if_yes, if_no, ↓reduceIte, Nat.reduceAdd, Nat.reduceMul, Nat.reduceEqDiff, Nat.reduceBEq, Nat.reduceLeDiff]))), rfl, HOld.tick (by simp only [go_sem]; omega)⟩
  | false =>
    rw [hb] at k77
    have hy : ∀ n, g.clk ≤ n → _ := fun n hn => hyes i (g.tick n) hi ho hb (hI _ _ _ i2 hn)
    repeat' (first | refine st_seq_reg rfl (by first | (simp only [go_sem, List.length_map]; rfl) | rfl) (by first | (simp only [go_sem, List.length_map]; rfl) | rfl) ?_ | refine st_reg rfl (by first | (simp only [go_sem, List.length_map]; rfl) | rfl) (by first | (simp only [go_sem, List.length_map]; rfl) | rfl) ?_ | refine st_op ?_ | refine st_det rfl (by simp (disch := omega) only [go_sem, wr_i64, if_yes, if_no, ↓reduceIte, Nat.reduceAdd, Nat.reduceMul, Nat.reduceEqDiff, Nat.reduceBEq, Nat.reduceLeDiff, List.length_map]; rfl) ?_ | refine st_loc rfl (by simp (disch := omega) only [go_sem, wr_i64, if_yes, if_no, ↓reduceIte, Nat.reduceAdd, Nat.reduceMul, Nat.reduceEqDiff, Nat.reduceBEq, Nat.reduceLeDiff, List.length_map]; rfl) ?_ | refine st_heap rfl (by simp (disch := omega) only [go_sem, wr_i64, if_yes, if_no, ↓reduceIte, Nat.reduceAdd, Nat.reduceMul, Nat.reduceEqDiff, Nat.reduceBEq, Nat.reduceLeDiff, List.length_map]; rfl) ?_ | refine st_store (by simp (disch := omega) only [go_sem, wr_i64, if_yes, if_no, ↓reduceIte, Nat.reduceAdd, Nat.reduceMul, Nat.reduceEqDiff, Nat.reduceBEq, Nat.reduceLeDiff, List.length_map]; rfl) ?_ | (refine st_pureE (by first | (simp (disch := omega) only [go_sem, List.length_map]; rfl) | rfl) rfl (k76) (by first | (simp only [go_sem, List.length_map]; rfl) | rfl) (by intro n; first | (simp (disch := omega) only [go_sem]; rfl) | rfl) ?_; intro n hn) | (refine st_pureE (by first | (simp (disch := omega) only [go_sem, List.length_map]; rfl) | rfl) rfl (k77) (by first | (simp only [go_sem, List.length_map]; rfl) | rfl) (by intro n; first | (simp (disch := omega) only [go_sem]; rfl) | rfl) ?_; intro n hn) | (refine st_call (args := [.int .i64 (oth (sx t.sts i) sq)]) rfl (by first | (simp (disch := omega) only [go_sem]; rfl) | (simp (disch := omega) only [go_sem])) rfl (hy _ (by omega)) ?_; intro v h' hi2) | refine st_gT rfl rfl rfl ?_ | refine st_gF rfl rfl rfl ?_ | (refine st_gS rfl rfl ?_ ?_ <;> intro hg <;> (try simp only [decide_eq_true_eq, decide_eq_false_iff_not, Bool.not_eq_true', Bool.not_eq_false'] at hg)) | refine st_condT rfl ?_ | refine st_condF rfl ?_ | (refine st_condS rfl ?_ ?_ <;> intro hg <;> (try simp only [decide_eq_true_eq, decide_eq_false_iff_not, Bool.not_eq_true', Bool.not_eq_false'] at hg)) | refine st_nil ?_ | refine st_tN ?_ | refine st_seq ?_ | refine st_block ?_ | refine st_skip ?_ | refine st_exit ?_ | refine st_ret ?_ | refine st_tE ?_ | refine st_tR ?_ | refine st_bN ?_ | refine st_bR ?_ | refine st_bH ?_ | refine st_bM rfl ?_)
    all_goals try (exfalso; omega)
    refine ⟨(i + 1, h'), ⟨by show i + 1 ≤ _; omega, hi2⟩, by show t.sts.length - (i + 1) < t.sts.length - i; omega, (by repeat' (first | exact trivial | refine And.intro ?_ ?_ | rfl | (simp (disch := omega) only [go_sem, if_yes, if_no, ↓reduceIte, Nat.reduceAdd, Nat.reduceMul, Nat.reduceEqDiff, Nat.reduceBEq, Nat.reduceLeDiff]; rfl) | (simp (disch := omega) only [go_sem, if_yes, if_no, ↓reduceIte, Nat.reduceAdd, Nat.reduceMul, Nat.reduceEqDiff, Nat.reduceBEq, Nat.reduceLeDiff]))), (by repeat' (first | exact trivial | refine And.intro ?_ ?_ | rfl | (simp (disch := omega) only [go_sem, if_yes, if_no, ↓reduceIte, Nat.reduceAdd, Nat.reduceMul, Nat.reduceEqDiff, Nat.reduceBEq, Nat.reduceLeDiff]; rfl) | (simp (disch := omega) only [go_sem, if_yes, if_no, ↓reduceIte, Nat.reduceAdd, Nat.reduceMul, Nat.reduceEqDiff, Nat.reduceBEq, Nat.reduceLeDiff]))), rfl, HOld.tick (by simp only [go_sem]; omega)⟩
end Go.Proofs.Ythjbfdfhblloiaa
