/- Contracts of functions that the claim reaches: what each call gives, told in our own logic. Conditions: those of each theorem. -/
import Derived.Test.YthjbfdfhblloiaaW2
import Derived.Test.YthjbfdfhblloiaaQ28
import Derived.Test.YthjbfdfhblloiaaQ30
import Derived.Test.YthjbfdfhblloiaaQ31
set_option linter.all false
set_option linter.unusedSimpArgs false
set_option linter.unusedVariables false
namespace Go.Proofs.Ythjbfdfhblloiaa
open Go.Av
attribute [local irreducible] thenA blockA awp awpOps awpD awp1
set_option maxHeartbeats 8000000
set_option maxRecDepth 20000
/-! ### Which squares are near -/
end Go.Proofs.Ythjbfdfhblloiaa

/- Contracts of functions that the claim reaches: what each call gives, told in our own logic. Conditions: those of each theorem. -/
set_option linter.all false
set_option linter.unusedSimpArgs false
set_option linter.unusedVariables false
namespace Go.Proofs.Ythjbfdfhblloiaa
open Go.Av
attribute [local irreducible] thenA blockA awp awpOps awpD awp1
set_option maxHeartbeats 8000000
set_option maxRecDepth 20000
def bl (R : Nat) (f : Nat → Bool) : List (List AV) := (List.range R).map fun q => [.bool (f q)]
@[go_sem] theorem bl_len (R : Nat) (f : Nat → Bool) : (bl R f).length = R := by simp [bl]
@[go_sem] theorem bl_take (R : Nat) (f : Nat → Bool) : List.take R (bl R f) = bl R f := List.take_of_length_le (by rw [bl_len]; exact Nat.le_refl _)
def nx (t : Tw) (c : List Int) (frm : Int) (n a q : Nat) : Bool := lvl t c frm n (q : Nat) || (List.range a).any fun p => lvl t c frm n (p : Nat) && adjB t c (p : Nat) (q : Nat)
end Go.Proofs.Ythjbfdfhblloiaa

/- Contracts of functions that the claim reaches: what each call gives, told in our own logic. Conditions: those of each theorem. -/
set_option linter.all false
set_option linter.unusedSimpArgs false
set_option linter.unusedVariables false
namespace Go.Proofs.Ythjbfdfhblloiaa
open Go.Av
attribute [local irreducible] thenA blockA awp awpOps awpD awp1
set_option maxHeartbeats 8000000
set_option maxRecDepth 20000
/-! ### The reference: states and places -/
def nl (R : Nat) (f : Nat → Int) : List (List AV) := (List.range R).map fun q => [.int .i64 (f q)]
@[go_sem] theorem nl_len (R : Nat) (f : Nat → Int) : (nl R f).length = R := by simp [nl]
@[go_sem] theorem nl_take (R : Nat) (f : Nat → Int) : List.take R (nl R f) = nl R f := List.take_of_length_le (by rw [nl_len]; exact Nat.le_refl _)
theorem nl_get {R : Nat} {f : Nat → Int} {q : Nat} (h : q < R) : (nl R f).getD q [] = [.int .i64 (f q)] := by
  unfold nl; rw [List.getD_eq_getElem?_getD, List.getElem?_map, List.getElem?_range h]; rfl
theorem nl_congr {R : Nat} {f g : Nat → Int} (h : ∀ q, q < R → f q = g q) : nl R f = nl R g := by
  unfold nl; exact List.map_congr_left fun q hq => by rw [h q (List.mem_range.1 hq)]
theorem nl_set {R : Nat} {f : Nat → Int} {q : Nat} {v : Int} (_h : q < R) : (nl R f).set q [.int .i64 v] = nl R (fun j => if j = q then v else f j) := by
  apply List.ext_getElem?
  intro j
  rw [List.getElem?_set]
  by_cases hj : j < R
  · have e : ∀ g : Nat → Int, (nl R g)[j]? = some [.int .i64 (g j)] := fun g => by unfold nl; rw [List.getElem?_map, List.getElem?_range hj]; rfl
    rw [e, e]
    by_cases q1 : q = j
    · subst q1; rw [if_pos rfl, if_pos (by rw [nl_len]; exact hj), if_pos rfl]
    · rw [if_neg q1, if_neg (fun h => q1 h.symm)]
  · have e : ∀ g : Nat → Int, (nl R g)[j]? = none := fun g => List.getElem?_eq_none (by rw [nl_len]; omega)
    rw [e, e]
    split
    · rw [if_neg (by rw [nl_len]; omega)]
    · rfl
theorem nl_rep (R : Nat) : List.replicate R [AV.int .i64 0] = nl R (fun _ => 0) := by
  apply List.ext_getElem?
  intro j
  unfold nl
  rw [List.getElem?_replicate, List.getElem?_map]
  by_cases hj : j < R
  · rw [if_pos hj, List.getElem?_range hj]; rfl
  · rw [if_neg hj, List.getElem?_eq_none (by simp; omega)]; rfl
def refS (R : Nat) (f : Nat → Int) : List Int := (List.range R).map f
theorem refS_nl (R : Nat) (f : Nat → Int) : (refS R f).map iv = nl R f := by unfold refS nl; rw [List.map_map]; rfl
theorem refS_len (R : Nat) (f : Nat → Int) : (refS R f).length = R := by simp [refS]
theorem refS_elt {R : Nat} {f : Nat → Int} {i : Nat} (h : i < R) : elt (refS R f) i = f i := by
  unfold elt refS; rw [List.getD_eq_getElem?_getD, List.getElem?_map, List.getElem?_range h]; rfl
def clsN (c : List Int) (k : Nat) (j : Nat) : Int := if (c.take k).contains ((j : Nat) : Int) then 2 else 1
theorem clsN_next {c : List Int} {k : Nat} (hk : k < c.length) (h0 : 0 ≤ elt c k) (j : Nat) : clsN c (k + 1) j = if j = (elt c k).toNat then 2 else clsN c k j := by
  have e : c[k] = elt c k := by unfold elt; rw [List.getD_eq_getElem?_getD, List.getElem?_eq_getElem hk]; rfl
  unfold clsN
  rw [List.take_succ_eq_append_getElem hk, e]
  by_cases q : j = (elt c k).toNat
  · have q2 : ((j : Nat) : Int) = elt c k := by omega
    rw [if_pos q, if_pos (by rw [List.contains_iff_mem, q2]; simp)]
  · have q2 : ¬ ((j : Nat) : Int) = elt c k := by omega
    rw [if_neg q]
    have : (c.take k ++ [elt c k]).contains ((j : Nat) : Int) = (c.take k).contains ((j : Nat) : Int) := by
      rw [Bool.eq_iff_iff, List.contains_iff_mem, List.contains_iff_mem, List.mem_append, List.mem_singleton]
      exact ⟨fun h => h.resolve_right q2, .inl⟩
    rw [this]
theorem c81 (t : Tw) (c : List Int) (hcl : c.length ≤ 1000000) (hsn : t.sts.length ≤ 12) (hb : ∀ i, i < c.length → 0 ≤ elt c i ∧ elt c i < t.sts.length) : Pure Try.prog 81 [t.av, .lst 1 (c.map iv)] (fun v => v = .lst 1 ((refS t.sts.length (cls c)).map iv)) := by
  refine Pure.give Try.call81 fun h hall => ?_
  refine ACalls.of tab mixed Try.call81 Try.func81 rfl (fi := ⟨34, [], [2], none, []⟩) rfl rfl (Nat.le_of_ble_eq_true rfl) (by decide) ?_
  unfold startA
  simp only [go_sem]
  repeat' (first | refine st_seq_reg rfl (by first | (simp only [go_sem, List.length_map, nl_rep, nl_len, Nat.zero_add]; rfl) | rfl) (by first | (simp only [go_sem, List.length_map, nl_rep, nl_len, Nat.zero_add]; rfl) | rfl) ?_ | refine st_op ?_ | refine st_det rfl (by simp (disch := omega) only [go_sem, wr_i64, if_yes, if_no, ↓reduceIte, Nat.reduceAdd, Nat.reduceMul, Nat.reduceEqDiff, Nat.reduceBEq, Nat.reduceLeDiff, List.length_map, nl_rep, nl_len, Nat.zero_add]; rfl) ?_ | refine st_heap rfl (by simp (disch := omega) only [go_sem, wr_i64, if_yes, if_no, ↓reduceIte, Nat.reduceAdd, Nat.reduceMul, Nat.reduceEqDiff, Nat.reduceBEq, Nat.reduceLeDiff, List.length_map, nl_rep, nl_len, Nat.zero_add]; rfl) ?_ | refine st_nil ?_ | refine st_seq ?_ | refine st_block ?_)
  refine st_loopH (α := Nat × AH) tab mixed [] [] (by repeat (first | exact trivial | refine ⟨rfl, ?_⟩)) [] [] (by repeat (first | exact trivial | refine ⟨rfl, ?_⟩)) (fun a => [(6, .int .i64 (a.1 : Nat))]) [(1, _), (2, _), (5, _)] (fun _ => []) [] (fun a => a.2) (fun a => a.1 ≤ t.sts.length ∧ a.2.at_ (h.clk + 1, 11) = some ⟨1, nl t.sts.length fun j => if j < a.1 then 1 else 0⟩ ∧ h.clk + 1 < a.2.clk ∧ (∀ b' : Bid, b'.1 < h.clk → a.2.at_ b' = h.at_ b') ∧ a.2.lp = h.lp) (fun a => t.sts.length - a.1) (by decide) (0, _) (by refine ⟨Nat.zero_le _, by simp only [go_sem, ↓reduceIte]; exact congrArg some (congrArg (Blk.mk 1) (nl_congr fun q _ => by simp)), by simp only [go_sem]; omega, fun b' hb' => by simp only [go_sem, if_neg (ne_fst hb' (by show h.clk ≤ h.clk + 1; omega) : ¬ b' = (h.clk + 1, 11))], rfl⟩) (by (try simp only [go_sem]); repeat' (first | exact trivial | refine And.intro ?_ ?_ | rfl | (simp (disch := omega) only [go_sem, if_yes, if_no, ↓reduceIte, Nat.reduceAdd, Nat.reduceMul, Nat.reduceEqDiff, Nat.reduceBEq, Nat.reduceLeDiff]; rfl) | (simp (disch := omega) only [go_sem, if_yes, if_no, ↓reduceIte, Nat.reduceAdd, Nat.reduceMul, Nat.reduceEqDiff, Nat.reduceBEq, Nat.reduceLeDiff]))) (by (try simp only [go_sem]); repeat' (first | exact trivial | refine And.intro ?_ ?_ | rfl | (simp (disch := omega) only [go_sem, if_yes, if_no, ↓reduceIte, Nat.reduceAdd, Nat.reduceMul, Nat.reduceEqDiff, Nat.reduceBEq, Nat.reduceLeDiff]; rfl) | (simp (disch := omega) only [go_sem, if_yes, if_no, ↓reduceIte, Nat.reduceAdd, Nat.reduceMul, Nat.reduceEqDiff, Nat.reduceBEq, Nat.reduceLeDiff]))) (HOld.refl _) ?_
  rintro ⟨i, g⟩ d ⟨i1, i2, i3, i4, i5⟩ hd
  dsimp only at i1 i2 i3 i4 i5 hd
  simp only [go_sem]
  have nbo : ∀ b' : Bid, b'.1 < h.clk → ¬ b' = (h.clk + 1, 11) := fun b' hb' => ne_fst hb' (by show h.clk ≤ h.clk + 1; omega)
  by_cases hi : i < t.sts.length
  case pos =>
    have hst : (nl t.sts.length fun j => if j < i then 1 else 0).set i [.int .i64 1] = nl t.sts.length fun j => if j < i + 1 then 1 else 0 := by
      rw [nl_set hi]
      refine nl_congr fun q _ => ?_
      by_cases q1 : q = i
      · rw [if_pos q1, if_pos (by omega)]
      · rw [if_neg q1]
        by_cases q2 : q < i
        · rw [if_pos q2, if_pos (by omega)]
        · rw [if_neg q2, if_neg (by omega)]
    repeat' (first | refine st_seq_reg rfl (by first | (simp only [go_sem, i2, nl_get, nl_len, Nat.zero_add, hst]; rfl) | rfl) (by first | (simp only [go_sem, i2, nl_get, nl_len, Nat.zero_add, hst]; rfl) | rfl) ?_ | refine st_reg rfl (by first | (simp only [go_sem, i2, nl_get, nl_len, Nat.zero_add, hst]; rfl) | rfl) (by first | (simp only [go_sem, i2, nl_get, nl_len, Nat.zero_add, hst]; rfl) | rfl) ?_ | refine st_op ?_ | refine st_det rfl (by simp (disch := omega) only [go_sem, wr_i64, if_yes, if_no, ↓reduceIte, Nat.reduceAdd, Nat.reduceMul, Nat.reduceEqDiff, Nat.reduceBEq, Nat.reduceLeDiff, i2, nl_get, nl_len, Nat.zero_add, hst]; rfl) ?_ | refine st_store (by simp (disch := omega) only [go_sem, wr_i64, if_yes, if_no, ↓reduceIte, Nat.reduceAdd, Nat.reduceMul, Nat.reduceEqDiff, Nat.reduceBEq, Nat.reduceLeDiff, i2, nl_get, nl_len, Nat.zero_add, hst]; rfl) ?_ | (refine st_condS rfl ?_ ?_ <;> intro hg <;> (try simp only [decide_eq_true_eq, decide_eq_false_iff_not, Bool.not_eq_true', Bool.not_eq_false'] at hg)) | refine st_nil ?_ | refine st_tN ?_ | refine st_seq ?_ | refine st_block ?_ | refine st_skip ?_ | refine st_exit ?_ | refine st_tE ?_ | refine st_bN ?_ | refine st_bH ?_)
    all_goals try (exfalso; omega)
    refine ⟨(i + 1, _), (by refine ⟨by show i + 1 ≤ _; omega, by simp only [go_sem, ↓reduceIte], by simp only [go_sem]; omega, fun b' hb' => by simp only [go_sem, if_neg (nbo b' hb')]; exact i4 b' hb', i5⟩), by show t.sts.length - (i + 1) < t.sts.length - i; omega, (by repeat' (first | exact trivial | refine And.intro ?_ ?_ | rfl | (simp (disch := omega) only [go_sem, if_yes, if_no, ↓reduceIte, Nat.reduceAdd, Nat.reduceMul, Nat.reduceEqDiff, Nat.reduceBEq, Nat.reduceLeDiff]; rfl) | (simp (disch := omega) only [go_sem, if_yes, if_no, ↓reduceIte, Nat.reduceAdd, Nat.reduceMul, Nat.reduceEqDiff, Nat.reduceBEq, Nat.reduceLeDiff]))), (by repeat' (first | exact trivial | refine And.intro ?_ ?_ | rfl | (simp (disch := omega) only [go_sem, if_yes, if_no, ↓reduceIte, Nat.reduceAdd, Nat.reduceMul, Nat.reduceEqDiff, Nat.reduceBEq, Nat.reduceLeDiff]; rfl) | (simp (disch := omega) only [go_sem, if_yes, if_no, ↓reduceIte, Nat.reduceAdd, Nat.reduceMul, Nat.reduceEqDiff, Nat.reduceBEq, Nat.reduceLeDiff]))), rfl, HOld.refl _⟩
  obtain rfl : i = t.sts.length := by omega
  have i6 : g.at_ (h.clk + 1, 11) = some ⟨1, nl t.sts.length (clsN c 0)⟩ := by
    rw [i2]; exact congrArg some (congrArg (Blk.mk 1) (nl_congr fun q hq => by rw [if_pos hq]; rfl))
  repeat' (first | refine st_seq_reg rfl (by first | (simp only [go_sem, List.length_map, nl_len]; rfl) | rfl) (by first | (simp only [go_sem, List.length_map, nl_len]; rfl) | rfl) ?_ | refine st_reg rfl (by first | (simp only [go_sem, List.length_map, nl_len]; rfl) | rfl) (by first | (simp only [go_sem, List.length_map, nl_len]; rfl) | rfl) ?_ | refine st_op ?_ | refine st_det rfl (by simp (disch := omega) only [go_sem, wr_i64, if_yes, if_no, ↓reduceIte, Nat.reduceAdd, Nat.reduceMul, Nat.reduceEqDiff, Nat.reduceBEq, Nat.reduceLeDiff, List.length_map, nl_len]; rfl) ?_ | (refine st_condS rfl ?_ ?_ <;> intro hg <;> (try simp only [decide_eq_true_eq, decide_eq_false_iff_not, Bool.not_eq_true', Bool.not_eq_false'] at hg)) | refine st_nil ?_ | refine st_tN ?_ | refine st_seq ?_ | refine st_block ?_ | refine st_skip ?_ | refine st_exit ?_ | refine st_tE ?_ | refine st_bH ?_)
  all_goals try (exfalso; omega)
  refine st_loopH (α := Nat × AH) tab mixed [] [] (by repeat (first | exact trivial | refine ⟨rfl, ?_⟩)) [] [] (by repeat (first | exact trivial | refine ⟨rfl, ?_⟩)) (fun a => [(7, .int .i64 (a.1 : Nat))]) [(1, _), (2, _), (5, _)] (fun _ => []) [] (fun a => a.2) (fun a => a.1 ≤ c.length ∧ a.2.at_ (h.clk + 1, 11) = some ⟨1, nl t.sts.length (clsN c a.1)⟩ ∧ h.clk + 1 < a.2.clk ∧ (∀ b' : Bid, b'.1 < h.clk → a.2.at_ b' = h.at_ b') ∧ a.2.lp = h.lp) (fun a => c.length - a.1) (by decide) (0, _) (by refine ⟨Nat.zero_le _, by simp only [go_sem]; exact i6, by simp only [go_sem]; omega, fun b' hb' => i4 b' hb', i5⟩) (by (try simp only [go_sem]); repeat' (first | exact trivial | refine And.intro ?_ ?_ | rfl | (simp (disch := omega) only [go_sem, if_yes, if_no, ↓reduceIte, Nat.reduceAdd, Nat.reduceMul, Nat.reduceEqDiff, Nat.reduceBEq, Nat.reduceLeDiff]; rfl) | (simp (disch := omega) only [go_sem, if_yes, if_no, ↓reduceIte, Nat.reduceAdd, Nat.reduceMul, Nat.reduceEqDiff, Nat.reduceBEq, Nat.reduceLeDiff]))) (by (try simp only [go_sem]); repeat' (first | exact trivial | refine And.intro ?_ ?_ | rfl | (simp (disch := omega) only [go_sem, if_yes, if_no, ↓reduceIte, Nat.reduceAdd, Nat.reduceMul, Nat.reduceEqDiff, Nat.reduceBEq, Nat.reduceLeDiff]; rfl) | (simp (disch := omega) only [go_sem, if_yes, if_no, ↓reduceIte, Nat.reduceAdd, Nat.reduceMul, Nat.reduceEqDiff, Nat.reduceBEq, Nat.reduceLeDiff]))) (HOld.refl _) ?_
  rintro ⟨k, g2⟩ e ⟨j1, j2, j3, j4, j5⟩ he
  dsimp only at j1 j2 j3 j4 j5 he
  simp only [go_sem]
  by_cases hk : k < c.length
  case pos =>
    have hbk := hb k hk
    have hbn : (elt c k).toNat < t.sts.length := by omega
    have hst : (nl t.sts.length (clsN c k)).set (elt c k).toNat [.int .i64 2] = nl t.sts.length (clsN c (k + 1)) := by
      rw [nl_set hbn]
      exact nl_congr fun q _ => (clsN_next hk hbk.1 q).symm
    repeat' (first | refine st_seq_reg rfl (by first | (simp only [go_sem, List.length_map, j2, nl_get, nl_len, Nat.zero_add, hst]; rfl) | rfl) (by first | (simp only [go_sem, List.length_map, j2, nl_get, nl_len, Nat.zero_add, hst]; rfl) | rfl) ?_ | refine st_reg rfl (by first | (simp only [go_sem, List.length_map, j2, nl_get, nl_len, Nat.zero_add, hst]; rfl) | rfl) (by first | (simp only [go_sem, List.length_map, j2, nl_get, nl_len, Nat.zero_add, hst]; rfl) | rfl) ?_ | refine st_op ?_ | refine st_det rfl (by simp (disch := omega) only [go_sem, wr_i64, if_yes, if_no, ↓reduceIte, Nat.reduceAdd, Nat.reduceMul, Nat.reduceEqDiff, Nat.reduceBEq, Nat.reduceLeDiff, List.length_map, j2, nl_get, nl_len, Nat.zero_add, hst]; rfl) ?_ | refine st_store (by simp (disch := omega) only [go_sem, wr_i64, if_yes, if_no, ↓reduceIte, Nat.reduceAdd, Nat.reduceMul, Nat.reduceEqDiff, Nat.reduceBEq, Nat.reduceLeDiff, List.length_map, j2, nl_get, nl_len, Nat.zero_add, hst]; rfl) ?_ | (refine st_condS rfl ?_ ?_ <;> intro hg <;> (try simp only [decide_eq_true_eq, decide_eq_false_iff_not, Bool.not_eq_true', Bool.not_eq_false'] at hg)) | refine st_nil ?_ | refine st_tN ?_ | refine st_seq ?_ | refine st_block ?_ | refine st_skip ?_ | refine st_exit ?_ | refine st_ret ?_ | refine st_tE ?_ | refine st_bN ?_ | refine st_bH ?_)
    all_goals try (exfalso; omega)
    refine ⟨(k + 1, _), (by refine ⟨by show k + 1 ≤ _; omega, by simp only [go_sem, ↓reduceIte], by simp only [go_sem]; omega, fun b' hb' => by simp only [go_sem, if_neg (nbo b' hb')]; exact j4 b' hb', j5⟩), by show c.length - (k + 1) < c.length - k; omega, (by repeat' (first | exact trivial | refine And.intro ?_ ?_ | rfl | (simp (disch := omega) only [go_sem, if_yes, if_no, ↓reduceIte, Nat.reduceAdd, Nat.reduceMul, Nat.reduceEqDiff, Nat.reduceBEq, Nat.reduceLeDiff]; rfl) | (simp (disch := omega) only [go_sem, if_yes, if_no, ↓reduceIte, Nat.reduceAdd, Nat.reduceMul, Nat.reduceEqDiff, Nat.reduceBEq, Nat.reduceLeDiff]))), (by repeat' (first | exact trivial | refine And.intro ?_ ?_ | rfl | (simp (disch := omega) only [go_sem, if_yes, if_no, ↓reduceIte, Nat.reduceAdd, Nat.reduceMul, Nat.reduceEqDiff, Nat.reduceBEq, Nat.reduceLeDiff]; rfl) | (simp (disch := omega) only [go_sem, if_yes, if_no, ↓reduceIte, Nat.reduceAdd, Nat.reduceMul, Nat.reduceEqDiff, Nat.reduceBEq, Nat.reduceLeDiff]))), rfl, HOld.refl _⟩
  obtain rfl : k = c.length := by omega
  have j6 : g2.at_ (h.clk + 1, 11) = some ⟨1, (refS t.sts.length (cls c)).map iv⟩ := by
    rw [j2, refS_nl]; exact congrArg some (congrArg (Blk.mk 1) (nl_congr fun q hq => by unfold clsN; rw [List.take_length]; rfl))
  repeat' (first | refine st_seq_reg rfl (by first | (simp only [go_sem, List.length_map]; rfl) | rfl) (by first | (simp only [go_sem, List.length_map]; rfl) | rfl) ?_ | refine st_reg rfl (by first | (simp only [go_sem, List.length_map]; rfl) | rfl) (by first | (simp only [go_sem, List.length_map]; rfl) | rfl) ?_ | refine st_op ?_ | refine st_det rfl (by simp (disch := omega) only [go_sem, wr_i64, if_yes, if_no, ↓reduceIte, Nat.reduceAdd, Nat.reduceMul, Nat.reduceEqDiff, Nat.reduceBEq, Nat.reduceLeDiff, List.length_map]; rfl) ?_ | (refine st_condS rfl ?_ ?_ <;> intro hg <;> (try simp only [decide_eq_true_eq, decide_eq_false_iff_not, Bool.not_eq_true', Bool.not_eq_false'] at hg)) | refine st_nil ?_ | refine st_tN ?_ | refine st_seq ?_ | refine st_block ?_ | refine st_skip ?_ | refine st_exit ?_ | refine st_ret ?_ | refine st_tE ?_ | refine st_bH ?_)
  all_goals try (exfalso; omega)
  simp (disch := omega) only [AEnd, Try.results81, aresK, fin, go_sem, ↓reduceIte, Nat.reduceEqDiff, Nat.reduceAdd, Nat.reduceLeDiff, if_yes, if_no, implies_true, true_and, and_true, List.reverse_cons, List.reverse_nil]
  refine ⟨j4, j5, .inr ⟨(h.clk + 1, 11), _, by show h.clk ≤ h.clk + 1; omega, j6, ?_⟩⟩
  simp only [frz]
  rw [if_pos ⟨trivial, by rw [List.length_map, refS_len]; omega⟩, List.drop_zero, List.take_of_length_le (by rw [List.length_map, refS_len]; exact Nat.le_refl _)]
end Go.Proofs.Ythjbfdfhblloiaa

/- Contracts of functions that the claim reaches: what each call gives, told in our own logic. Conditions: those of each theorem. -/
set_option linter.all false
set_option linter.unusedSimpArgs false
set_option linter.unusedVariables false
namespace Go.Proofs.Ythjbfdfhblloiaa
open Go.Av
set_option maxRecDepth 20000
/-! ### The reference's steps, plain -/
/-- How far it is, as a number; below 0 if it cannot be reached. -/
def dV (t : Tw) (c : List Int) (to q : Int) : Int := match dst t c to q with
  | some d => (d : Nat)
  | none => -1
/-- A street looked at so far leads to a square at this distance. -/
def pend (t : Tw) (c : List Int) (to : Int) (n i : Nat) (q : Int) : Bool := (List.range i).any fun j => !clB c j && decide (0 ≤ oth (sx t.sts j) q) && decide (dst t c to (oth (sx t.sts j) q) = some n)
def fN (t : Tw) (c : List Int) (to : Int) (n i : Nat) (q : Nat) : Int := match dst t c to (q : Nat) with
  | some d => if d ≤ n then (d : Nat) else if d = n + 1 ∧ pend t c to n i (q : Nat) = true then ((n + 1 : Nat) : Int) else -1
  | none => -1
theorem pend_next {t : Tw} {c : List Int} {to : Int} {n i : Nat} {q : Int} : pend t c to n (i + 1) q = (pend t c to n i q || (!clB c i && decide (0 ≤ oth (sx t.sts i) q) && decide (dst t c to (oth (sx t.sts i) q) = some n))) := by
  unfold pend; rw [List.range_succ, List.any_append, List.any_cons, List.any_nil, Bool.or_false]
theorem fN_some {t : Tw} {c : List Int} {to : Int} {n i q d : Nat} (h : dst t c to (q : Nat) = some d) : fN t c to n i q = (if d ≤ n then ((d : Nat) : Int) else if d = n + 1 ∧ pend t c to n i (q : Nat) = true then ((n + 1 : Nat) : Int) else (-1 : Int)) := by
  unfold fN; rw [h]
theorem fN_none {t : Tw} {c : List Int} {to : Int} {n i q : Nat} (h : dst t c to (q : Nat) = none) : fN t c to n i q = -1 := by
  unfold fN; rw [h]
theorem fN_is {t : Tw} {c : List Int} {to : Int} {n i q : Nat} : fN t c to n i q = (n : Nat) ↔ dst t c to (q : Nat) = some n := by
  cases h : dst t c to (q : Nat) with
  | none =>
    rw [fN_none h]
    constructor
    · intro e; omega
    · intro e; cases e
  | some d =>
    rw [fN_some h]
    constructor
    · intro e
      split at e
      · have : d = n := by omega
        rw [this]
      · split at e <;> omega
    · intro e
      injection e with e; subst e
      rw [if_pos (Nat.le_refl _)]
/-- One end of an open street is at the distance: so is the other one, at the next. -/
theorem dst_adj {t : Tw} (hT : TwOk t) {c : List Int} {to : Int} (hto : 0 ≤ to ∧ to < t.rooms.length) {i : Nat} (hi : i < t.sts.length) (ho : clB c i = false) {a b : Nat} (hb : b < t.rooms.length) (ha : a < t.rooms.length) (hab : oth (sx t.sts i) (a : Nat) = (b : Nat)) {n : Nat} (h : dst t c to (a : Nat) = some n) : ∃ d, dst t c to (b : Nat) = some d ∧ d ≤ n + 1 := by
  have h1 := (dst_iff hT hto (Int.natCast_nonneg a)).1 h
  have h2 := lvl_step (c := c) (p := (a : Nat)) (q := (b : Nat)) ⟨by omega, by omega⟩ h1.1 (adjB_iff.2 ⟨i, hi, ho, hab⟩)
  obtain ⟨m, hm, hd⟩ := isD_least h2
  exact ⟨m, (dst_iff hT hto (Int.natCast_nonneg b)).2 hd, hm⟩
theorem oth_ends {s : Sx} (h : s.a ≠ s.b) {p q : Int} (hq : 0 ≤ q) (hp : 0 ≤ p) : oth s p = q ↔ oth s q = p := by
  rw [oth_iff h hq, oth_iff h hp]
  constructor
  · rintro (⟨e1, e2⟩ | ⟨e1, e2⟩) <;> simp [e1, e2]
  · rintro (⟨e1, e2⟩ | ⟨e1, e2⟩) <;> simp [e1, e2]
/-- A street from 'a' to 'b' makes 'b' known. -/
theorem fN_hit {t : Tw} (hT : TwOk t) {c : List Int} {to : Int} (hto : 0 ≤ to ∧ to < t.rooms.length) {i : Nat} (hi : i < t.sts.length) (ho : clB c i = false) {a b : Nat} (ha : a < t.rooms.length) (hb : b < t.rooms.length) (hab : oth (sx t.sts i) (a : Nat) = (b : Nat)) {n : Nat} (h1 : fN t c to n i a = (n : Nat)) (h2 : fN t c to n i b < 0) (q : Nat) (hq : q < t.rooms.length) :
    fN t c to n (i + 1) q = if q = b then ((n + 1 : Nat) : Int) else fN t c to n i q := by
  have hst := hT.st i hi
  have hda := fN_is.1 h1
  obtain ⟨d, hd, hdn⟩ := dst_adj hT hto hi ho hb ha hab hda
  rw [fN_some hd] at h2
  have hba := (oth_ends hst.2.2.2.2 (Int.natCast_nonneg b) (Int.natCast_nonneg a)).1 hab
  have hd1 : d = n + 1 := by
    by_cases e : d ≤ n
    · rw [if_pos e] at h2; omega
    · omega
  subst hd1
  by_cases e : q = b
  · subst e
    have hp : pend t c to n (i + 1) (q : Nat) = true := by
      rw [pend_next, ho, hba, hda]; simp
    rw [if_pos rfl, fN_some hd, if_neg (by omega), if_pos ⟨rfl, hp⟩]
  · rw [if_neg e]
    cases hq2 : dst t c to (q : Nat) with
    | none => rw [fN_none hq2, fN_none hq2]
    | some dq =>
      rw [fN_some hq2, fN_some hq2]
      by_cases e1 : dq ≤ n
      · rw [if_pos e1, if_pos e1]
      · rw [if_neg e1, if_neg e1]
        by_cases e2 : dq = n + 1
        · have hpn : pend t c to n (i + 1) (q : Nat) = pend t c to n i (q : Nat) := by
            rw [pend_next, ho]
            by_cases e3 : 0 ≤ oth (sx t.sts i) (q : Nat) ∧ dst t c to (oth (sx t.sts i) (q : Nat)) = some n
            · exfalso
              obtain ⟨f1, f2⟩ := e3
              -- the other end of q is a or b; b is at n + 1
              have hoq := oth_bd hT hi f1
              obtain ⟨p, hp⟩ : ∃ p : Nat, oth (sx t.sts i) (q : Nat) = p := ⟨(oth (sx t.sts i) (q : Nat)).toNat, by omega⟩
              rw [hp] at f2
              rcases (oth_iff hst.2.2.2.2 (Int.natCast_nonneg p)).1 hp with ⟨g1, g2⟩ | ⟨g1, g2⟩ <;> rcases (oth_iff hst.2.2.2.2 (Int.natCast_nonneg b)).1 hab with ⟨g3, g4⟩ | ⟨g3, g4⟩
              · have : p = b := by omega
                rw [this, hd] at f2; injection f2 with f2; omega
              · exact e (by omega)
              · exact e (by omega)
              · have : p = b := by omega
                rw [this, hd] at f2; injection f2 with f2; omega
            · have : (decide (0 ≤ oth (sx t.sts i) (q : Nat)) && decide (dst t c to (oth (sx t.sts i) (q : Nat)) = some n)) = false := by
                rw [← Bool.decide_and, decide_eq_false e3]
              rw [Bool.and_assoc, this]; simp
          rw [hpn]
        · rw [if_neg (fun e3 => e2 e3.1), if_neg (fun e3 => e2 e3.1)]
/-- Neither end makes the other one known. -/
theorem fN_miss {t : Tw} (hT : TwOk t) {c : List Int} {to : Int} {i : Nat} (hi : i < t.sts.length) {a b : Nat} (hab : (sx t.sts i).a = (a : Nat)) (hbb : (sx t.sts i).b = (b : Nat)) {n : Nat}
    (h1 : ¬ (clB c i = false ∧ fN t c to n i a = (n : Nat) ∧ fN t c to n i b < 0)) (h2 : ¬ (clB c i = false ∧ fN t c to n i b = (n : Nat) ∧ fN t c to n i a < 0)) (q : Nat) : fN t c to n (i + 1) q = fN t c to n i q := by
  have hst := hT.st i hi
  cases hq2 : dst t c to (q : Nat) with
  | none => rw [fN_none hq2, fN_none hq2]
  | some dq =>
    rw [fN_some hq2, fN_some hq2]
    by_cases e1 : dq ≤ n
    · rw [if_pos e1, if_pos e1]
    · rw [if_neg e1, if_neg e1]
      by_cases e2 : dq = n + 1
      · cases hp : pend t c to n i (q : Nat) with
        | true => rw [pend_next, hp]; simp
        | false =>
          have hneg : fN t c to n i q < 0 := by
            rw [fN_some hq2, if_neg e1, if_neg (fun e3 => by rw [hp] at e3; exact absurd e3.2 (by decide))]; decide
          have : pend t c to n (i + 1) (q : Nat) = false := by
            rw [pend_next, hp, Bool.false_or]
            by_cases e3 : clB c i = false ∧ 0 ≤ oth (sx t.sts i) (q : Nat) ∧ dst t c to (oth (sx t.sts i) (q : Nat)) = some n
            · exfalso
              obtain ⟨f0, f1, f2⟩ := e3
              obtain ⟨p, hpp⟩ : ∃ p : Nat, oth (sx t.sts i) (q : Nat) = p := ⟨(oth (sx t.sts i) (q : Nat)).toNat, by omega⟩
              rw [hpp] at f2
              have hfp := fN_is (i := i).2 f2
              rcases (oth_iff hst.2.2.2.2 (Int.natCast_nonneg p)).1 hpp with ⟨g1, g2⟩ | ⟨g1, g2⟩
              · have e4 : q = a := by omega
                have e5 : p = b := by omega
                rw [e4] at hneg; rw [e5] at hfp
                exact h2 ⟨f0, hfp, hneg⟩
              · have e4 : q = b := by omega
                have e5 : p = a := by omega
                rw [e4] at hneg; rw [e5] at hfp
                exact h1 ⟨f0, hfp, hneg⟩
            · cases hc : clB c i with
              | true => simp
              | false =>
                have : (decide (0 ≤ oth (sx t.sts i) (q : Nat)) && decide (dst t c to (oth (sx t.sts i) (q : Nat)) = some n)) = false := by
                  rw [← Bool.decide_and, decide_eq_false (fun e4 => e3 ⟨hc, e4⟩)]
                rw [Bool.and_assoc, this]; simp
          rw [this]
      · rw [if_neg (fun e3 => e2 e3.1), if_neg (fun e3 => e2 e3.1)]
theorem fN_round {t : Tw} (hT : TwOk t) {c : List Int} {to : Int} (hto : 0 ≤ to ∧ to < t.rooms.length) {n q : Nat} : fN t c to n t.sts.length q = fN t c to (n + 1) 0 q := by
  cases hq2 : dst t c to (q : Nat) with
  | none => rw [fN_none hq2, fN_none hq2]
  | some dq =>
    rw [fN_some hq2, fN_some hq2]
    by_cases e1 : dq ≤ n
    · rw [if_pos e1, if_pos (by omega)]
    · rw [if_neg e1]
      by_cases e2 : dq = n + 1
      · subst e2
        have hD := (dst_iff hT hto (Int.natCast_nonneg q)).1 hq2
        obtain ⟨p, hp, hpD, hadj⟩ := isD_pre hD
        obtain ⟨i, hi, hc, ho⟩ := adjB_iff.1 hadj
        have hst := hT.st i hi
        have hqp := (oth_ends hst.2.2.2.2 (Int.natCast_nonneg q) (Int.natCast_nonneg p)).1 ho
        have hpe : pend t c to n t.sts.length (q : Nat) = true := by
          unfold pend
          rw [List.any_eq_true]
          exact ⟨i, List.mem_range.2 hi, by rw [hc, hqp, (dst_iff hT hto (Int.natCast_nonneg p)).2 hpD]; simp⟩
        rw [if_pos ⟨rfl, hpe⟩, if_pos (Nat.le_refl _)]
      · rw [if_neg (fun e3 => e2 e3.1), if_neg (by omega), if_neg (fun e3 => by have := e3.2; unfold pend at this; simp at this)]
theorem fN_start {t : Tw} (hT : TwOk t) {c : List Int} {to : Int} (hto : 0 ≤ to ∧ to < t.rooms.length) {q : Nat} : fN t c to 0 0 q = if ((q : Nat) : Int) = to then 0 else -1 := by
  by_cases e : ((q : Nat) : Int) = to
  · rw [if_pos e]
    rw [fN_some ((dst_zero hT hto (Int.natCast_nonneg q)).2 e), if_pos (Nat.le_refl _)]; rfl
  · rw [if_neg e]
    cases hq2 : dst t c to (q : Nat) with
    | none => rw [fN_none hq2]
    | some d =>
      have : d ≠ 0 := fun e2 => by rw [e2] at hq2; exact e ((dst_zero hT hto (Int.natCast_nonneg q)).1 hq2)
      rw [fN_some hq2, if_neg (by omega), if_neg (fun e3 => by have := e3.2; unfold pend at this; simp at this)]
theorem fN_end {t : Tw} (hT : TwOk t) {c : List Int} {to : Int} (hto : 0 ≤ to ∧ to < t.rooms.length) {q : Nat} : fN t c to t.rooms.length 0 q = dV t c to (q : Nat) := by
  unfold dV
  cases hq2 : dst t c to (q : Nat) with
  | none => rw [fN_none hq2]
  | some d =>
    have := dist_lt hT hto (Int.natCast_nonneg q) ((dst_iff hT hto (Int.natCast_nonneg q)).1 hq2)
    rw [fN_some hq2, if_pos (by omega)]
end Go.Proofs.Ythjbfdfhblloiaa
