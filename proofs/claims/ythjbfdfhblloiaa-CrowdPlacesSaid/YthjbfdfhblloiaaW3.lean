/- Contracts of functions that the claim reaches: what each call gives, told in our own logic. Conditions: those of each theorem. -/
import Derived.Test.YthjbfdfhblloiaaQ5
import Derived.Test.YthjbfdfhblloiaaW2
set_option linter.all false
set_option linter.unusedSimpArgs false
set_option linter.unusedVariables false
namespace Go.Proofs.Ythjbfdfhblloiaa
open Go.Av
attribute [local irreducible] thenA blockA awp awpOps awpD awp1
set_option maxHeartbeats 8000000
set_option maxRecDepth 20000
def fitV (x n : Int) : Int := if n < 2 then 0 else if x.tmod n < 0 then x.tmod n + n else x.tmod n
theorem fitV_bd {x n : Int} (h : 1 ≤ n) : 0 ≤ fitV x n ∧ fitV x n < n := by
  unfold fitV
  by_cases h2 : n < 2
  · rw [if_pos h2]; omega
  · rw [if_neg h2]
    have h3 : x.tmod n < n := Int.tmod_lt_of_pos _ (by omega)
    have h4 : -n < x.tmod n := Int.lt_tmod_of_pos _ (by omega)
    split <;> omega
theorem fitV_ne {a m n : Int} (ha : 0 ≤ a ∧ a < n) (hm : 1 ≤ m ∧ m ≤ n - 1) : fitV (a + m) n ≠ a := by
  unfold fitV
  rw [if_neg (by omega)]
  have h0 : (a + m).tmod n = (a + m) % n := Int.tmod_eq_emod_of_nonneg (by omega)
  rw [h0]
  have h1 := Int.emod_nonneg (a + m) (by omega : n ≠ 0)
  rw [if_neg (by omega)]
  by_cases h2 : a + m < n
  · rw [Int.emod_eq_of_lt (by omega) h2]; omega
  · have : (a + m) % n = a + m - n := by
      rw [← Int.sub_emod_right, Int.emod_eq_of_lt (by omega) (by omega)]
    rw [this]; omega
theorem c21 (x n : Int) (hn : -1000000000 ≤ n ∧ n ≤ 1000000000) (hx : -9223372036854775808 ≤ x ∧ x ≤ 9223372036854775807) : Pure Try.prog 21 [.int .i64 x, .int .i64 n] (fun v => v = .int .i64 (fitV x n)) := by
  intro h
  by_cases h2 : n < 2
  · refine ACalls.forget (ACalls.of tab mixed Try.call21 Try.func21 rfl (fi := ⟨16, [], [], none, []⟩) rfl rfl (Nat.le_of_ble_eq_true rfl) (by decide) ?_)
    unfold startA
    repeat' (first | refine st_seq_reg rfl (by first | (simp only [go_sem]; rfl) | rfl) (by first | (simp only [go_sem]; rfl) | rfl) ?_ | refine st_op ?_ | refine st_det rfl (by simp (disch := omega) only [go_sem, wr_i64, if_yes, if_no, ↓reduceIte, Nat.reduceAdd, Nat.reduceMul, Nat.reduceEqDiff, Nat.reduceBEq, Nat.reduceLeDiff]; rfl) ?_ | (refine st_condS rfl ?_ ?_ <;> intro hg <;> (try simp only [decide_eq_true_eq, decide_eq_false_iff_not, Bool.not_eq_true', Bool.not_eq_false'] at hg)) | refine st_nil ?_ | refine st_tN ?_ | refine st_seq ?_ | refine st_skip ?_ | refine st_ret ?_ | refine st_tR ?_)
    all_goals try (exfalso; omega)
    simp (disch := omega) only [AEnd, Try.results21, aresK, fin, go_sem, ↓reduceIte, Nat.reduceEqDiff, Nat.reduceAdd, Nat.reduceLeDiff, if_yes, if_no, implies_true, true_and, and_true, List.reverse_cons, List.reverse_nil]
    unfold fitV; rw [if_pos h2]
  have h3 : x.tmod n < n := Int.tmod_lt_of_pos _ (by omega)
  have h4 : -n < x.tmod n := Int.lt_tmod_of_pos _ (by omega)
  have e : fitV x n = if x.tmod n < 0 then x.tmod n + n else x.tmod n := by unfold fitV; rw [if_neg h2]
  refine ACalls.forget (ACalls.of tab mixed Try.call21 Try.func21 rfl (fi := ⟨16, [], [], none, []⟩) rfl rfl (Nat.le_of_ble_eq_true rfl) (by decide) ?_)
  unfold startA
  repeat' (first | refine st_seq_reg rfl (by first | (simp only [go_sem]; rfl) | rfl) (by first | (simp only [go_sem]; rfl) | rfl) ?_ | refine st_reg rfl (by first | (simp only [go_sem]; rfl) | rfl) (by first | (simp only [go_sem]; rfl) | rfl) ?_ | refine st_op ?_ | refine st_det rfl (by simp (disch := omega) only [go_sem, wr_i64, if_yes, if_no, ↓reduceIte, Nat.reduceAdd, Nat.reduceMul, Nat.reduceEqDiff, Nat.reduceBEq, Nat.reduceLeDiff]; rfl) ?_ | (refine st_condS rfl ?_ ?_ <;> intro hg <;> (try simp only [decide_eq_true_eq, decide_eq_false_iff_not, Bool.not_eq_true', Bool.not_eq_false'] at hg)) | refine st_nil ?_ | refine st_tN ?_ | refine st_seq ?_ | refine st_skip ?_ | refine st_ret ?_ | refine st_tR ?_)
  all_goals try (exfalso; omega)
  all_goals
    simp (disch := omega) only [AEnd, Try.results21, aresK, fin, go_sem, ↓reduceIte, Nat.reduceEqDiff, Nat.reduceAdd, Nat.reduceLeDiff, if_yes, if_no, implies_true, true_and, and_true, List.reverse_cons, List.reverse_nil]
    first | (rw [e, if_pos (by omega)]; done) | (rw [e, if_neg (by omega)]; done)
theorem c63 (b : Nat × Nat) (lo hi : Int) (h1 : -100000000 ≤ lo) (h2 : lo ≤ hi ∧ hi ≤ 100000000) : Drum Try.prog 63 [.ptr b 0 0, .int .i64 lo, .int .i64 hi] b (fun v => ∃ r s, v = .agg [.int .i64 r, .int .i64 s] ∧ lo ≤ r ∧ r ≤ s ∧ s ≤ hi) := by
  refine Drum.of Try.call63 fun h x hx hu hold => ?_
  refine ACalls.of tab mixed Try.call63 Try.func63 rfl (fi := ⟨36, [6], [], none, []⟩) rfl rfl (Nat.le_of_ble_eq_true rfl) (by decide) ?_
  unfold startA
  repeat' (first | refine st_seq_reg rfl (by first | (simp only [go_sem, hx]; rfl) | rfl) (by first | (simp only [go_sem, hx]; rfl) | rfl) ?_ | refine st_op ?_ | refine st_det rfl (by simp (disch := omega) only [go_sem, wr_i64, if_yes, if_no, ↓reduceIte, Nat.reduceAdd, Nat.reduceMul, Nat.reduceEqDiff, Nat.reduceBEq, Nat.reduceLeDiff, hx]; rfl) ?_ | refine st_loc rfl (by simp (disch := omega) only [go_sem, wr_i64, if_yes, if_no, ↓reduceIte, Nat.reduceAdd, Nat.reduceMul, Nat.reduceEqDiff, Nat.reduceBEq, Nat.reduceLeDiff, hx]; rfl) ?_ | refine st_store (by simp (disch := omega) only [go_sem, wr_i64, if_yes, if_no, ↓reduceIte, Nat.reduceAdd, Nat.reduceMul, Nat.reduceEqDiff, Nat.reduceBEq, Nat.reduceLeDiff, hx]; rfl) ?_ | (refine st_drum (by first | (simp (disch := omega) only [go_sem, hx]; rfl) | rfl) rfl (c62' b lo hi (by omega) (by omega)) (by first | (simp (disch := omega) only [go_sem, hx]; rfl) | rfl) (by assumption) (by first | (simp only [go_sem, hx]; rfl) | rfl) (by intro x' n; first | (simp (disch := omega) only [go_sem]; rfl) | rfl) ?_; rintro v x' n hu' ⟨r, rfl, hr⟩ hn) | (refine st_drum (by first | (simp (disch := omega) only [go_sem, hx]; rfl) | rfl) rfl (c18' b 3 (by omega)) (by first | (simp (disch := omega) only [go_sem, hx]; rfl) | rfl) (by assumption) (by first | (simp only [go_sem, hx]; rfl) | rfl) (by intro x' n; first | (simp (disch := omega) only [go_sem]; rfl) | rfl) ?_; rintro v x' n hu' ⟨s, rfl, hs⟩ hn) | (refine st_condS rfl ?_ ?_ <;> intro hg <;> (try simp only [decide_eq_true_eq, decide_eq_false_iff_not, Bool.not_eq_true', Bool.not_eq_false'] at hg)) | refine st_nil ?_ | refine st_tN ?_ | refine st_seq ?_ | refine st_block ?_ | refine st_skip ?_ | refine st_ret ?_ | refine st_tR ?_ | refine st_bN ?_ | refine st_bR ?_)
  · simp (disch := omega) only [AEnd, Try.results63, aresK, fin, go_sem, ↓reduceIte, Nat.reduceEqDiff, Nat.reduceAdd, Nat.reduceLeDiff, if_yes, if_no, implies_true, true_and, and_true, List.reverse_cons, List.reverse_nil]
    exact ⟨fun b' _ h2 => if_neg h2, ⟨_, rfl, by assumption⟩, ⟨_, _, rfl, by omega, by omega, by omega⟩⟩
  · repeat' (first | refine st_op ?_ | refine st_det rfl (by simp (disch := omega) only [go_sem, wr_i64, if_yes, if_no, ↓reduceIte, Nat.reduceAdd, Nat.reduceMul, Nat.reduceEqDiff, Nat.reduceBEq, Nat.reduceLeDiff]; rfl) ?_ | refine st_store (by simp (disch := omega) only [go_sem, wr_i64, if_yes, if_no, ↓reduceIte, Nat.reduceAdd, Nat.reduceMul, Nat.reduceEqDiff, Nat.reduceBEq, Nat.reduceLeDiff]; rfl) ?_ | (refine st_drum (by first | (simp (disch := omega) only [go_sem]; rfl) | rfl) rfl (c62' b r (min hi (r + 3)) (by omega) (by omega)) (by first | (simp (disch := omega) only [go_sem]; rfl) | rfl) (by assumption) (by first | (simp only [go_sem]; rfl) | rfl) (by intro x' n; first | (simp (disch := omega) only [go_sem]; rfl) | rfl) ?_; rintro v x' n hu' ⟨r2, rfl, hr2⟩ hn) | refine st_nil ?_ | refine st_ret ?_ | refine st_tR ?_ | refine st_bR ?_)
    simp (disch := omega) only [AEnd, Try.results63, aresK, fin, go_sem, ↓reduceIte, Nat.reduceEqDiff, Nat.reduceAdd, Nat.reduceLeDiff, if_yes, if_no, implies_true, true_and, and_true, List.reverse_cons, List.reverse_nil]
    exact ⟨fun b' _ h2 => if_neg h2, ⟨_, rfl, by assumption⟩, ⟨_, _, rfl, by omega, by omega, by omega⟩⟩
  · repeat' (first | refine st_op ?_ | refine st_det rfl (by simp (disch := omega) only [go_sem, wr_i64, if_yes, if_no, ↓reduceIte, Nat.reduceAdd, Nat.reduceMul, Nat.reduceEqDiff, Nat.reduceBEq, Nat.reduceLeDiff]; rfl) ?_ | refine st_store (by simp (disch := omega) only [go_sem, wr_i64, if_yes, if_no, ↓reduceIte, Nat.reduceAdd, Nat.reduceMul, Nat.reduceEqDiff, Nat.reduceBEq, Nat.reduceLeDiff]; rfl) ?_ | (refine st_drum (by first | (simp (disch := omega) only [go_sem]; rfl) | rfl) rfl (c62' b r hi (by omega) (by omega)) (by first | (simp (disch := omega) only [go_sem]; rfl) | rfl) (by assumption) (by first | (simp only [go_sem]; rfl) | rfl) (by intro x' n; first | (simp (disch := omega) only [go_sem]; rfl) | rfl) ?_; rintro v x' n hu' ⟨r2, rfl, hr2⟩ hn) | refine st_nil ?_ | refine st_ret ?_)
    simp (disch := omega) only [AEnd, Try.results63, aresK, fin, go_sem, ↓reduceIte, Nat.reduceEqDiff, Nat.reduceAdd, Nat.reduceLeDiff, if_yes, if_no, implies_true, true_and, and_true, List.reverse_cons, List.reverse_nil]
    exact ⟨fun b' _ h2 => if_neg h2, ⟨_, rfl, by assumption⟩, ⟨_, _, rfl, by omega, by omega, by omega⟩⟩
end Go.Proofs.Ythjbfdfhblloiaa

namespace Go.Proofs.Ythjbfdfhblloiaa
open Go.Av
set_option maxRecDepth 20000
theorem wayN_congr {t u : Tw} (h : t.sts = u.sts) (p : List Int) (q : Int) : ∀ i, wayN t p q i = wayN u p q i
  | 0 => rfl
  | i + 1 => by show oth (sx t.sts _) (wayN t p q i) = _; rw [wayN_congr h p q i, h]; rfl
theorem GpOk.congr {t u : Tw} {g : Gp} (h : GpOk t g) (h1 : t.rooms = u.rooms) (h2 : t.sts = u.sts) : GpOk u g :=
  ⟨h.size, h.at_, h.stay, by rw [← h1]; exact h.first, h.many, by rw [← h2]; exact h.st, fun i hi => by rw [← wayN_congr h2]; exact h.way i hi⟩
theorem elt_app {l : List Int} {r : Int} {i : Nat} (h : i < l.length) : elt (l ++ [r]) i = elt l i := by
  unfold elt; simp only [List.getD_eq_getElem?_getD]; rw [List.getElem?_append_left h]
theorem elt_last {l : List Int} {r : Int} : elt (l ++ [r]) l.length = r := by
  unfold elt; simp only [List.getD_eq_getElem?_getD]; simp
theorem wayN_app {t : Tw} {p : List Int} {q r : Int} : ∀ i, i ≤ p.length → wayN t (p ++ [r]) q i = wayN t p q i
  | 0, _ => rfl
  | i + 1, h => by
    show oth (sx t.sts (elt (p ++ [r]) i).toNat) (wayN t (p ++ [r]) q i) = oth (sx t.sts (elt p i).toNat) (wayN t p q i)
    rw [elt_app (by omega), wayN_app i (by omega)]
structure PtOk (t : Tw) (q : Int) (p : List Int) : Prop where
  st : ∀ i, i < p.length → 0 ≤ elt p i ∧ elt p i < t.sts.length
  way : ∀ i, i ≤ p.length → 0 ≤ wayN t p q i
theorem PtOk.add {t : Tw} {q : Int} {p : List Int} {r : Int} (h : PtOk t q p) (hr : 0 ≤ r ∧ r < t.sts.length) (hw : 0 ≤ oth (sx t.sts r.toNat) (wayN t p q p.length)) : PtOk t q (p ++ [r]) ∧ wayN t (p ++ [r]) q (p ++ [r]).length = oth (sx t.sts r.toNat) (wayN t p q p.length) := by
  have hl : (p ++ [r]).length = p.length + 1 := by simp
  have e : wayN t (p ++ [r]) q (p.length + 1) = oth (sx t.sts r.toNat) (wayN t p q p.length) := by
    show oth (sx t.sts (elt (p ++ [r]) p.length).toNat) (wayN t (p ++ [r]) q p.length) = _
    rw [elt_last, wayN_app _ (Nat.le_refl _)]
  refine ⟨⟨fun i hi => ?_, fun i hi => ?_⟩, by rw [hl]; exact e⟩
  · by_cases c : i < p.length
    · rw [elt_app c]; exact h.st i c
    · obtain rfl : i = p.length := by omega
      rw [elt_last]; exact hr
  · by_cases c : i ≤ p.length
    · rw [wayN_app i c]; exact h.way i c
    · obtain rfl : i = p.length + 1 := by omega
      rw [e]; exact hw
structure GpGood (t : Tw) (g : Gp) : Prop where
  size : 0 ≤ g.lo ∧ g.lo ≤ g.hi ∧ g.hi ≤ 90
  at_ : 0 ≤ g.alo ∧ g.alo ≤ g.ahi ∧ g.ahi ≤ 4
  stay : 1 ≤ g.stay ∧ g.stay ≤ 4
  first : 0 ≤ g.first ∧ g.first < t.rooms.length
  many : g.path.length ≤ 4
  pt : PtOk t g.first g.path
structure TwGood (t : Tw) (SQ ST GR : Int) : Prop where
  r0 : 0 < t.rooms.length
  rn : (t.rooms.length : Int) ≤ SQ
  room : ∀ x ∈ t.rooms, 0 ≤ x ∧ x ≤ 500
  sn : (t.sts.length : Int) ≤ ST
  st : ∀ x ∈ t.sts, 0 ≤ x.a ∧ x.a < t.rooms.length ∧ 0 ≤ x.b ∧ x.b < t.rooms.length ∧ x.a ≠ x.b
  steps : 0 ≤ t.steps ∧ t.steps ≤ 10
  gn : (t.gs.length : Int) ≤ GR
  g : ∀ x ∈ t.gs, GpGood t x
theorem TwGood.ok {t : Tw} {SQ ST GR : Int} (h : TwGood t SQ ST GR) (h1 : SQ ≤ 12) (h2 : ST ≤ 12) (h3 : GR ≤ 12) : TwOk t := by
  have a := h.rn; have b := h.sn; have c := h.gn; have d := h.steps
  refine ⟨h.r0, by omega, fun i hi => ?_, by omega, fun i hi => h.st _ (sx_mem hi), by omega, by omega, fun i hi => ?_⟩
  · have := h.room _ (elt_mem hi); omega
  · have k := h.g _ (gp_mem hi)
    have k1 := k.size; have k2 := k.at_; have k3 := k.stay; have k4 := k.many
    exact ⟨by omega, by omega, by omega, k.first, by omega, k.pt.st, k.pt.way⟩
structure ClOk (t : Tw) (c : List Int) (j : Nat) : Prop where
  len : c.length ≤ j
  bd : ∀ i, i < c.length → 0 ≤ elt c i ∧ elt c i < j
  up : ∀ i, 0 < i → i < c.length → elt c (i - 1) < elt c i
theorem ClOk.mono {t : Tw} {c : List Int} {j k : Nat} (h : ClOk t c j) (hk : j ≤ k) : ClOk t c k := ⟨by have := h.len; omega, fun i hi => by have := h.bd i hi; omega, h.up⟩
theorem ClOk.add {t : Tw} {c : List Int} {j : Nat} (h : ClOk t c j) : ClOk t (c ++ [((j : Nat) : Int)]) (j + 1) := by
  have hl := h.len
  have hl1 : (c ++ [((j : Nat) : Int)]).length = c.length + 1 := by simp
  refine ⟨by omega, fun i hi => ?_, fun i h0 hi => ?_⟩
  · by_cases q : i < c.length
    · rw [elt_app q]; have := h.bd i q; omega
    · obtain rfl : i = c.length := by omega
      rw [elt_last]; omega
  · by_cases q : i < c.length
    · rw [elt_app q, elt_app (by omega)]; exact h.up i h0 q
    · obtain rfl : i = c.length := by omega
      rw [elt_last, elt_app (by omega)]; exact (h.bd _ (by omega)).2
theorem ClOk.cloE {t : Tw} {c : List Int} (h : ClOk t c t.sts.length) (hT : chkE t = 0) : cloE t c = 0 := by
  unfold Go.Proofs.Ythjbfdfhblloiaa.cloE
  rw [if_neg (fun e => e hT)]
  refine errN_all fun i hi => ?_
  have a := h.bd i hi
  unfold cloF
  rw [if_neg (by omega), if_neg]
  rintro ⟨h0, h1⟩
  have := h.up i h0 hi
  omega
end Go.Proofs.Ythjbfdfhblloiaa
