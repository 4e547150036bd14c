/- Contracts of functions that the claim reaches: what each call gives, told in our own logic. Conditions: those of each theorem. -/
import Derived.Test.YthjbfdfhblloiaaW6a
import Derived.Test.YthjbfdfhblloiaaW8a
import Derived.Test.YthjbfdfhblloiaaQ25
import Derived.Test.YthjbfdfhblloiaaQ28
import Derived.Test.YthjbfdfhblloiaaQ4
import Derived.Test.YthjbfdfhblloiaaQ31
set_option linter.all false
set_option linter.unusedSimpArgs false
set_option linter.unusedVariables false
namespace Go.Proofs.Ythjbfdfhblloiaa
open Go.Av
set_option maxRecDepth 20000
/-! ### Towns that know more, plain -/
structure GpLe (a b : Gp) : Prop where
  stay : a.stay = b.stay
  first : a.first = b.first
  path : a.path = b.path
  lo : b.lo ≤ a.lo
  lh : a.lo ≤ a.hi
  hi : a.hi ≤ b.hi
  alo : b.alo ≤ a.alo
  mid : a.alo ≤ a.ahi
  ahi : a.ahi ≤ b.ahi
structure TwLe (u t : Tw) : Prop where
  sts : u.sts = t.sts
  steps : u.steps = t.steps
  rl : u.rooms.length = t.rooms.length
  room : ∀ i, i < t.rooms.length → elt t.rooms i ≤ elt u.rooms i
  gl : u.gs.length = t.gs.length
  g : ∀ i, i < t.gs.length → GpLe (gp u.gs i) (gp t.gs i)
theorem wlk_congr {u t : Tw} (h : u.sts = t.sts) (s : Nat → Int) : ∀ (p : List Int) (k : Nat) (q : Int), wlk u s p k q = wlk t s p k q
  | [], _, _ => rfl
  | _ :: _, 0, _ => rfl
  | p :: ps, k + 1, q => by
    show (if s p.toNat = 0 then -2 else if s p.toNat = 2 then q else wlk u s ps k (oth (sx u.sts p.toNat) q)) = (if s p.toNat = 0 then -2 else if s p.toNat = 2 then q else wlk t s ps k (oth (sx t.sts p.toNat) q))
    rw [wlk_congr h s ps k, h]
theorem plc_congr {u t : Tw} (h : u.sts = t.sts) (s : Nat → Int) {a b : Gp} (k : GpLe a b) (c st : Int) : plc u s a c st = plc t s b c st := by
  unfold plc; rw [wlk_congr h, k.stay, k.first, k.path]
theorem TwLe.ldHi {u t : Tw} (h : TwLe u t) (h0 : ∀ i, i < t.gs.length → 0 ≤ (gp t.gs i).hi) (s : Nat → Int) (q st : Int) : Go.Proofs.Ythjbfdfhblloiaa.ldHi u s q st ≤ Go.Proofs.Ythjbfdfhblloiaa.ldHi t s q st := by
  unfold Go.Proofs.Ythjbfdfhblloiaa.ldHi
  rw [h.gl]
  refine sumF_le fun i hi => ?_
  have k := h.g i hi
  unfold hiF
  by_cases e : someB u s (gp u.gs i) q st = true
  · obtain ⟨c, h1, h2, h3⟩ := someB_iff.1 e
    have e2 : someB t s (gp t.gs i) q st = true := someB_iff.2 ⟨c, by have := k.alo; omega, by have := k.ahi; omega, by rw [← plc_congr h.sts s k]; exact h3⟩
    rw [if_pos e, if_pos e2]; exact k.hi
  · rw [if_neg e]
    split
    · exact h0 i hi
    · exact Int.le_refl _
theorem TwLe.ldLo {u t : Tw} (h : TwLe u t) (h0 : ∀ i, i < t.gs.length → 0 ≤ (gp t.gs i).lo) (s : Nat → Int) (q st : Int) : Go.Proofs.Ythjbfdfhblloiaa.ldLo t s q st ≤ Go.Proofs.Ythjbfdfhblloiaa.ldLo u s q st := by
  unfold Go.Proofs.Ythjbfdfhblloiaa.ldLo
  rw [h.gl]
  refine sumF_le fun i hi => ?_
  have k := h.g i hi
  have h00 := h0 i hi
  have hl := k.lo
  unfold loF
  by_cases e : allB t s (gp t.gs i) q st = true
  · have e2 : allB u s (gp u.gs i) q st = true := allB_iff.2 fun c h1 h2 => by
      rw [plc_congr h.sts s k]
      exact allB_iff.1 e c (by have := k.alo; omega) (by have := k.ahi; omega)
    rw [if_pos e, if_pos e2]; exact k.lo
  · rw [if_neg e]
    split <;> omega
theorem catN_nil {α : Type} {g : Nat → List α} : ∀ {n : Nat}, catN g n = [] ↔ ∀ i, i < n → g i = []
  | 0 => ⟨fun _ i hi => absurd hi (Nat.not_lt_zero _), fun _ => rfl⟩
  | n + 1 => by
    show catN g n ++ g n = [] ↔ _
    rw [List.append_eq_nil_iff, catN_nil]
    constructor
    · rintro ⟨h1, h2⟩ i hi
      by_cases e : i = n
      · rw [e]; exact h2
      · exact h1 i (by omega)
    · intro h
      exact ⟨fun i hi => h i (by omega), h n (by omega)⟩
theorem mem_catN {α : Type} {g : Nat → List α} {x : α} : ∀ {n : Nat}, x ∈ catN g n ↔ ∃ i, i < n ∧ x ∈ g i
  | 0 => ⟨fun h => (by cases h), fun ⟨i, hi, _⟩ => absurd hi (Nat.not_lt_zero _)⟩
  | n + 1 => by
    show x ∈ catN g n ++ g n ↔ _
    rw [List.mem_append, mem_catN]
    constructor
    · rintro (⟨i, h1, h2⟩ | h)
      · exact ⟨i, by omega, h2⟩
      · exact ⟨n, by omega, h⟩
    · rintro ⟨i, h1, h2⟩
      by_cases e : i = n
      · rw [e] at h2; exact .inr h2
      · exact .inl ⟨i, by omega, h2⟩
theorem okB_iff {t : Tw} {l : List Int} : okB t l = true ↔ ∀ st q : Nat, st < (t.steps + 1).toNat → q < t.rooms.length → Go.Proofs.Ythjbfdfhblloiaa.ldHi t (cls l) (q : Nat) (st : Nat) ≤ elt t.rooms q := by
  unfold okB
  rw [List.isEmpty_iff]
  unfold crL
  rw [catN_nil]
  constructor
  · intro h st q h1 h2
    have := catN_nil.1 (h st h1) q h2
    unfold crF at this
    by_cases e : elt t.rooms q < Go.Proofs.Ythjbfdfhblloiaa.ldHi t (cls l) (q : Nat) (st : Nat)
    · rw [if_pos e] at this; cases this
    · omega
  · intro h st h1
    refine catN_nil.2 fun q h2 => ?_
    unfold crF
    rw [if_neg (by have := h st q h1 h2; omega)]
theorem TwLe.okB {u t : Tw} (h : TwLe u t) (h0 : ∀ i, i < t.gs.length → 0 ≤ (gp t.gs i).hi) {l : List Int} (k : Go.Proofs.Ythjbfdfhblloiaa.okB t l = true) : Go.Proofs.Ythjbfdfhblloiaa.okB u l = true := by
  rw [okB_iff] at k ⊢
  intro st q h1 h2
  rw [h.steps] at h1; rw [h.rl] at h2
  have e1 := k st q h1 h2
  have e2 := h.ldHi h0 (cls l) (q : Nat) (st : Nat)
  have e3 := h.room q h2
  omega
theorem TwLe.clo {u t : Tw} (h : TwLe u t) (h0 : ∀ i, i < t.gs.length → 0 ≤ (gp t.gs i).hi) {A : List Int} (k : Go.Proofs.Ythjbfdfhblloiaa.clo t t.sts.length = some A) : ∃ B, Go.Proofs.Ythjbfdfhblloiaa.clo u u.sts.length = some B ∧ B.length ≤ A.length := by
  rw [h.sts]
  unfold Go.Proofs.Ythjbfdfhblloiaa.clo chsAll at *
  rw [h.sts, Nat.min_self]
  rw [Nat.min_self] at k
  obtain ⟨m, hm, hA⟩ := mem_catN.1 (List.mem_of_find?_eq_some k)
  have hAl := (chs_ok (t := t) m 0 A hA).1
  have hp : (crL u (cls A)).isEmpty = true := h.okB h0 (l := A) (List.find?_some k)
  have hin : A ∈ catN (fun m => chs t.sts.length m 0) (m + 1) := mem_catN.2 ⟨m, by omega, hA⟩
  cases e : (catN (fun m => chs t.sts.length m 0) (m + 1)).find? fun l => (crL u (cls l)).isEmpty with
  | none => exact absurd hp (by rw [List.find?_eq_none] at e; exact e A hin)
  | some B =>
    refine ⟨B, catN_fpre e (by omega), ?_⟩
    obtain ⟨j, hj, hB⟩ := mem_catN.1 (List.mem_of_find?_eq_some e)
    have := (chs_ok (t := t) j 0 B hB).1
    omega
theorem TwLe.ok {u t : Tw} (h : TwLe u t) (hT : TwOk t) (hr : ∀ i, i < t.rooms.length → elt u.rooms i ≤ 1000000) : TwOk u := by
  have e1 := h.rl
  refine ⟨by rw [e1]; exact hT.r0, by rw [e1]; exact hT.rn, fun i hi => ?_, by rw [h.sts]; exact hT.sn, fun i hi => ?_, by rw [h.steps]; exact hT.steps, by rw [h.gl]; exact hT.gn, fun i hi => ?_⟩
  · rw [e1] at hi
    have a := hT.room i hi; have b := h.room i hi; have c := hr i hi
    omega
  · rw [h.sts] at hi
    have := hT.st i hi
    rw [h.sts, e1]; exact this
  · rw [h.gl] at hi
    have k := h.g i hi
    have a := hT.g i hi
    have a1 := a.size; have a2 := a.at_; have k1 := k.lo; have k2 := k.hi; have k3 := k.alo; have k4 := k.ahi; have k5 := k.lh; have k6 := k.mid
    refine ⟨by omega, by omega, by rw [k.stay]; exact a.stay, by rw [k.first, e1]; exact a.first, by rw [k.path]; exact a.many, fun j hj => ?_, fun j hj => ?_⟩
    · rw [k.path] at hj ⊢; rw [h.sts]; exact a.st j hj
    · rw [k.path] at hj ⊢; rw [k.first, wayN_congr h.sts]; exact a.way j hj
theorem TwLe.refl {t : Tw} (hT : TwOk t) : TwLe t t :=
  ⟨rfl, rfl, rfl, fun _ _ => Int.le_refl _, rfl, fun i hi => by
    have a := hT.g i hi
    have a1 := a.size; have a2 := a.at_
    exact ⟨rfl, rfl, rfl, Int.le_refl _, a1.2.1, Int.le_refl _, Int.le_refl _, a2.2.1, Int.le_refl _⟩⟩
end Go.Proofs.Ythjbfdfhblloiaa

/- Contracts of functions that the claim reaches: what each call gives, told in our own logic. Conditions: those of each theorem. -/
set_option linter.all false
set_option linter.unusedSimpArgs false
set_option linter.unusedVariables false
namespace Go.Proofs.Ythjbfdfhblloiaa
open Go.Av
attribute [local irreducible] thenA blockA awp awpOps awpD awp1
set_option maxHeartbeats 8000000
set_option maxRecDepth 20000
/-! ### The reference: where a group is -/
theorem c44 (a b c d : Int) : Pure Try.prog 44 [.agg [.int .i64 a, .int .i64 b], .agg [.int .i64 c, .int .i64 d]] (fun v => v = .bool (decide (c ≤ a ∧ b ≤ d))) := by
  intro h
  refine ACalls.forget (ACalls.of tab mixed Try.call44 Try.func44 rfl (fi := ⟨17, [], [2, 3], none, []⟩) rfl rfl (Nat.le_of_ble_eq_true rfl) (by decide) ?_)
  unfold startA
  repeat' (first | refine st_seq_reg rfl (by first | (simp only [go_sem]; rfl) | rfl) (by first | (simp only [go_sem]; rfl) | rfl) ?_ | refine st_op ?_ | refine st_det rfl (by simp (disch := omega) only [go_sem, wr_i64, if_yes, if_no, ↓reduceIte, Nat.reduceAdd, Nat.reduceMul, Nat.reduceEqDiff, Nat.reduceBEq, Nat.reduceLeDiff]; rfl) ?_ | refine st_gT rfl rfl rfl ?_ | refine st_gF rfl rfl rfl ?_ | (refine st_gS rfl rfl ?_ ?_ <;> intro hg <;> (try simp only [decide_eq_true_eq, decide_eq_false_iff_not, Bool.not_eq_true', Bool.not_eq_false'] at hg)) | refine st_nil ?_ | refine st_ret ?_)
  all_goals
    simp (disch := omega) only [AEnd, Try.results44, aresK, fin, go_sem, ↓reduceIte, Nat.reduceEqDiff, Nat.reduceAdd, Nat.reduceLeDiff, if_yes, if_no, implies_true, true_and, and_true, List.reverse_cons, List.reverse_nil]
    first | (simp [hg]; done) | (have hg' := hg; simp only [decide_eq_true_eq] at hg'; simp [hg'])
end Go.Proofs.Ythjbfdfhblloiaa

/- Contracts of functions that the claim reaches: what each call gives, told in our own logic. Conditions: those of each theorem. -/
set_option linter.all false
set_option linter.unusedSimpArgs false
set_option linter.unusedVariables false
namespace Go.Proofs.Ythjbfdfhblloiaa
open Go.Av
attribute [local irreducible] thenA blockA awp awpOps awpD awp1
set_option maxHeartbeats 8000000
set_option maxRecDepth 20000
/-! ### Which squares are near -/
theorem has_take {l : List Int} {n : Int} {i : Nat} (h : ∀ j, j < i → ¬ elt l j = n) (hi : i = l.length) : l.contains n = false := by
  cases hc : l.contains n with
  | false => rfl
  | true =>
    obtain ⟨j, hj, e⟩ := List.mem_iff_getElem.1 ((List.contains_iff_mem).1 hc)
    exact absurd (by unfold elt; rw [List.getD_eq_getElem?_getD, List.getElem?_eq_getElem hj, ← e]; rfl) (h j (by omega))
theorem c46 (l : List Int) (n : Int) (hl : l.length ≤ 1000000) : Pure Try.prog 46 [.lst 1 (l.map iv), .int .i64 n] (fun v => v = .bool (l.contains n)) := by
  intro h
  refine ACalls.forget (ACalls.of tab mixed Try.call46 Try.func46 rfl (fi := ⟨18, [], [], none, []⟩) rfl rfl (Nat.le_of_ble_eq_true rfl) (by decide) ?_)
  unfold startA
  repeat' (first | refine st_seq_reg rfl (by first | (simp only [go_sem]; rfl) | rfl) (by first | (simp only [go_sem]; rfl) | rfl) ?_ | refine st_reg rfl (by first | (simp only [go_sem]; rfl) | rfl) (by first | (simp only [go_sem]; rfl) | rfl) ?_ | refine st_op ?_ | refine st_det rfl (by simp (disch := omega) only [go_sem, wr_i64, if_yes, if_no, ↓reduceIte, Nat.reduceAdd, Nat.reduceMul, Nat.reduceEqDiff, Nat.reduceBEq, Nat.reduceLeDiff]; rfl) ?_ | refine st_condT rfl ?_ | refine st_condF rfl ?_ | (refine st_condS rfl ?_ ?_ <;> intro hg <;> (try simp only [decide_eq_true_eq, decide_eq_false_iff_not, Bool.not_eq_true', Bool.not_eq_false'] at hg)) | refine st_nil ?_ | refine st_tN ?_ | refine st_seq ?_ | refine st_block ?_ | refine st_skip ?_ | refine st_exit ?_ | refine st_ret ?_ | refine st_tE ?_ | refine st_tR ?_ | refine st_bN ?_ | refine st_bR ?_ | refine st_bH ?_ | refine st_bM rfl ?_)
  refine st_loopC (α := Nat) tab mixed [] [] (by repeat (first | exact trivial | refine ⟨rfl, ?_⟩)) [] [] (by repeat (first | exact trivial | refine ⟨rfl, ?_⟩)) (fun i => [(5, .int .i64 (i : Nat))]) [(0, _), (1, _)] (fun _ => []) [] (fun i => i ≤ l.length ∧ ∀ j, j < i → ¬ elt l j = n) (fun i => l.length - i) (by decide) 0 ⟨Nat.zero_le _, fun j hj => absurd hj (Nat.not_lt_zero _)⟩ (by (try simp only [go_sem]); repeat' (first | exact trivial | refine And.intro ?_ ?_ | rfl | (simp (disch := omega) only [go_sem, if_yes, if_no, ↓reduceIte, Nat.reduceAdd, Nat.reduceMul, Nat.reduceEqDiff, Nat.reduceBEq, Nat.reduceLeDiff]; rfl) | (simp (disch := omega) only [go_sem, if_yes, if_no, ↓reduceIte, Nat.reduceAdd, Nat.reduceMul, Nat.reduceEqDiff, Nat.reduceBEq, Nat.reduceLeDiff]))) (by (try simp only [go_sem]); repeat' (first | exact trivial | refine And.intro ?_ ?_ | rfl | (simp (disch := omega) only [go_sem, if_yes, if_no, ↓reduceIte, Nat.reduceAdd, Nat.reduceMul, Nat.reduceEqDiff, Nat.reduceBEq, Nat.reduceLeDiff]; rfl) | (simp (disch := omega) only [go_sem, if_yes, if_no, ↓reduceIte, Nat.reduceAdd, Nat.reduceMul, Nat.reduceEqDiff, Nat.reduceBEq, Nat.reduceLeDiff]))) (by first | (simp only [go_sem]; rfl) | rfl) (by intro n; simp only [go_sem]; rfl) ?_
  rintro i c ⟨i1, i2⟩ hc
  simp only [go_sem]
  by_cases hi : i < l.length
  case neg =>
    have e : i = l.length := by omega
    have hb := has_take i2 e
    subst e
    repeat' (first | refine st_seq_reg rfl (by first | (simp only [go_sem, List.length_map]; rfl) | rfl) (by first | (simp only [go_sem, List.length_map]; rfl) | rfl) ?_ | refine st_reg rfl (by first | (simp only [go_sem, List.length_map]; rfl) | rfl) (by first | (simp only [go_sem, List.length_map]; rfl) | rfl) ?_ | refine st_op ?_ | refine st_det rfl (by simp (disch := omega) only [go_sem, wr_i64, if_yes, if_no, ↓reduceIte, Nat.reduceAdd, Nat.reduceMul, Nat.reduceEqDiff, Nat.reduceBEq, Nat.reduceLeDiff, List.length_map]; rfl) ?_ | refine st_condT rfl ?_ | refine st_condF rfl ?_ | (refine st_condS rfl ?_ ?_ <;> intro hg <;> (try simp only [decide_eq_true_eq, decide_eq_false_iff_not, Bool.not_eq_true', Bool.not_eq_false'] at hg)) | refine st_nil ?_ | refine st_tN ?_ | refine st_seq ?_ | refine st_block ?_ | refine st_skip ?_ | refine st_exit ?_ | refine st_ret ?_ | refine st_tE ?_ | refine st_tR ?_ | refine st_bN ?_ | refine st_bR ?_ | refine st_bH ?_ | refine st_bM rfl ?_)
    all_goals try (exfalso; omega)
    simp (disch := omega) only [AEnd, Try.results46, aresK, fin, go_sem, ↓reduceIte, Nat.reduceEqDiff, Nat.reduceAdd, Nat.reduceLeDiff, if_yes, if_no, implies_true, true_and, and_true, List.reverse_cons, List.reverse_nil]
    rw [hb]
  by_cases he : elt l i = n
  · have hb : l.contains n = true := (List.contains_iff_mem).2 (he ▸ elt_mem hi)
    repeat' (first | refine st_seq_reg rfl (by first | (simp only [go_sem, List.length_map, he]; rfl) | rfl) (by first | (simp only [go_sem, List.length_map, he]; rfl) | rfl) ?_ | refine st_reg rfl (by first | (simp only [go_sem, List.length_map, he]; rfl) | rfl) (by first | (simp only [go_sem, List.length_map, he]; rfl) | rfl) ?_ | refine st_op ?_ | refine st_det rfl (by simp (disch := omega) only [go_sem, wr_i64, if_yes, if_no, ↓reduceIte, Nat.reduceAdd, Nat.reduceMul, Nat.reduceEqDiff, Nat.reduceBEq, Nat.reduceLeDiff, List.length_map, he]; rfl) ?_ | refine st_condT rfl ?_ | refine st_condF rfl ?_ | (refine st_condS rfl ?_ ?_ <;> intro hg <;> (try simp only [decide_eq_true_eq, decide_eq_false_iff_not, Bool.not_eq_true', Bool.not_eq_false'] at hg)) | refine st_nil ?_ | refine st_tN ?_ | refine st_seq ?_ | refine st_block ?_ | refine st_skip ?_ | refine st_exit ?_ | refine st_ret ?_ | refine st_tE ?_ | refine st_tR ?_ | refine st_bN ?_ | refine st_bR ?_ | refine st_bH ?_ | refine st_bM rfl ?_)
    all_goals try (exfalso; omega)
    all_goals try (exfalso; exact absurd rfl (by assumption))
    simp (disch := omega) only [AEnd, Try.results46, aresK, fin, go_sem, ↓reduceIte, Nat.reduceEqDiff, Nat.reduceAdd, Nat.reduceLeDiff, if_yes, if_no, implies_true, true_and, and_true, List.reverse_cons, List.reverse_nil]
    rw [hb]
  · repeat' (first | refine st_seq_reg rfl (by first | (simp only [go_sem, List.length_map]; rfl) | rfl) (by first | (simp only [go_sem, List.length_map]; rfl) | rfl) ?_ | refine st_reg rfl (by first | (simp only [go_sem, List.length_map]; rfl) | rfl) (by first | (simp only [go_sem, List.length_map]; rfl) | rfl) ?_ | refine st_op ?_ | refine st_det rfl (by simp (disch := omega) only [go_sem, wr_i64, if_yes, if_no, ↓reduceIte, Nat.reduceAdd, Nat.reduceMul, Nat.reduceEqDiff, Nat.reduceBEq, Nat.reduceLeDiff, List.length_map]; rfl) ?_ | refine st_condT rfl ?_ | refine st_condF rfl ?_ | (refine st_condS rfl ?_ ?_ <;> intro hg <;> (try simp only [decide_eq_true_eq, decide_eq_false_iff_not, Bool.not_eq_true', Bool.not_eq_false'] at hg)) | refine st_nil ?_ | refine st_tN ?_ | refine st_seq ?_ | refine st_block ?_ | refine st_skip ?_ | refine st_exit ?_ | refine st_ret ?_ | refine st_tE ?_ | refine st_tR ?_ | refine st_bN ?_ | refine st_bR ?_ | refine st_bH ?_ | refine st_bM rfl ?_)
    all_goals try (exfalso; omega)
    refine ⟨i + 1, ⟨by show i + 1 ≤ _; omega, all_stepP i2 he⟩, by show l.length - (i + 1) < l.length - i; omega, (by repeat' (first | exact trivial | refine And.intro ?_ ?_ | rfl | (simp (disch := omega) only [go_sem, if_yes, if_no, ↓reduceIte, Nat.reduceAdd, Nat.reduceMul, Nat.reduceEqDiff, Nat.reduceBEq, Nat.reduceLeDiff]; rfl) | (simp (disch := omega) only [go_sem, if_yes, if_no, ↓reduceIte, Nat.reduceAdd, Nat.reduceMul, Nat.reduceEqDiff, Nat.reduceBEq, Nat.reduceLeDiff]))), (by repeat' (first | exact trivial | refine And.intro ?_ ?_ | rfl | (simp (disch := omega) only [go_sem, if_yes, if_no, ↓reduceIte, Nat.reduceAdd, Nat.reduceMul, Nat.reduceEqDiff, Nat.reduceBEq, Nat.reduceLeDiff]; rfl) | (simp (disch := omega) only [go_sem, if_yes, if_no, ↓reduceIte, Nat.reduceAdd, Nat.reduceMul, Nat.reduceEqDiff, Nat.reduceBEq, Nat.reduceLeDiff]))), rfl, HOld.of _ (by omega)⟩
end Go.Proofs.Ythjbfdfhblloiaa

/- Contracts of functions that the claim reaches: what each call gives, told in our own logic. Conditions: those of each theorem. -/
set_option linter.all false
set_option linter.unusedSimpArgs false
set_option linter.unusedVariables false
namespace Go.Proofs.Ythjbfdfhblloiaa
open Go.Av
attribute [local irreducible] thenA blockA awp awpOps awpD awp1
set_option maxHeartbeats 8000000
set_option maxRecDepth 20000
def bl (R : Nat) (f : Nat → Bool) : List (List AV) := (List.range R).map fun q => [.bool (f q)]
@[go_sem] theorem bl_len (R : Nat) (f : Nat → Bool) : (bl R f).length = R := by simp [bl]
@[go_sem] theorem bl_take (R : Nat) (f : Nat → Bool) : List.take R (bl R f) = bl R f := List.take_of_length_le (by rw [bl_len]; exact Nat.le_refl _)
def nx (t : Tw) (c : List Int) (frm : Int) (n a q : Nat) : Bool := lvl t c frm n (q : Nat) || (List.range a).any fun p => lvl t c frm n (p : Nat) && adjB t c (p : Nat) (q : Nat)
end Go.Proofs.Ythjbfdfhblloiaa

/- Contracts of functions that the claim reaches: what each call gives, told in our own logic. Conditions: those of each theorem. -/
set_option linter.all false
set_option linter.unusedSimpArgs false
set_option linter.unusedVariables false
namespace Go.Proofs.Ythjbfdfhblloiaa
open Go.Av
attribute [local irreducible] thenA blockA awp awpOps awpD awp1
set_option maxHeartbeats 8000000
set_option maxRecDepth 20000
/-! ### The reference: states and places -/
def nl (R : Nat) (f : Nat → Int) : List (List AV) := (List.range R).map fun q => [.int .i64 (f q)]
@[go_sem] theorem nl_len (R : Nat) (f : Nat → Int) : (nl R f).length = R := by simp [nl]
@[go_sem] theorem nl_take (R : Nat) (f : Nat → Int) : List.take R (nl R f) = nl R f := List.take_of_length_le (by rw [nl_len]; exact Nat.le_refl _)
end Go.Proofs.Ythjbfdfhblloiaa

/- Contracts of functions that the claim reaches: what each call gives, told in our own logic. Conditions: those of each theorem. -/
set_option linter.all false
set_option linter.unusedSimpArgs false
set_option linter.unusedVariables false
namespace Go.Proofs.Ythjbfdfhblloiaa
open Go.Av
set_option maxRecDepth 20000
/-! ### Ways are shortest, plain -/
end Go.Proofs.Ythjbfdfhblloiaa

/- Contracts of functions that the claim reaches: what each call gives, told in our own logic. Conditions: those of each theorem. -/
set_option linter.all false
set_option linter.unusedSimpArgs false
set_option linter.unusedVariables false
namespace Go.Proofs.Ythjbfdfhblloiaa
open Go.Av
attribute [local irreducible] thenA blockA awp awpOps awpD awp1
set_option maxHeartbeats 8000000
set_option maxRecDepth 20000
/-! ### What squares hold -/
structure Cm where
  at_ : Int
  many : Int
def Cm.row (x : Cm) : List AV := [.int .i64 x.at_, .int .i64 x.many]
@[go_sem] theorem Cm.row_eq (x : Cm) : x.row = [.int .i64 x.at_, .int .i64 x.many] := rfl
def cm (l : List Cm) (i : Nat) : Cm := l.getD i ⟨0, 0⟩
@[go_sem] theorem cmrow_getD {l : List Cm} {i : Nat} (h : i < l.length) : (l.map Cm.row).getD i [] = (cm l i).row := by
  simp [List.getD_eq_getElem?_getD, h, cm]
theorem wayN_lt {t : Tw} (hT : TwOk t) {g : Gp} (hG : GpOk t g) : ∀ i, i ≤ g.path.length → wayN t g.path g.first i < t.rooms.length
  | 0, _ => hG.first.2
  | i + 1, hi => by
    have a := hG.st i (by omega)
    exact oth_bd hT (i := (elt g.path i).toNat) (by omega) (hG.way (i + 1) hi)
theorem wlk_lt {t : Tw} (hT : TwOk t) {g : Gp} (hG : GpOk t g) (f : Nat → Int) : ∀ (n i k : Nat), i + n = g.path.length → wlk t f (g.path.drop i) k (wayN t g.path g.first i) < t.rooms.length
  | 0, i, k, h => by
    have hw := wayN_lt hT hG i (by omega)
    have hr := hT.r0
    rw [List.drop_eq_nil_of_le (by omega)]
    show (if 0 < k then (-1 : Int) else _) < _
    split <;> omega
  | n + 1, i, 0, h => by
    have hw := wayN_lt hT hG i (by omega)
    rw [drop_getD 0 (by omega : i < g.path.length)]; exact hw
  | n + 1, i, k + 1, h => by
    have hw := wayN_lt hT hG i (by omega)
    have hr := hT.r0
    have ih := wlk_lt hT hG f n (i + 1) k (by omega)
    rw [drop_getD 0 (by omega : i < g.path.length)]
    show (if f (elt g.path i).toNat = 0 then (-2 : Int) else if f (elt g.path i).toNat = 2 then wayN t g.path g.first i else wlk t f (g.path.drop (i + 1)) k (oth (sx t.sts (elt g.path i).toNat) (wayN t g.path g.first i))) < _
    split
    · omega
    · split
      · exact hw
      · exact ih
theorem plc_lt {t : Tw} (hT : TwOk t) {g : Gp} (hG : GpOk t g) (f : Nat → Int) (came step : Int) : plc t f g came step < t.rooms.length := by
  have hr := hT.r0
  unfold plc
  split
  · omega
  · exact wlk_lt hT hG f g.path.length 0 _ (by omega)
end Go.Proofs.Ythjbfdfhblloiaa

/- Contracts of functions that the claim reaches: what each call gives, told in our own logic. Conditions: those of each theorem. -/
set_option linter.all false
set_option linter.unusedSimpArgs false
set_option linter.unusedVariables false
namespace Go.Proofs.Ythjbfdfhblloiaa
open Go.Av
set_option maxRecDepth 20000
/-! ### Narrower spans, plain -/
theorem wlk_ge {t : Tw} {g : Gp} (hG : GpOk t g) (f : Nat → Int) (hf : ∀ j, f j ≠ 0) : ∀ (n i k : Nat), i + n = g.path.length → 0 ≤ wayN t g.path g.first i → -1 ≤ wlk t f (g.path.drop i) k (wayN t g.path g.first i)
  | 0, i, k, h, h0 => by
    rw [List.drop_eq_nil_of_le (by omega)]
    show -1 ≤ (if 0 < k then (-1 : Int) else _)
    split <;> omega
  | n + 1, i, 0, h, h0 => by
    rw [drop_getD 0 (by omega : i < g.path.length)]; show -1 ≤ wayN t g.path g.first i; omega
  | n + 1, i, k + 1, h, h0 => by
    have ih := wlk_ge hG f hf n (i + 1) k (by omega) (hG.way (i + 1) (by omega))
    rw [drop_getD 0 (by omega : i < g.path.length)]
    show -1 ≤ (if f (elt g.path i).toNat = 0 then (-2 : Int) else if f (elt g.path i).toNat = 2 then wayN t g.path g.first i else wlk t f (g.path.drop (i + 1)) k (oth (sx t.sts (elt g.path i).toNat) (wayN t g.path g.first i)))
    rw [if_neg (hf _)]
    split
    · omega
    · exact ih
theorem plc_ge {t : Tw} {g : Gp} (hG : GpOk t g) (f : Nat → Int) (hf : ∀ j, f j ≠ 0) (came step : Int) : -1 ≤ plc t f g came step := by
  unfold plc
  split
  · omega
  · exact wlk_ge hG f hf g.path.length 0 _ (by omega) hG.first.1
theorem cls_ne (c : List Int) (j : Nat) : cls c j ≠ 0 := by
  unfold cls; split <;> decide
theorem wh_has {t : Tw} (hT : TwOk t) {g : Gp} (hG : GpOk t g) (c : List Int) {a st : Int} (ha : g.alo ≤ a ∧ a ≤ g.ahi) (hp : 0 ≤ plc t (cls c) g a st) : (whN t (cls c) g st t.rooms.length).contains (plc t (cls c) g a st) = true := by
  rw [List.contains_iff_mem, whN_mem]
  have := plc_lt hT hG (cls c) a st
  exact ⟨(plc t (cls c) g a st).toNat, by omega, by omega, someB_iff.2 ⟨a, ha.1, ha.2, by omega⟩⟩
theorem wh_away {t : Tw} {g : Gp} (hG : GpOk t g) (c : List Int) {a st : Int} (ha : g.alo ≤ a ∧ a ≤ g.ahi) (hp : plc t (cls c) g a st < 0) : someB t (cls c) g (-1) st = true :=
  someB_iff.2 ⟨a, ha.1, ha.2, by have := plc_ge hG (cls c) (cls_ne c) a st; omega⟩
theorem wh_some {t : Tw} (hT : TwOk t) {g : Gp} (hG : GpOk t g) (c : List Int) {st : Int} (h : whN t (cls c) g st t.rooms.length = []) : someB t (cls c) g (-1) st = true := by
  have ha := hG.at_
  by_cases hp : 0 ≤ plc t (cls c) g g.alo st
  · have := wh_has hT hG c (a := g.alo) (st := st) ⟨Int.le_refl _, ha.2.1⟩ hp
    rw [h] at this; cases this
  · exact wh_away hG c (a := g.alo) ⟨Int.le_refl _, ha.2.1⟩ (by omega)
theorem TwLe.some {u t : Tw} (h : TwLe u t) (s : Nat → Int) {i : Nat} (hi : i < t.gs.length) {q st : Int} (k : someB u s (gp u.gs i) q st = true) : someB t s (gp t.gs i) q st = true := by
  have g := h.g i hi
  obtain ⟨c, h1, h2, h3⟩ := someB_iff.1 k
  exact someB_iff.2 ⟨c, by have := g.alo; omega, by have := g.ahi; omega, by rw [← plc_congr h.sts s g]; exact h3⟩
theorem TwLe.wh {u t : Tw} (h : TwLe u t) (s : Nat → Int) {i : Nat} (hi : i < t.gs.length) {st x : Int} {n : Nat} (k : x ∈ whN u s (gp u.gs i) st n) : x ∈ whN t s (gp t.gs i) st n := by
  obtain ⟨q, h1, h2, h3⟩ := whN_mem.1 k
  exact whN_mem.2 ⟨q, h1, h2, h.some s hi h3⟩
end Go.Proofs.Ythjbfdfhblloiaa
