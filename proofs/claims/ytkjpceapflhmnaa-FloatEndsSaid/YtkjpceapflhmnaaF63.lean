/- Contracts of functions that the claim reaches: what each call gives, told in our own logic. Conditions: those of each theorem. -/
import Derived.Test.YtkjpceapflhmnaaF64
import Derived.Test.YtkjpceapflhmnaaF62
set_option linter.all false
set_option linter.unusedSimpArgs false
set_option linter.unusedVariables false
namespace Go.Proofs.Ytkjpceapflhmnaa
open Go.Av
attribute [local irreducible] thenA blockA awp awpOps awpD awp1
set_option maxHeartbeats 8000000
set_option maxRecDepth 20000
theorem c61 (lo hi n : Int) (b : Bool) : Pure Try.prog 61 [.agg [.int .i64 lo, .int .i64 hi], .bool b, .int .i64 n] (fun v => v = .agg [.int .i64 (if b = true then min lo n else n), .int .i64 (if b = true then max hi n else n)]) := by
  intro h
  refine ACalls.forget (ACalls.of tab mixed Try.call61 Try.func61 rfl (fi := ⟨20, [6], [3], none, []⟩) rfl rfl (Nat.le_of_ble_eq_true rfl) (by decide) ?_)
  unfold startA
  cases b
  · repeat' (first
        | refine st_seq_reg rfl (by first | (simp only [go_sem]; rfl) | rfl) (by first | (simp only [go_sem]; rfl) | rfl) ?_
        | refine st_reg rfl (by first | (simp only [go_sem]; rfl) | rfl) (by first | (simp only [go_sem]; rfl) | rfl) ?_
        | refine st_seq_draw rfl (by first | (simp only [go_sem]; rfl) | rfl) (by first | (simp only [go_sem]; rfl) | rfl) ?_
        | refine st_draw rfl (by first | (simp only [go_sem]; rfl) | rfl) (by first | (simp only [go_sem]; rfl) | rfl) ?_
        | refine st_op ?_
        | refine st_det rfl (by simp (disch := omega) only [go_sem, wr_i64, if_yes, if_no, ↓reduceIte, Nat.reduceAdd, Nat.reduceMul, Nat.reduceEqDiff, Nat.reduceBEq, Nat.reduceLeDiff]; rfl) ?_
        | refine st_dop rfl ?_
        | refine st_loc rfl (by simp (disch := omega) only [go_sem, wr_i64, if_yes, if_no, ↓reduceIte, Nat.reduceAdd, Nat.reduceMul, Nat.reduceEqDiff, Nat.reduceBEq, Nat.reduceLeDiff]; rfl) ?_
        | refine st_heap rfl (by simp (disch := omega) only [go_sem, wr_i64, if_yes, if_no, ↓reduceIte, Nat.reduceAdd, Nat.reduceMul, Nat.reduceEqDiff, Nat.reduceBEq, Nat.reduceLeDiff]; rfl) ?_
        | refine st_store (by simp (disch := omega) only [go_sem, wr_i64, if_yes, if_no, ↓reduceIte, Nat.reduceAdd, Nat.reduceMul, Nat.reduceEqDiff, Nat.reduceBEq, Nat.reduceLeDiff]; rfl) ?_
        | refine st_append (by simp (disch := omega) only [go_sem, wr_i64, if_yes, if_no, ↓reduceIte, Nat.reduceAdd, Nat.reduceMul, Nat.reduceEqDiff, Nat.reduceBEq, Nat.reduceLeDiff]; rfl) ?_
        | (refine st_pureE (by first | (simp (disch := omega) only [go_sem]; rfl) | rfl) rfl (c41 _) (by first | (simp only [go_sem]; rfl) | rfl) (by intro n; simp (disch := omega) only [go_sem]; rfl) ?_; intro n hn)
        | (refine st_pureE (by first | (simp (disch := omega) only [go_sem]; rfl) | rfl) rfl (c63 _ _) (by first | (simp only [go_sem]; rfl) | rfl) (by intro n; simp (disch := omega) only [go_sem]; rfl) ?_; intro n hn)
        | refine st_gT rfl rfl rfl ?_
        | refine st_gF rfl rfl rfl ?_
        | refine st_dgT rfl rfl rfl rfl ?_
        | refine st_dgF rfl rfl rfl ?_
        | (refine st_gS rfl rfl ?_ ?_ <;> intro hg <;> (try simp only [decide_eq_true_eq, decide_eq_false_iff_not, Bool.not_eq_true', Bool.not_eq_false'] at hg))
        | (refine st_dgS rfl rfl ?_ ?_ <;> intro hg <;> (try simp only [decide_eq_true_eq, decide_eq_false_iff_not, Bool.not_eq_true', Bool.not_eq_false'] at hg))
        | refine st_condT rfl ?_
        | refine st_condF rfl ?_
        | (refine st_condS rfl ?_ ?_ <;> intro hg <;> (try simp only [decide_eq_true_eq, decide_eq_false_iff_not, Bool.not_eq_true', Bool.not_eq_false'] at hg))
        | refine st_nil ?_
        | refine st_dnil ?_
        | refine st_tN ?_
        | refine st_seq ?_
        | refine st_block ?_
        | refine st_skip ?_
        | refine st_exit ?_
        | refine st_ret ?_
        | refine st_tE ?_
        | refine st_tR ?_
        | refine st_bN ?_
        | refine st_bR ?_
        | refine st_bH ?_
        | refine st_bM rfl ?_)
    simp (disch := omega) only [AEnd, Try.results61, aresK, fin, go_sem, ↓reduceIte, Nat.reduceEqDiff, Nat.reduceAdd, Nat.reduceLeDiff, if_yes, if_no, implies_true, true_and, and_true, List.reverse_cons, List.reverse_nil]
    try rfl
  · repeat' (first
        | refine st_seq_reg rfl (by first | (simp only [go_sem]; rfl) | rfl) (by first | (simp only [go_sem]; rfl) | rfl) ?_
        | refine st_reg rfl (by first | (simp only [go_sem]; rfl) | rfl) (by first | (simp only [go_sem]; rfl) | rfl) ?_
        | refine st_seq_draw rfl (by first | (simp only [go_sem]; rfl) | rfl) (by first | (simp only [go_sem]; rfl) | rfl) ?_
        | refine st_draw rfl (by first | (simp only [go_sem]; rfl) | rfl) (by first | (simp only [go_sem]; rfl) | rfl) ?_
        | refine st_op ?_
        | refine st_det rfl (by simp (disch := omega) only [go_sem, wr_i64, if_yes, if_no, ↓reduceIte, Nat.reduceAdd, Nat.reduceMul, Nat.reduceEqDiff, Nat.reduceBEq, Nat.reduceLeDiff]; rfl) ?_
        | refine st_dop rfl ?_
        | refine st_loc rfl (by simp (disch := omega) only [go_sem, wr_i64, if_yes, if_no, ↓reduceIte, Nat.reduceAdd, Nat.reduceMul, Nat.reduceEqDiff, Nat.reduceBEq, Nat.reduceLeDiff]; rfl) ?_
        | refine st_heap rfl (by simp (disch := omega) only [go_sem, wr_i64, if_yes, if_no, ↓reduceIte, Nat.reduceAdd, Nat.reduceMul, Nat.reduceEqDiff, Nat.reduceBEq, Nat.reduceLeDiff]; rfl) ?_
        | refine st_store (by simp (disch := omega) only [go_sem, wr_i64, if_yes, if_no, ↓reduceIte, Nat.reduceAdd, Nat.reduceMul, Nat.reduceEqDiff, Nat.reduceBEq, Nat.reduceLeDiff]; rfl) ?_
        | refine st_append (by simp (disch := omega) only [go_sem, wr_i64, if_yes, if_no, ↓reduceIte, Nat.reduceAdd, Nat.reduceMul, Nat.reduceEqDiff, Nat.reduceBEq, Nat.reduceLeDiff]; rfl) ?_
        | (refine st_pureE (by first | (simp (disch := omega) only [go_sem]; rfl) | rfl) rfl (c41 _) (by first | (simp only [go_sem]; rfl) | rfl) (by intro n; simp (disch := omega) only [go_sem]; rfl) ?_; intro n hn)
        | (refine st_pureE (by first | (simp (disch := omega) only [go_sem]; rfl) | rfl) rfl (c63 _ _) (by first | (simp only [go_sem]; rfl) | rfl) (by intro n; simp (disch := omega) only [go_sem]; rfl) ?_; intro n hn)
        | refine st_gT rfl rfl rfl ?_
        | refine st_gF rfl rfl rfl ?_
        | refine st_dgT rfl rfl rfl rfl ?_
        | refine st_dgF rfl rfl rfl ?_
        | (refine st_gS rfl rfl ?_ ?_ <;> intro hg <;> (try simp only [decide_eq_true_eq, decide_eq_false_iff_not, Bool.not_eq_true', Bool.not_eq_false'] at hg))
        | (refine st_dgS rfl rfl ?_ ?_ <;> intro hg <;> (try simp only [decide_eq_true_eq, decide_eq_false_iff_not, Bool.not_eq_true', Bool.not_eq_false'] at hg))
        | refine st_condT rfl ?_
        | refine st_condF rfl ?_
        | (refine st_condS rfl ?_ ?_ <;> intro hg <;> (try simp only [decide_eq_true_eq, decide_eq_false_iff_not, Bool.not_eq_true', Bool.not_eq_false'] at hg))
        | refine st_nil ?_
        | refine st_dnil ?_
        | refine st_tN ?_
        | refine st_seq ?_
        | refine st_block ?_
        | refine st_skip ?_
        | refine st_exit ?_
        | refine st_ret ?_
        | refine st_tE ?_
        | refine st_tR ?_
        | refine st_bN ?_
        | refine st_bR ?_
        | refine st_bH ?_
        | refine st_bM rfl ?_)
    simp (disch := omega) only [AEnd, Try.results61, aresK, fin, go_sem, ↓reduceIte, Nat.reduceEqDiff, Nat.reduceAdd, Nat.reduceLeDiff, if_yes, if_no, implies_true, true_and, and_true, List.reverse_cons, List.reverse_nil]
    try rfl
theorem c62 (s a : Int) : Pure Try.prog 62 [.int .i64 s, .int .i64 a] (fun v => v = .int .i64 (toldV s a)) := by
  intro h
  refine ACalls.forget (ACalls.of tab mixed Try.call62 Try.func62 rfl (fi := ⟨11, [], [], none, []⟩) rfl rfl (Nat.le_of_ble_eq_true rfl) (by decide) ?_)
  unfold startA
  repeat' (first
      | refine st_seq_reg rfl (by first | (simp only [go_sem]; rfl) | rfl) (by first | (simp only [go_sem]; rfl) | rfl) ?_
      | refine st_reg rfl (by first | (simp only [go_sem]; rfl) | rfl) (by first | (simp only [go_sem]; rfl) | rfl) ?_
      | refine st_seq_draw rfl (by first | (simp only [go_sem]; rfl) | rfl) (by first | (simp only [go_sem]; rfl) | rfl) ?_
      | refine st_draw rfl (by first | (simp only [go_sem]; rfl) | rfl) (by first | (simp only [go_sem]; rfl) | rfl) ?_
      | refine st_op ?_
      | refine st_det rfl (by simp (disch := omega) only [go_sem, wr_i64, if_yes, if_no, ↓reduceIte, Nat.reduceAdd, Nat.reduceMul, Nat.reduceEqDiff, Nat.reduceBEq, Nat.reduceLeDiff]; rfl) ?_
      | refine st_dop rfl ?_
      | refine st_loc rfl (by simp (disch := omega) only [go_sem, wr_i64, if_yes, if_no, ↓reduceIte, Nat.reduceAdd, Nat.reduceMul, Nat.reduceEqDiff, Nat.reduceBEq, Nat.reduceLeDiff]; rfl) ?_
      | refine st_heap rfl (by simp (disch := omega) only [go_sem, wr_i64, if_yes, if_no, ↓reduceIte, Nat.reduceAdd, Nat.reduceMul, Nat.reduceEqDiff, Nat.reduceBEq, Nat.reduceLeDiff]; rfl) ?_
      | refine st_store (by simp (disch := omega) only [go_sem, wr_i64, if_yes, if_no, ↓reduceIte, Nat.reduceAdd, Nat.reduceMul, Nat.reduceEqDiff, Nat.reduceBEq, Nat.reduceLeDiff]; rfl) ?_
      | refine st_append (by simp (disch := omega) only [go_sem, wr_i64, if_yes, if_no, ↓reduceIte, Nat.reduceAdd, Nat.reduceMul, Nat.reduceEqDiff, Nat.reduceBEq, Nat.reduceLeDiff]; rfl) ?_
      | refine st_gT rfl rfl rfl ?_
      | refine st_gF rfl rfl rfl ?_
      | refine st_dgT rfl rfl rfl rfl ?_
      | refine st_dgF rfl rfl rfl ?_
      | (refine st_gS rfl rfl ?_ ?_ <;> intro hg <;> (try simp only [decide_eq_true_eq, decide_eq_false_iff_not, Bool.not_eq_true', Bool.not_eq_false'] at hg))
      | (refine st_dgS rfl rfl ?_ ?_ <;> intro hg <;> (try simp only [decide_eq_true_eq, decide_eq_false_iff_not, Bool.not_eq_true', Bool.not_eq_false'] at hg))
      | refine st_condT rfl ?_
      | refine st_condF rfl ?_
      | (refine st_condS rfl ?_ ?_ <;> intro hg <;> (try simp only [decide_eq_true_eq, decide_eq_false_iff_not, Bool.not_eq_true', Bool.not_eq_false'] at hg))
      | refine st_nil ?_
      | refine st_dnil ?_
      | refine st_tN ?_
      | refine st_seq ?_
      | refine st_block ?_
      | refine st_skip ?_
      | refine st_exit ?_
      | refine st_ret ?_
      | refine st_tE ?_
      | refine st_tR ?_
      | refine st_bN ?_
      | refine st_bR ?_
      | refine st_bH ?_
      | refine st_bM rfl ?_)
  all_goals
    simp (disch := omega) only [AEnd, Try.results62, aresK, fin, go_sem, ↓reduceIte, Nat.reduceEqDiff, Nat.reduceAdd, Nat.reduceLeDiff, if_yes, if_no, implies_true, true_and, and_true, List.reverse_cons, List.reverse_nil]
    simp [toldV, *]
    try omega
theorem accN_le {α : Type} {g : Nat → List α} {B : Nat} : ∀ {n : Nat}, (∀ i, i < n → (g i).length ≤ B) → (accN g n).length ≤ n * B
  | 0, _ => by simp [accN]
  | n + 1, h => by
    have h1 := accN_le (n := n) (fun i hi => h i (by omega))
    have h2 := h n (by omega)
    show (accN g n ++ g n).length ≤ _
    rw [List.length_append, Nat.succ_mul]
    omega
theorem trs_le : ∀ (l : List Ld), Few l → ∀ ks ts, (trs l ks ts).length ≤ 6 ^ l.length
  | [], _, ks, ts => by simp [trs]
  | x :: l, hx, ks, ts => by
    have ih := trs_le l (fun y hy => hx y (List.mem_cons_of_mem _ hy))
    obtain ⟨h1, h2⟩ := hx x (List.mem_cons_self ..)
    have q : ∀ i, (accN (fun j => trs l (ks ++ [x.lo + ((i : Nat) : Int)]) (ts ++ [x.tlo + ((j : Nat) : Int)])) (x.thi + 1 - x.tlo).toNat).length ≤ 2 * 6 ^ l.length := fun i =>
      Nat.le_trans (accN_le fun j _ => ih _ _) (Nat.mul_le_mul_right _ (by omega))
    have q2 : (trs (x :: l) ks ts).length ≤ (x.hi + 1 - x.lo).toNat * (2 * 6 ^ l.length) := accN_le fun i _ => q i
    have q3 : (x.hi + 1 - x.lo).toNat * (2 * 6 ^ l.length) ≤ 3 * (2 * 6 ^ l.length) := Nat.mul_le_mul_right _ (by omega)
    have e : 6 ^ (x :: l).length = 6 ^ l.length * 6 := Nat.pow_succ ..
    rw [e]; omega
theorem all_le {f : Fl} (hf : FlGood f 3) (hx : Few f.loads) : (allT f).length ≤ 216 := by
  have h := trs_le f.loads hx [] []
  have hm := hf.many
  have : 6 ^ f.loads.length ≤ 6 ^ 3 := Nat.pow_le_pow_right (by omega) (by omega)
  have e : (6 : Nat) ^ 3 = 216 := rfl
  unfold allT
  omega
theorem c60p (f : Fl) (hf : FlGood f 3) (hx : Few f.loads) : Pure Try.prog 60 [f.av, .agg [.nils, .nils], .nils] (fun v => v = .lst 2 ((allT f).map trow)) := by
  have hm := hf.many
  have hN := all_le hf hx
  refine Pure.give Try.call60 fun h hold => ACalls.argLe (args' := [f.av, tr [] [], .nils]) ?_ ((c60 f (by omega) (fun y hy => by have h1 := (hf.loads y hy).kilos; have h2 := (hf.loads y hy).top; omega) f.loads [] [] h .nils [] rfl (Nat.zero_le _) rfl (.inl ⟨rfl, rfl⟩) (by show 0 + (allT f).length ≤ _; omega)).mono ?_)
  · simp only [VLes]
    exact ⟨_, _, rfl, VLe.refl _, _, _, rfl, VLe.agg (by simp only [VLes]; exact ⟨_, _, rfl, VLe.nils 1, _, _, rfl, VLe.nils 1, rfl⟩) rfl, _, _, rfl, VLe.refl _, rfl⟩
  · rintro v h' ⟨bo, m, h1, h2, rfl, rfl⟩
    refine ⟨fun b' hb' => ?_, rfl, .inr ⟨bo, ⟨2, (allT f).map trow⟩, h1, ?_, ?_⟩⟩
    · have : ¬ b' = bo := fun e => by rw [e] at hb'; omega
      simp only [outClr, go_sem, if_neg this]
    · simp only [outClr, go_sem, ↓reduceIte]; rfl
    · simp [frz, frzs, allT, List.take_of_length_le]
theorem c64d (n d : Int) (hn : -100000000000 ≤ n ∧ n ≤ 100000000000) (hd : 1 ≤ d ∧ d ≤ 100000) : Pure Try.prog 64 [.int .i64 n, .int .i64 d] (fun v => v = .int .i64 (downI n d)) := c64 n d hn hd
theorem c65d (n d : Int) (hn : -100000000000 ≤ n ∧ n ≤ 100000000000) (hd : 1 ≤ d ∧ d ≤ 100000) : Pure Try.prog 65 [.int .i64 n, .int .i64 d] (fun v => v = .int .i64 (upI n d)) := c65 n d hn hd
/-! ### How often each hurdle is passed -/
def gcl (f : Fl) (A : List (List Int × List Int)) (r : List Hu) (i k : Nat) : List Int := (List.range r.length).map fun j => cnt (goB f A (hu r j)) (if j < k then i + 1 else i)
theorem gcl_len (f : Fl) (A : List (List Int × List Int)) (r : List Hu) (i k : Nat) : (gcl f A r i k).length = r.length := by simp [gcl]
theorem gcl_get {f : Fl} {A : List (List Int × List Int)} {r : List Hu} {i k j : Nat} (hj : j < r.length) : ((gcl f A r i k).map iv).getD j [] = [.int .i64 (cnt (goB f A (hu r j)) (if j < k then i + 1 else i))] := by
  simp [gcl, iv, List.getD_eq_getElem?_getD, hj]
theorem gcl_end (f : Fl) (A : List (List Int × List Int)) (r : List Hu) (i : Nat) : gcl f A r i r.length = gcl f A r (i + 1) 0 := by
  unfold gcl
  refine List.map_congr_left fun j hj => ?_
  rw [if_pos (List.mem_range.1 hj), if_neg (Nat.not_lt_zero _)]
theorem gcl_set {f : Fl} {A : List (List Int × List Int)} {r : List Hu} {i k : Nat} (hk : k < r.length) (hg : goB f A (hu r k) i = true) : ((gcl f A r i k).map iv).set k [.int .i64 (cnt (goB f A (hu r k)) i + 1)] = (gcl f A r i (k + 1)).map iv := by
  have e : cnt (goB f A (hu r k)) i + 1 = cnt (goB f A (hu r k)) (i + 1) := by
    show _ = (if goB f A (hu r k) i then cnt (goB f A (hu r k)) i + 1 else cnt (goB f A (hu r k)) i)
    rw [if_pos hg]
  rw [e]
  refine List.ext_getElem (by simp [gcl]) fun j h1 h2 => ?_
  have hj : j < r.length := by simpa [gcl] using h2
  rw [List.getElem_set]
  by_cases c : k = j
  · subst c; simp [gcl, iv]
  · rw [if_neg c]
    have : (j < k) = (j < k + 1) := propext ⟨fun h => by omega, fun h => by omega⟩
    simp [gcl, iv, this]
theorem gcl_skip {f : Fl} {A : List (List Int × List Int)} {r : List Hu} {i k : Nat} (hk : k < r.length) (hg : goB f A (hu r k) i = false) : gcl f A r i k = gcl f A r i (k + 1) := by
  have e : cnt (goB f A (hu r k)) (i + 1) = cnt (goB f A (hu r k)) i := by
    show (if goB f A (hu r k) i then cnt (goB f A (hu r k)) i + 1 else cnt (goB f A (hu r k)) i) = _
    rw [if_neg (by rw [hg]; decide)]
  unfold gcl
  refine List.map_congr_left fun j hj => ?_
  by_cases c : j = k
  · subst c; rw [if_neg (Nat.lt_irrefl _), if_pos (Nat.lt_succ_self _), e]
  · have : (j < k) = (j < k + 1) := propext ⟨fun h => by omega, fun h => by omega⟩
    simp only [this]
end Go.Proofs.Ytkjpceapflhmnaa
