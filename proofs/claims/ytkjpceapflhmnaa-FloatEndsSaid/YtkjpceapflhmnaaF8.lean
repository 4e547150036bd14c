/- Contracts of functions that the claim reaches: what each call gives, told in our own logic. Conditions: those of each theorem. -/
import Derived.Test.YtkjpceapflhmnaaF1
set_option linter.all false
set_option linter.unusedSimpArgs false
set_option linter.unusedVariables false
namespace Go.Proofs.Ytkjpceapflhmnaa
open Go.Av
attribute [local irreducible] thenA blockA awp awpOps awpD awp1
set_option maxHeartbeats 8000000
set_option maxRecDepth 20000
theorem wr_u64 (n : Int) : isU64 (wr .u64 n) := by
  unfold isU64 wr IntKind.wrap
  simp only [IntKind.signed, IntKind.bits, Bool.false_and, Bool.false_eq_true, if_false]
  omega
theorem xor_u64 (a b : Int) : isU64 (bitop .xor .u64 a b) := wr_u64 _
theorem st_u64 {P : Program} {tt : Nat → TI} {fi : FI} {k0 : Nat} {K : AS → Prop} {T : Nat → AV} {B : Bid → Option (List AV)} {M : List Nat} {H : AH} {d : Tmp} {op : Op} {t : TypeId} {p : String} {a : Array Edge} {g : Option (Nat × Bool)} {v : Int} (hd : isDet ⟨some d, op, t, p, a, g⟩ = true) (h : dres tt fi k0 ⟨some d, op, t, p, a, g⟩ ⟨T, B, M, H⟩ = some (.int .u64 v, .none)) (hv : isU64 v) (hk : ∀ y, isU64 y → K ⟨upd T d (.int .u64 y), B, M, H⟩) :
    awp1 P tt fi k0 ⟨some d, op, t, p, a, g⟩ ⟨T, B, M, H⟩ K := st_det hd h (hk v hv)
theorem c69 (b : Nat × Nat) : Drum Try.prog 69 [.ptr b 0 0] b (fun v => ∃ y, isU64 y ∧ v = .int .u64 y) := by
  refine Drum.of Try.call69 fun h x hx hu hold => ?_
  refine ACalls.of tab mixed Try.call69 Try.func69 rfl (fi := ⟨31, [], [], none, []⟩) rfl rfl (Nat.le_of_ble_eq_true rfl) (by decide) ?_
  unfold startA
  simp only [dr] at hx ⊢
  repeat' (first
      | refine st_seq_reg rfl (by first | (simp only [go_sem, hx]; rfl) | rfl) (by first | (simp only [go_sem, hx]; rfl) | rfl) ?_
      | refine st_reg rfl (by first | (simp only [go_sem, hx]; rfl) | rfl) (by first | (simp only [go_sem, hx]; rfl) | rfl) ?_
      | refine st_seq_draw rfl (by first | (simp only [go_sem, hx]; rfl) | rfl) (by first | (simp only [go_sem, hx]; rfl) | rfl) ?_
      | refine st_draw rfl (by first | (simp only [go_sem, hx]; rfl) | rfl) (by first | (simp only [go_sem, hx]; rfl) | rfl) ?_
      | refine st_op ?_
      | (refine st_u64 rfl (by simp (disch := omega) only [go_sem, wr_i64, if_yes, if_no, ↓reduceIte, Nat.reduceAdd, Nat.reduceMul, Nat.reduceEqDiff, Nat.reduceBEq, Nat.reduceLeDiff, hx]; rfl) (by first | exact wr_u64 _ | exact xor_u64 _ _) ?_; intro y hy)
      | refine st_det rfl (by simp (disch := omega) only [go_sem, wr_i64, if_yes, if_no, ↓reduceIte, Nat.reduceAdd, Nat.reduceMul, Nat.reduceEqDiff, Nat.reduceBEq, Nat.reduceLeDiff, hx]; rfl) ?_
      | refine st_dop rfl ?_
      | refine st_loc rfl (by simp (disch := omega) only [go_sem, wr_i64, if_yes, if_no, ↓reduceIte, Nat.reduceAdd, Nat.reduceMul, Nat.reduceEqDiff, Nat.reduceBEq, Nat.reduceLeDiff, hx]; rfl) ?_
      | refine st_heap rfl (by simp (disch := omega) only [go_sem, wr_i64, if_yes, if_no, ↓reduceIte, Nat.reduceAdd, Nat.reduceMul, Nat.reduceEqDiff, Nat.reduceBEq, Nat.reduceLeDiff, hx]; rfl) ?_
      | refine st_store (by simp (disch := omega) only [go_sem, wr_i64, if_yes, if_no, ↓reduceIte, Nat.reduceAdd, Nat.reduceMul, Nat.reduceEqDiff, Nat.reduceBEq, Nat.reduceLeDiff, hx]; rfl) ?_
      | refine st_append (by simp (disch := omega) only [go_sem, wr_i64, if_yes, if_no, ↓reduceIte, Nat.reduceAdd, Nat.reduceMul, Nat.reduceEqDiff, Nat.reduceBEq, Nat.reduceLeDiff, hx]; rfl) ?_
      | refine st_gT rfl rfl rfl ?_
      | refine st_gF rfl rfl rfl ?_
      | refine st_dgT rfl rfl rfl rfl ?_
      | refine st_dgF rfl rfl rfl ?_
      | (refine st_gS rfl rfl ?_ ?_ <;> intro hg <;> (try simp only [decide_eq_true_eq, decide_eq_false_iff_not, Bool.not_eq_true', Bool.not_eq_false'] at hg))
      | (refine st_dgS rfl rfl ?_ ?_ <;> intro hg <;> (try simp only [decide_eq_true_eq, decide_eq_false_iff_not, Bool.not_eq_true', Bool.not_eq_false'] at hg))
      | refine st_condT rfl ?_
      | refine st_condF rfl ?_
      | (refine st_condS rfl ?_ ?_ <;> intro hg <;> (try simp only [decide_eq_true_eq, decide_eq_false_iff_not, Bool.not_eq_true', Bool.not_eq_false'] at hg))
      | refine st_nil ?_
      | refine st_dnil ?_
      | refine st_tN ?_
      | refine st_seq ?_
      | refine st_block ?_
      | refine st_skip ?_
      | refine st_exit ?_
      | refine st_ret ?_
      | refine st_tE ?_
      | refine st_tR ?_
      | refine st_bN ?_
      | refine st_bR ?_
      | refine st_bH ?_
      | refine st_bM rfl ?_)
  simp (disch := omega) only [AEnd, Try.results69, aresK, fin, go_sem, ↓reduceIte, Nat.reduceEqDiff, Nat.reduceAdd, Nat.reduceLeDiff, if_yes, if_no, implies_true, true_and, and_true, List.reverse_cons, List.reverse_nil]
  exact ⟨fun b' _ hn => if_neg hn, ⟨_, rfl, by assumption⟩, ⟨_, by assumption, rfl⟩⟩
theorem wr_u64i {n : Int} (h : 0 ≤ n ∧ n < 18446744073709551616) : wr .u64 n = n := by
  unfold wr IntKind.wrap
  simp only [IntKind.signed, IntKind.bits, Bool.false_and, Bool.false_eq_true, if_false]
  omega
theorem roll_bd {y n : Int} (hy : isU64 y) (hn : 2 ≤ n) : 0 ≤ (shr .u64 y 1).tmod n ∧ (shr .u64 y 1).tmod n < n := by
  have h : 0 ≤ shr .u64 y 1 := by
    unfold shr
    rw [Int.fdiv_eq_ediv_of_nonneg _ (by decide)]
    have := hy.1
    exact Int.ediv_nonneg this (by decide)
  exact ⟨Int.tmod_nonneg _ h, Int.tmod_lt_of_pos _ (by omega)⟩
/-- What a drum's roll is. -/
def Rolls (n : Int) (v : AV) : Prop := ∃ r, v = .int .i64 r ∧ 0 ≤ r ∧ (r < n ∨ r = 0)
theorem c17 (b : Nat × Nat) (N : Int) (hN : N ≤ 1000000000) : Drum Try.prog 17 [.ptr b 0 0, .int .i64 N] b (Rolls N) := by
  refine Drum.of Try.call17 fun h x hx hu hold => ?_
  refine ACalls.of tab mixed Try.call17 Try.func17 rfl (fi := ⟨14, [], [], none, []⟩) rfl rfl (Nat.le_of_ble_eq_true rfl) (by decide) ?_
  unfold startA
  repeat' (first
      | refine st_seq_reg rfl (by first | (simp only [go_sem, hx, wr_u64i]; rfl) | rfl) (by first | (simp only [go_sem, hx, wr_u64i]; rfl) | rfl) ?_
      | refine st_reg rfl (by first | (simp only [go_sem, hx, wr_u64i]; rfl) | rfl) (by first | (simp only [go_sem, hx, wr_u64i]; rfl) | rfl) ?_
      | refine st_seq_draw rfl (by first | (simp only [go_sem, hx, wr_u64i]; rfl) | rfl) (by first | (simp only [go_sem, hx, wr_u64i]; rfl) | rfl) ?_
      | refine st_draw rfl (by first | (simp only [go_sem, hx, wr_u64i]; rfl) | rfl) (by first | (simp only [go_sem, hx, wr_u64i]; rfl) | rfl) ?_
      | refine st_op ?_
      | refine st_det rfl (by simp (disch := omega) only [go_sem, wr_i64, if_yes, if_no, ↓reduceIte, Nat.reduceAdd, Nat.reduceMul, Nat.reduceEqDiff, Nat.reduceBEq, Nat.reduceLeDiff, hx, wr_u64i]; rfl) ?_
      | refine st_dop rfl ?_
      | refine st_loc rfl (by simp (disch := omega) only [go_sem, wr_i64, if_yes, if_no, ↓reduceIte, Nat.reduceAdd, Nat.reduceMul, Nat.reduceEqDiff, Nat.reduceBEq, Nat.reduceLeDiff, hx, wr_u64i]; rfl) ?_
      | refine st_heap rfl (by simp (disch := omega) only [go_sem, wr_i64, if_yes, if_no, ↓reduceIte, Nat.reduceAdd, Nat.reduceMul, Nat.reduceEqDiff, Nat.reduceBEq, Nat.reduceLeDiff, hx, wr_u64i]; rfl) ?_
      | refine st_store (by simp (disch := omega) only [go_sem, wr_i64, if_yes, if_no, ↓reduceIte, Nat.reduceAdd, Nat.reduceMul, Nat.reduceEqDiff, Nat.reduceBEq, Nat.reduceLeDiff, hx, wr_u64i]; rfl) ?_
      | refine st_append (by simp (disch := omega) only [go_sem, wr_i64, if_yes, if_no, ↓reduceIte, Nat.reduceAdd, Nat.reduceMul, Nat.reduceEqDiff, Nat.reduceBEq, Nat.reduceLeDiff, hx, wr_u64i]; rfl) ?_
      | (refine st_drum (by first | (simp (disch := omega) only [go_sem]; rfl) | (simp (disch := omega) only [go_sem])) rfl (c69 b) (by simp (disch := omega) only [go_sem]; exact hx) hu (by first | (simp only [go_sem]; rfl) | rfl) (by intro x' n; simp (disch := omega) only [go_sem]; rfl) ?_; rintro v x' n hu' ⟨y, hy, rfl⟩ hn; have hr := roll_bd hy (by omega : 2 ≤ N))
      | refine st_gT rfl rfl rfl ?_
      | refine st_gF rfl rfl rfl ?_
      | refine st_dgT rfl rfl rfl rfl ?_
      | refine st_dgF rfl rfl rfl ?_
      | (refine st_gS rfl rfl ?_ ?_ <;> intro hg <;> (try simp only [decide_eq_true_eq, decide_eq_false_iff_not, Bool.not_eq_true', Bool.not_eq_false'] at hg))
      | (refine st_dgS rfl rfl ?_ ?_ <;> intro hg <;> (try simp only [decide_eq_true_eq, decide_eq_false_iff_not, Bool.not_eq_true', Bool.not_eq_false'] at hg))
      | refine st_condT rfl ?_
      | refine st_condF rfl ?_
      | (refine st_condS rfl ?_ ?_ <;> intro hg <;> (try simp only [decide_eq_true_eq, decide_eq_false_iff_not, Bool.not_eq_true', Bool.not_eq_false'] at hg))
      | refine st_nil ?_
      | refine st_dnil ?_
      | refine st_tN ?_
      | refine st_seq ?_
      | refine st_block ?_
      | refine st_skip ?_
      | refine st_exit ?_
      | refine st_ret ?_
      | refine st_tE ?_
      | refine st_tR ?_
      | refine st_bN ?_
      | refine st_bR ?_
      | refine st_bH ?_
      | refine st_bM rfl ?_)
  · simp (disch := omega) only [AEnd, Try.results17, aresK, fin, go_sem, ↓reduceIte, Nat.reduceEqDiff, Nat.reduceAdd, Nat.reduceLeDiff, if_yes, if_no, implies_true, true_and, and_true, List.reverse_cons, List.reverse_nil]
    exact ⟨⟨x, hx, hu⟩, ⟨0, rfl, by omega, by omega⟩⟩
  · simp (disch := omega) only [AEnd, Try.results17, aresK, fin, go_sem, ↓reduceIte, Nat.reduceEqDiff, Nat.reduceAdd, Nat.reduceLeDiff, if_yes, if_no, implies_true, true_and, and_true, List.reverse_cons, List.reverse_nil]
    exact ⟨fun b' _ h2 => if_neg h2, ⟨_, rfl, hu'⟩, ⟨_, rfl, by omega, by omega⟩⟩
theorem c18 (b : Nat × Nat) (lo hi : Int) (h1 : -1000000000 ≤ lo ∧ lo ≤ 1000000000) (h2 : lo - 1 ≤ hi ∧ hi - lo < 1000000000) : Drum Try.prog 18 [.ptr b 0 0, .int .i64 lo, .int .i64 hi] b (fun v => ∃ r, v = .int .i64 r ∧ lo ≤ r ∧ (r ≤ hi ∨ r = lo)) := by
  refine Drum.of Try.call18 fun h x hx hu hold => ?_
  refine ACalls.of tab mixed Try.call18 Try.func18 rfl (fi := ⟨15, [], [], none, []⟩) rfl rfl (Nat.le_of_ble_eq_true rfl) (by decide) ?_
  unfold startA
  repeat' (first
      | refine st_seq_reg rfl (by first | (simp only [go_sem, hx]; rfl) | rfl) (by first | (simp only [go_sem, hx]; rfl) | rfl) ?_
      | refine st_reg rfl (by first | (simp only [go_sem, hx]; rfl) | rfl) (by first | (simp only [go_sem, hx]; rfl) | rfl) ?_
      | refine st_seq_draw rfl (by first | (simp only [go_sem, hx]; rfl) | rfl) (by first | (simp only [go_sem, hx]; rfl) | rfl) ?_
      | refine st_draw rfl (by first | (simp only [go_sem, hx]; rfl) | rfl) (by first | (simp only [go_sem, hx]; rfl) | rfl) ?_
      | refine st_op ?_
      | refine st_det rfl (by simp (disch := omega) only [go_sem, wr_i64, if_yes, if_no, ↓reduceIte, Nat.reduceAdd, Nat.reduceMul, Nat.reduceEqDiff, Nat.reduceBEq, Nat.reduceLeDiff, hx]; rfl) ?_
      | refine st_dop rfl ?_
      | refine st_loc rfl (by simp (disch := omega) only [go_sem, wr_i64, if_yes, if_no, ↓reduceIte, Nat.reduceAdd, Nat.reduceMul, Nat.reduceEqDiff, Nat.reduceBEq, Nat.reduceLeDiff, hx]; rfl) ?_
      | refine st_heap rfl (by simp (disch := omega) only [go_sem, wr_i64, if_yes, if_no, ↓reduceIte, Nat.reduceAdd, Nat.reduceMul, Nat.reduceEqDiff, Nat.reduceBEq, Nat.reduceLeDiff, hx]; rfl) ?_
      | refine st_store (by simp (disch := omega) only [go_sem, wr_i64, if_yes, if_no, ↓reduceIte, Nat.reduceAdd, Nat.reduceMul, Nat.reduceEqDiff, Nat.reduceBEq, Nat.reduceLeDiff, hx]; rfl) ?_
      | refine st_append (by simp (disch := omega) only [go_sem, wr_i64, if_yes, if_no, ↓reduceIte, Nat.reduceAdd, Nat.reduceMul, Nat.reduceEqDiff, Nat.reduceBEq, Nat.reduceLeDiff, hx]; rfl) ?_
      | (refine st_drum (by first | (simp (disch := omega) only [go_sem, hx]; rfl) | rfl) rfl (c17 b _ (by omega)) (by first | (simp (disch := omega) only [go_sem, hx]; rfl) | rfl) (by assumption) (by first | (simp only [go_sem, hx]; rfl) | rfl) (by intro x' n; simp (disch := omega) only [go_sem]; rfl) ?_; rintro v x' n hu' ⟨r, rfl, hr1, hr2⟩ hn)
      | refine st_gT rfl rfl rfl ?_
      | refine st_gF rfl rfl rfl ?_
      | refine st_dgT rfl rfl rfl rfl ?_
      | refine st_dgF rfl rfl rfl ?_
      | (refine st_gS rfl rfl ?_ ?_ <;> intro hg <;> (try simp only [decide_eq_true_eq, decide_eq_false_iff_not, Bool.not_eq_true', Bool.not_eq_false'] at hg))
      | (refine st_dgS rfl rfl ?_ ?_ <;> intro hg <;> (try simp only [decide_eq_true_eq, decide_eq_false_iff_not, Bool.not_eq_true', Bool.not_eq_false'] at hg))
      | refine st_condT rfl ?_
      | refine st_condF rfl ?_
      | (refine st_condS rfl ?_ ?_ <;> intro hg <;> (try simp only [decide_eq_true_eq, decide_eq_false_iff_not, Bool.not_eq_true', Bool.not_eq_false'] at hg))
      | refine st_nil ?_
      | refine st_dnil ?_
      | refine st_tN ?_
      | refine st_seq ?_
      | refine st_block ?_
      | refine st_skip ?_
      | refine st_exit ?_
      | refine st_ret ?_
      | refine st_tE ?_
      | refine st_tR ?_
      | refine st_bN ?_
      | refine st_bR ?_
      | refine st_bH ?_
      | refine st_bM rfl ?_)
  simp (disch := omega) only [AEnd, Try.results18, aresK, fin, go_sem, ↓reduceIte, Nat.reduceEqDiff, Nat.reduceAdd, Nat.reduceLeDiff, if_yes, if_no, implies_true, true_and, and_true, List.reverse_cons, List.reverse_nil]
  exact ⟨fun b' _ h2 => if_neg h2, ⟨_, rfl, hu'⟩, ⟨_, rfl, by omega, by omega⟩⟩
theorem c16 (b : Nat × Nat) (es : List Int) (h1 : es ≠ []) (h2 : (es.length : Int) ≤ 1000) : Drum Try.prog 16 [.ptr b 0 0, .lst 1 (es.map iv)] b (fun v => ∃ r, v = .int .i64 r ∧ r ∈ es) := by
  have h3 : 0 < es.length := List.length_pos_iff.2 h1
  refine Drum.of Try.call16 fun h x hx hu hold => ?_
  refine ACalls.of tab mixed Try.call16 Try.func16 rfl (fi := ⟨15, [], [], none, []⟩) rfl rfl (Nat.le_of_ble_eq_true rfl) (by decide) ?_
  unfold startA
  repeat' (first
      | refine st_seq_reg rfl (by first | (simp only [go_sem, hx]; rfl) | rfl) (by first | (simp only [go_sem, hx]; rfl) | rfl) ?_
      | refine st_reg rfl (by first | (simp only [go_sem, hx]; rfl) | rfl) (by first | (simp only [go_sem, hx]; rfl) | rfl) ?_
      | refine st_seq_draw rfl (by first | (simp only [go_sem, hx]; rfl) | rfl) (by first | (simp only [go_sem, hx]; rfl) | rfl) ?_
      | refine st_draw rfl (by first | (simp only [go_sem, hx]; rfl) | rfl) (by first | (simp only [go_sem, hx]; rfl) | rfl) ?_
      | refine st_op ?_
      | refine st_det rfl (by simp (disch := omega) only [go_sem, wr_i64, if_yes, if_no, ↓reduceIte, Nat.reduceAdd, Nat.reduceMul, Nat.reduceEqDiff, Nat.reduceBEq, Nat.reduceLeDiff, hx]; rfl) ?_
      | refine st_dop rfl ?_
      | refine st_loc rfl (by simp (disch := omega) only [go_sem, wr_i64, if_yes, if_no, ↓reduceIte, Nat.reduceAdd, Nat.reduceMul, Nat.reduceEqDiff, Nat.reduceBEq, Nat.reduceLeDiff, hx]; rfl) ?_
      | refine st_heap rfl (by simp (disch := omega) only [go_sem, wr_i64, if_yes, if_no, ↓reduceIte, Nat.reduceAdd, Nat.reduceMul, Nat.reduceEqDiff, Nat.reduceBEq, Nat.reduceLeDiff, hx]; rfl) ?_
      | refine st_store (by simp (disch := omega) only [go_sem, wr_i64, if_yes, if_no, ↓reduceIte, Nat.reduceAdd, Nat.reduceMul, Nat.reduceEqDiff, Nat.reduceBEq, Nat.reduceLeDiff, hx]; rfl) ?_
      | refine st_append (by simp (disch := omega) only [go_sem, wr_i64, if_yes, if_no, ↓reduceIte, Nat.reduceAdd, Nat.reduceMul, Nat.reduceEqDiff, Nat.reduceBEq, Nat.reduceLeDiff, hx]; rfl) ?_
      | (refine st_drum (by first | (simp (disch := omega) only [go_sem, hx]; rfl) | rfl) rfl (c17 b _ (by omega)) (by first | (simp (disch := omega) only [go_sem, hx]; rfl) | rfl) (by assumption) (by first | (simp only [go_sem, hx]; rfl) | rfl) (by intro x' n; simp (disch := omega) only [go_sem]; rfl) ?_; rintro v x' n hu' ⟨r, rfl, hr1, hr2⟩ hn)
      | refine st_gT rfl rfl rfl ?_
      | refine st_gF rfl rfl rfl ?_
      | refine st_dgT rfl rfl rfl rfl ?_
      | refine st_dgF rfl rfl rfl ?_
      | (refine st_gS rfl rfl ?_ ?_ <;> intro hg <;> (try simp only [decide_eq_true_eq, decide_eq_false_iff_not, Bool.not_eq_true', Bool.not_eq_false'] at hg))
      | (refine st_dgS rfl rfl ?_ ?_ <;> intro hg <;> (try simp only [decide_eq_true_eq, decide_eq_false_iff_not, Bool.not_eq_true', Bool.not_eq_false'] at hg))
      | refine st_condT rfl ?_
      | refine st_condF rfl ?_
      | (refine st_condS rfl ?_ ?_ <;> intro hg <;> (try simp only [decide_eq_true_eq, decide_eq_false_iff_not, Bool.not_eq_true', Bool.not_eq_false'] at hg))
      | refine st_nil ?_
      | refine st_dnil ?_
      | refine st_tN ?_
      | refine st_seq ?_
      | refine st_block ?_
      | refine st_skip ?_
      | refine st_exit ?_
      | refine st_ret ?_
      | refine st_tE ?_
      | refine st_tR ?_
      | refine st_bN ?_
      | refine st_bR ?_
      | refine st_bH ?_
      | refine st_bM rfl ?_)
  · omega
  · simp (disch := omega) only [AEnd, Try.results16, aresK, fin, go_sem, ↓reduceIte, Nat.reduceEqDiff, Nat.reduceAdd, Nat.reduceLeDiff, if_yes, if_no, implies_true, true_and, and_true, List.reverse_cons, List.reverse_nil]
    exact ⟨fun b' _ h2 => if_neg h2, ⟨_, rfl, hu'⟩, ⟨_, rfl, by rw [List.getD_eq_getElem?_getD, List.getElem?_eq_getElem (by omega : r.toNat < es.length)]; exact List.getElem_mem _⟩⟩
theorem c16b (b : Nat × Nat) (x y : Int) : Drum Try.prog 16 [.ptr b 0 0, .lst 1 [[.int .i64 x], [.int .i64 y]]] b (fun v => ∃ r, v = .int .i64 r ∧ (r = x ∨ r = y)) := by
  have h := c16 b [x, y] (by simp) (by simp)
  simpa [iv] using h
theorem c70 (b : Nat × Nat) (lo hi : Int) (h1 : 0 ≤ lo) (h2 : lo ≤ hi) (h3 : hi ≤ 100000000) : Drum Try.prog 70 [.ptr b 0 0, .int .i64 lo, .int .i64 hi] b (fun v => ∃ r q, v = .agg [.int .i64 r, .int .i64 q] ∧ lo ≤ r ∧ r ≤ q ∧ q ≤ hi) := by
  refine Drum.of Try.call70 fun h x hx hu hold => ?_
  refine ACalls.of tab mixed Try.call70 Try.func70 rfl (fi := ⟨36, [6], [], none, []⟩) rfl rfl (Nat.le_of_ble_eq_true rfl) (by decide) ?_
  unfold startA
  repeat' (first
      | refine st_seq_reg rfl (by first | (simp only [go_sem, hx]; rfl) | rfl) (by first | (simp only [go_sem, hx]; rfl) | rfl) ?_
      | refine st_reg rfl (by first | (simp only [go_sem, hx]; rfl) | rfl) (by first | (simp only [go_sem, hx]; rfl) | rfl) ?_
      | refine st_seq_draw rfl (by first | (simp only [go_sem, hx]; rfl) | rfl) (by first | (simp only [go_sem, hx]; rfl) | rfl) ?_
      | refine st_draw rfl (by first | (simp only [go_sem, hx]; rfl) | rfl) (by first | (simp only [go_sem, hx]; rfl) | rfl) ?_
      | refine st_op ?_
      | refine st_det rfl (by simp (disch := omega) only [go_sem, wr_i64, if_yes, if_no, ↓reduceIte, Nat.reduceAdd, Nat.reduceMul, Nat.reduceEqDiff, Nat.reduceBEq, Nat.reduceLeDiff, hx]; rfl) ?_
      | refine st_dop rfl ?_
      | refine st_loc rfl (by simp (disch := omega) only [go_sem, wr_i64, if_yes, if_no, ↓reduceIte, Nat.reduceAdd, Nat.reduceMul, Nat.reduceEqDiff, Nat.reduceBEq, Nat.reduceLeDiff, hx]; rfl) ?_
      | refine st_heap rfl (by simp (disch := omega) only [go_sem, wr_i64, if_yes, if_no, ↓reduceIte, Nat.reduceAdd, Nat.reduceMul, Nat.reduceEqDiff, Nat.reduceBEq, Nat.reduceLeDiff, hx]; rfl) ?_
      | refine st_store (by simp (disch := omega) only [go_sem, wr_i64, if_yes, if_no, ↓reduceIte, Nat.reduceAdd, Nat.reduceMul, Nat.reduceEqDiff, Nat.reduceBEq, Nat.reduceLeDiff, hx]; rfl) ?_
      | refine st_append (by simp (disch := omega) only [go_sem, wr_i64, if_yes, if_no, ↓reduceIte, Nat.reduceAdd, Nat.reduceMul, Nat.reduceEqDiff, Nat.reduceBEq, Nat.reduceLeDiff, hx]; rfl) ?_
      | (refine st_drum (by first | (simp (disch := omega) only [go_sem, hx]; rfl) | rfl) rfl (c17 b _ (by omega)) (by first | (simp (disch := omega) only [go_sem, hx]; rfl) | rfl) (by assumption) (by first | (simp only [go_sem, hx]; rfl) | rfl) (by intro x' n; simp (disch := omega) only [go_sem]; rfl) ?_; rintro v x' n hu' ⟨r, rfl, hr1, hr2⟩ hn)
      | (refine st_drum (by first | (simp (disch := omega) only [go_sem, hx]; rfl) | rfl) rfl (c18 b _ _ (by omega) (by omega)) (by first | (simp (disch := omega) only [go_sem, hx]; rfl) | rfl) (by assumption) (by first | (simp only [go_sem, hx]; rfl) | rfl) (by intro x' n; simp (disch := omega) only [go_sem]; rfl) ?_; rintro v x' n hu' ⟨r, rfl, hr1, hr2⟩ hn)
      | refine st_gT rfl rfl rfl ?_
      | refine st_gF rfl rfl rfl ?_
      | refine st_dgT rfl rfl rfl rfl ?_
      | refine st_dgF rfl rfl rfl ?_
      | (refine st_gS rfl rfl ?_ ?_ <;> intro hg <;> (try simp only [decide_eq_true_eq, decide_eq_false_iff_not, Bool.not_eq_true', Bool.not_eq_false'] at hg))
      | (refine st_dgS rfl rfl ?_ ?_ <;> intro hg <;> (try simp only [decide_eq_true_eq, decide_eq_false_iff_not, Bool.not_eq_true', Bool.not_eq_false'] at hg))
      | refine st_condT rfl ?_
      | refine st_condF rfl ?_
      | (refine st_condS rfl ?_ ?_ <;> intro hg <;> (try simp only [decide_eq_true_eq, decide_eq_false_iff_not, Bool.not_eq_true', Bool.not_eq_false'] at hg))
      | refine st_nil ?_
      | refine st_dnil ?_
      | refine st_tN ?_
      | refine st_seq ?_
      | refine st_block ?_
      | refine st_skip ?_
      | refine st_exit ?_
      | refine st_ret ?_
      | refine st_tE ?_
      | refine st_tR ?_
      | refine st_bN ?_
      | refine st_bR ?_
      | refine st_bH ?_
      | refine st_bM rfl ?_)
  all_goals
    simp (disch := omega) only [AEnd, Try.results70, aresK, fin, go_sem, ↓reduceIte, Nat.reduceEqDiff, Nat.reduceAdd, Nat.reduceLeDiff, if_yes, if_no, implies_true, true_and, and_true, List.reverse_cons, List.reverse_nil]
    exact ⟨fun b' _ h2 => if_neg h2, ⟨_, rfl, by assumption⟩, ⟨_, _, rfl, by omega, by omega, by omega⟩⟩
end Go.Proofs.Ytkjpceapflhmnaa
